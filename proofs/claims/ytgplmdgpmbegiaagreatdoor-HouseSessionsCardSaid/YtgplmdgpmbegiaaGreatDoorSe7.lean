/- A part of the proof that HouseSessions holds. No condition. -/
import Derived.Test.YtgplmdgpmbegiaaGreatDoorSe6
import Derived.Test.YtgplmdgpmbegiaaGreatDoorSe0
set_option maxHeartbeats 4000000
set_option linter.all false
open Nat (reduceAdd reduceMul reduceLeDiff reduceEqDiff)
namespace Go.Abs
theorem bj.row{h x}(o:bj h x):x.row.all AV.one=true:=by
 simp only[EV.row,DP,DO,CM,G4,o.n.one,o.v.one,Bool.and_self]
def bj.box{h x}(o:bj h x){N}:nK (.agg x.row) N=some (.ptr N 0,.push (.b x.row)):=by
 have:(AV.agg x.row).cells=x.row:=rfl;simp only[nK,this,o.row,Z7]
def jY{x:EV}:x.row[0]? =some (.i x.ev.num):=rfl
def bC{x:EV}:x.row[1]? =some (.str x.ev.kind):=rfl
def aP{x:EV}:x.row[2]? =some x.sn:=rfl
def bg{x:EV}:x.row[3]? =some x.sv:=rfl
def yQ{x:EV}:x.row[4]? =some (.str x.ev.text):=rfl
def bS{x:EV}{mu tl:Bool}:dK (some 5) 0 (.cells x.row mu tl)=some (.agg x.row,.ar):=rfl
def mH(d:Kd):(kS d).one=true:=by cases d<;>rfl
def l9(d:Kd):(pS d).one=true:=by cases d<;>rfl
def yO{l:List (By)}:bn (l.map λs=>bW (!eZ s) 8)=if l.any (λs=>!eZ s)then 8 else 0:=by
 induction l with
 |nil=>rfl
 |cons a l ih=>
  rw[aaJ,bn,ih,ab9,bW];cases h:eZ a<;>simp
def qC{l:List Int}:bn (l.map λn=>bG n 0 999999999)=if l.any (λn=>decide (bG n 0 999999999≠0))then 3 else 0:=by
 induction l with
 |nil=>rfl
 |cons a l ih=>
  rw[aaJ,bn,ih,ab9];by_cases h:bG a 0 999999999=0
  ·simp[h]
  ·have h3:bG a 0 999999999=3:=by unfold bG at h ⊢;split<;>simp_all
   simp[h3]
def zD{n lo hi}(h:bG n lo hi≠0):bG n lo hi=3:=by unfold bG at h ⊢;split<;>simp_all
set_option maxRecDepth 10000
attribute [local irreducible] WP WC WE WB WR WF WL WG fR
section
variable {P:Program}(T:fD P) {h:ah}
include T
def r131(s:By):ay P 131 [.str s] h (λv _=>v=.i (bW (!eZ s) 8)):=by
 refine .of T.mix T.c131 ?_;unfold fn131 gA;refine Wn ?_;refine WF.ce T.c132 (r132 T s) λg1=>?_
 refine Wn ?_;refine WF.ce T.c85 (r85 T _ _) λg2=>?_
 exact Wn Tv
def r133(n:Int):ay P 133 [.i n] h (λv _=>v=.i (bG n 0 999999999)):=by
 refine .of T.mix T.c133 ?_;unfold fn133 gA;refine Wn ?_;refine WF.ce T.c94 (r94 T _ _ _) λg1=>?_
 exact Wn Tv
def r67{x:EV}(o:bj h x)(hl:x.ev.names.length<=2^40/\x.ev.bQ.length<=2^40):ay P 67 [.agg x.row] h (λv _=>v=.i (dB x.ev)):=by
 refine .jd 53 T.mix T.c67 ?_;intro ts hlen t0;unfold fn67 gA;have Su:=@bj.box _ _ o;refine Rs (A3 t0 @Su @jY) ?_;refine WF.ce T.c94 (r94 T _ _ _) λg1=>?_
 by_cases h0:bG x.ev.num 1 1000=0
 case neg=>
  have e0:decide (bG x.ev.num 1 1000≠0)=true:=ZR h0;refine Rs (A2 t0 e0) ?_;rw[dB,ZY h0];exact aan (AV.int .i64) (zD h0)
 have e0:decide (bG x.ev.num 1 1000≠0)=false:=ZN (λz=>z h0);refine Rs (A2 t0 e0) ?_;refine WF.res T.c90 (r90 T) ?_;rintro _ g2 ⟨vf,rfl,hk⟩;have lk:∀{z:AV},jj .s z true (.map (h++[an.b x.row]++g1).length) (.str x.ev.kind) (λb=>(h++[an.b x.row]++g1++g2)[b]?)=lX z true ((ff x.ev.kind).map vf):=hk.look;cases hd:ff x.ev.kind with
 |none=>
  rw[hd]at lk;have Th:∀{z:AV},_=some (AV.dz [z,.bool false],jv.ar):=@lk;refine Rs (A6 t0 @bC @bX @Th @jr @aai) ?_;rw[dB,ZW (by simpa using h0),hd]
 |some d=>
  rw[hd]at lk;have Th:∀{z:AV},_=some (AV.dz [vf d,.bool true],jv.ar):=@lk;obtain⟨rs,a,hv,hr,ha,hab⟩:=(hk.k d).ex;rw[hv]at Th;have hlr:=hr.aL;have c1:=mH d;have c2:=l9 d;have c3:=hr.one;refine Rs (za t0 @bC @aP @bg @bX @Th @aad @c1 @c2 @c3 @ha @hlr o.n.aL o.v.aL) ?_;have esh:dB x.ev=if x.ev.names.length≠(aM d).length\/x.ev.bQ.length≠bK d then 2 else bn [bn (x.ev.names.map λs=>bW (!eZ s) 8),bn (x.ev.bQ.map λn=>bG n 0 999999999),bW (decide (x.ev.text≠[])) 1]:=by
   rw[dB,ZW (by simpa using h0),hd,yO,qC];simp only;split
   ·rfl
   cases x.ev.names.any (λs=>!eZ s)with
   |true=>rfl
   |false=>
    cases x.ev.bQ.any (λn=>decide (bG n 0 999999999≠0))with
    |true=>rfl
    |false=>by_cases ht:x.ev.text=[]<;>simp[bn,bW,ht]
  rw[esh];by_cases h1:x.ev.names.length=(aM d).length/\x.ev.bQ.length=bK d
  case neg=>
   have e1:(!(decide ((x.ev.names.length:Int)=((aM d).length:Int))&&(decide ((x.ev.bQ.length:Int)=(bK d:Int))&&true)))=true:=by
    by_cases q1:x.ev.names.length=(aM d).length
    ·have q2:¬x.ev.bQ.length=bK d:=λz=>h1 ⟨q1,z⟩
     have q3:¬(x.ev.bQ.length:Int)=(bK d:Int):=Om
     simp[q3]
    ·have q3:¬(x.ev.names.length:Int)=((aM d).length:Int):=Om
     simp[q3]
   rw[e1,ZY Om];exact Rs t0 Tv
  have e1:(!(decide ((x.ev.names.length:Int)=((aM d).length:Int))&&(decide ((x.ev.bQ.length:Int)=(bK d:Int))&&true)))=false:=by
   rw[h1.1,h1.2];simp
  rw[e1,ZW Om];refine Rs (A3 t0 @aP @bg) ?_;refine WF.res T.c130 (r130 T (o.n.ext Xx) hl.1 (λs=>bW (!eZ s) 8) (λs _ k _=>bH.of (a:=[]) (c:=[]) T.c131 (r131 T s))) ?_;rintro s6 g6 hf6;refine Rs (A3 t0 @aP @bg) ?_;refine WF.res T.c92 (r92 T (o.v.ext Xx) hl.2 (λn=>bG n 0 999999999) (λn _ k _=>bH.of (a:=[]) (c:=[]) T.c133 (r133 T n))) ?_;rintro s7 g7 hf7;refine Rs (A3 t0 @aP @bg) ?_;refine WF.ce T.c74 (r74 T (hf6.aO.ext Xx) (by simp;omega)) λg8=>?_
  refine Rs t0 ?_;refine WF.ce T.c74 (r74 T (hf7.aO.ext Xx) (by simp;omega)) λg9=>?_
  refine Rs (A2 t0 @yQ) ?_;refine WF.ce T.c85 (r85 T _ _) λg10=>?_
  refine Rs t0 ?_;refine WF.ce T.c74 (r74 T (cH [_,_,_]) Si) λg11=>?_
  refine Rs t0 ?_;exact⟨Xx,trivial⟩
end
def RL:List AV:=[.str eM,.str eM,.str eM,.str mK,.str mK,.str oQ,.str oQ,.str oQ]
def Gl(h:ah):Prop:=∃mu tl,h[0]? =some (.cells RL mu tl)
def Gl.ext{h k}(o:Gl h)(e:Ext h k):Gl k:=by obtain⟨mu,tl,h1⟩:=o;exact⟨mu,tl,e.some h1⟩
structure Cx(h:ah)(V:RV)(x:EV)(d:Kd):Prop where
 o:aC h V
 w:fQ V.ao
 e:bj h x
 we:kH x.ev d
 nk:tj V.ao x.ev d
def Cx.nm{h V x d}(c:Cx h V x d){i:Nat}(hi:i<(aM d).length):aV 1 x.sn (.i (i:Int))=some (cF x.sn 1 i,.ar)/\∀{k},Ext h k->aq none (cF x.sn 1 i) (λb=>k[b]?)=some (.str (aS x.ev i),.ar):=by
 have hi':i<x.ev.names.length:=by rw[c.we.nl];exact hi
 refine⟨c.e.n.dA hi',λ{k} e=>?_⟩;have:aS x.ev i=x.ev.names[i]:=by rw[aS,aar,ZS hi'];rfl
 rw[this];exact c.e.n.gR hi' rfl e
theorem Cx.vl{h V x d}(c:Cx h V x d){i:Nat}(hi:i<bK d):aV 1 x.sv (.i (i:Int))=some (cF x.sv 1 i,.ar)/\(∀{k},Ext h k->aq none (cF x.sv 1 i) (λb=>k[b]?)=some (.i (bM x.ev i),.ar))/\0<=bM x.ev i/\bM x.ev i<=999999999:=by
 have hi':i<x.ev.bQ.length:=by rw[c.we.vl];exact hi
 have:bM x.ev i=x.ev.bQ[i]:=by rw[bM,aar,ZS hi'];rfl
 refine⟨c.e.v.dA hi',λ{k} e=>?_,c.we.vr _ (qQ hi')⟩;rw[this];exact c.e.v.gR hi' rfl e
theorem Cx.ext{h k V x d}(c:Cx h V x d)(e:Ext h k):Cx k V x d:=⟨c.o.ext e,c.w,c.e.ext e,c.we,c.nk⟩
def eE{c e l}(he:e≠0):bn (bW c e::l)=if c=true then e else bn l:=by
 cases c<;>simp[bn,bW,he]
def uV{a b c l}:bn (bG a b c::l)=if bG a b c≠0 then 3 else bn l:=by
 by_cases h:bG a b c=0
 ·simp[bn,h]
 ·simp[bn,h,zD h]
section
variable {P:Program}(T:fD P) {h:ah}
include T
def r148{V x}(c:Cx h V x .line):ay P 148 [.agg V.row,.agg x.row] h (λv _=>v=.i (bD V.ao x.ev .line)):=by
 refine .fo 17 T.mix T.c148 ?_;intro ts hlen t0 t1;unfold fn148 gA;have Su:=@aC.box _ _ c.o;have hex:=@bj.box _ _ c.e;have i1:aV 1 x.sv (.i 1)=_:=(c.vl (i:=1) De).1;have d1:=@(c.vl (i:=1) De).2.1;refine Rs (A7 t0 t1 @Su @hex @bg @i1 @d1) ?_;refine WF.ce T.c94 (r94 T _ _ _) λg1=>?_
 refine Rs (A4 t0 t1 @gG c.o.i0.aL) ?_;refine WF.ce T.c85 (r85 T _ _) λg2=>?_
 refine Rs (A2 t0 t1) ?_;refine WF.ce T.c74 (r74 T (cH [_,_]) Si) λg3=>?_
 refine Rs (A2 t0 t1) ?_;rw[uV,eE De,bD];congr 2;simp only[aaA,bn];congr 1;exact propext ⟨λz=>(by have:V.ao.lines.length=V.lines.length:=rfl;omega),λz=>(by have:V.ao.lines.length=V.lines.length:=rfl;omega)⟩
def r151{V x}(c:Cx h V x .tape):ay P 151 [.agg V.row,.agg x.row] h (λv _=>v=.i (bD V.ao x.ev .tape)):=by
 refine .fo 23 T.mix T.c151 ?_;intro ts hlen t0 t1;unfold fn151;have Su:=@aC.box _ _ c.o;have hex:=@bj.box _ _ c.e;have i0:aV 1 x.sv (.i 0)=_:=(c.vl (i:=0) De).1;have d0:=@(c.vl (i:=0) De).2.1;have i1:aV 1 x.sv (.i 1)=_:=(c.vl (i:=1) De).1;have d1:=@(c.vl (i:=1) De).2.1;have q0:=(c.vl (i:=0) De).2.2;have q1:=(c.vl (i:=1) De).2.2;have hw:IntKind.i64.wrap (bM x.ev 0+bM x.ev 1)=bM x.ev 0+bM x.ev 1:=aZ Om Om;refine Rs (kJ t0 t1 @Su @hex @bg @i0 @d0 @i1 @d1 @hw) ?_;refine WF.ce T.c85 (r85 T _ _) λg1=>?_
 refine Rs (A4 t0 t1 @lT c.o.i1.aL) ?_;refine WF.ce T.c85 (r85 T _ _) λg2=>?_
 refine Rs (A2 t0 t1) ?_;refine WF.ce T.c74 (r74 T (cH [_,_]) Si) λg3=>?_
 refine Rs (A2 t0 t1) ?_;rw[eE De,eE De,bD];congr 1;simp only[aaA,bn];have e:((16:Int)<=(V.aH.length:Int))=(16<=V.ao.aH.length):=propext ⟨λz=>(by have:V.ao.aH.length=V.aH.length:=rfl;omega),λz=>(by have:V.ao.aH.length=V.aH.length:=rfl;omega)⟩;simp only[e]
def r241{V x n d}(c:Cx h V x d)(hd:0<bK d)(hn:n∈kB V.ao):ay P 241 [.agg V.row,.agg x.row,.str n] h (λv _=>v=.i (bW (!ki V.ao (bM x.ev 0) n) 30)):=by
 refine .nT 17 T.mix T.c241 ?_;intro ts hlen t0 t1 t2;unfold fn241 gA;have Su:=@aC.box _ _ c.o;have hex:=@bj.box _ _ c.e;have i0:aV 1 x.sv (.i 0)=_:=(c.vl (i:=0) hd).1;have d0:=@(c.vl (i:=0) hd).2.1;refine Rs (A6 t0 t1 t2 @Su @hex @aE) ?_;refine WF.ce T.c134 (r134 T (c.o.ext Xx) c.w.len hn) λg1=>?_
 refine Rs (A6 t0 t1 t2 @bg @i0 @d0) ?_;refine WF.ce T.c135 (r135 T _ _) λg2=>?_
 refine Rs (A3 t0 t1 t2) ?_;refine WF.ce T.c85 (r85 T _ _) λg3=>?_
 refine Rs (A3 t0 t1 t2) ?_;rfl
def r155{V x}(c:Cx h V x .hP):ay P 155 [.agg V.row,.agg x.row] h (λv _=>v=.i (bD V.ao x.ev .hP)):=by
 refine .fo 27 T.mix T.c155 ?_;intro ts hlen t0 t1;unfold fn155;have Su:=@aC.box _ _ c.o;have hex:=@bj.box _ _ c.e;have i1:aV 1 x.sn (.i 1)=_:=(c.nm (i:=1) De).1;have d1:=@(c.nm (i:=1) De).2;have i2:aV 1 x.sn (.i 2)=_:=(c.nm (i:=2) De).1;have d2:=@(c.nm (i:=2) De).2;have k1:aS x.ev 1∈gC V.ao:=c.nk.kn 1 0 rfl;have k2:aS x.ev 2∈kB V.ao:=c.nk.kn 2 1 rfl;refine Rs (A8 t0 t1 @Su @hex @aE @aP @i1 @d1) ?_;refine WF.ce T.c205 (r205 T (c.o.ext Xx) c.w.len k1) λg1=>?_
 unfold cC;refine Rs (A2 t0 t1) ?_;refine WF.ce T.c85 (r85 T _ _) λg2=>?_
 refine Rs (A7 t0 t1 @aE @bS @aP @i2 @d2) ?_;refine WF.ce T.c241 (r241 T (c.ext Xx) De k2) λg3=>?_
 refine Rs (A4 t0 t1 @fG c.o.i2.aL) ?_;refine WF.ce T.c85 (r85 T _ _) λg4=>?_
 refine Rs (A2 t0 t1) ?_;refine WF.ce T.c74 (r74 T (cH [_,_,_]) Si) λg5=>?_
 refine Rs (A2 t0 t1) ?_;rw[eE De,eE De,eE De,bD];simp only[aaA,bn];have e:((64:Int)<=(V.aj.length:Int))=(64<=V.ao.aj.length):=by
  have:V.ao.aj.length=V.aj.length:=by simp[RV.ao]
  exact HJ
 simp only[e]
end
def B0{R a b}(ha:a∈kB R)(hb:b∈kB R):(decide ((kh R a).name=(kh R b).name)&&(decide ((kh R a).last=(kh R b).last)&&true))=decide (a=b):=by
 have e1:(kh R a).name=a:=iZ ha;have e2:(kh R b).name=b:=iZ hb;by_cases h:a=b
 ·subst h;simp
 ·rw[e1,e2];simp[h]
section
variable {P:Program}(T:fD P) {h:ah}
include T
def r157{V x}(c:Cx h V x .copy):ay P 157 [.agg V.row,.agg x.row] h (λv _=>v=.i (bD V.ao x.ev .copy)):=by
 refine .fo 35 T.mix T.c157 ?_;intro ts hlen t0 t1;unfold fn157;have Su:=@aC.box _ _ c.o;have hex:=@bj.box _ _ c.e;have i0:aV 1 x.sn (.i 0)=_:=(c.nm (i:=0) De).1;have d0:=@(c.nm (i:=0) De).2;have i1:aV 1 x.sn (.i 1)=_:=(c.nm (i:=1) De).1;have d1:=@(c.nm (i:=1) De).2;have k0:aS x.ev 0∈kB V.ao:=c.nk.kn 0 1 rfl;have k1:aS x.ev 1∈kB V.ao:=c.nk.kn 1 1 rfl;refine Rs (A8 t0 t1 @Su @hex @aE @aP @i0 @d0) ?_;refine WF.ce T.c134 (r134 T (c.o.ext Xx) c.w.len k0) λg1=>?_
 refine Rs (A6 t0 t1 @aE @aP @i1 @d1) ?_;refine WF.ce T.c134 (r134 T (c.o.ext Xx) c.w.len k1) λg2=>?_
 unfold eP;refine Rs (A2 t0 t1) ?_;refine WF.ce T.c85 (r85 T _ _) λg3=>?_
 rw[B0 k0 k1];have n0:(kh V.ao (aS x.ev 0)).name=aS x.ev 0:=iZ k0;have n1:(kh V.ao (aS x.ev 1)).name=aS x.ev 1:=iZ k1;refine Rs (A6 t0 t1 @aE @bS @n0 @n1) ?_;refine WF.ce T.c241 (r241 T (c.ext Xx) De k0) λg4=>?_
 refine Rs (A6 t0 t1 @aE @bS @n0 @n1) ?_;refine WF.ce T.c241 (r241 T (c.ext Xx) De k1) λg5=>?_
 refine Rs (A2 t0 t1) ?_;refine WF.ce T.c74 (r74 T (cH [_,_,_]) Si) λg6=>?_
 refine Rs (A2 t0 t1) ?_;rw[eE De,eE De,eE De,bD];simp only[aaA,bn];exact⟨Xx,trivial⟩
def r161{V x}(o:aC h V)(e:bj h x):ay P 161 [.agg V.row,.agg x.row] h (λv _=>v=.i (bW (decide (32<=V.ao.aD.length)) 5)):=by
 refine .fo 10 T.mix T.c161 ?_;intro ts hlen t0 t1;unfold fn161 gA;have Su:=@aC.box _ _ o;have hex:=@bj.box _ _ e;refine Rs (A6 t0 t1 @Su @hex @gF o.i3.aL) ?_;refine WF.ce T.c85 (r85 T _ _) λg1=>?_
 refine Rs (A2 t0 t1) ?_;have e:decide ((32:Int)<=(V.aD.length:Int))=decide (32<=V.ao.aD.length):=by
  have:V.ao.aD.length=V.aD.length:=by simp[RV.ao]
  rw[abB];omega
 rw[e]
def r244{V x d}(c:Cx h V x d)(hd:0<bK d){y}(hm:y∈V.aj){b b'}(hb:h[b]? =some (.b V.row))(hb':h[b']? =some (.b x.row)):
  ay P 244 [.agg (bt y),.ptr b 0,.ptr b' 0] h (λv _=>v=.bool (!fU V.ao y.1 (bM x.ev 0))):=by
 refine .nT 13 T.mix T.c244 ?_;intro ts hlen t0 t1 t2;unfold fn244 gA;have oy:=(c.o.e2 y hm).one;have lb:∀{k:ah}{n:Option Nat}{a:Nat},Ext h k->aq n (.ptr b a) (λz=>k[z]?)=dK n a (.b V.row):=λe=>az (e.some hb)
 have lc:∀{k:ah}{n:Option Nat}{a:Nat},Ext h k->aq n (.ptr b' a) (λz=>k[z]?)=dK n a (.b x.row):=λe=>az (e.some hb')
 have i0:aV 1 x.sv (.i 0)=_:=(c.vl (i:=0) hd).1;have d0:=@(c.vl (i:=0) hd).2.1;have hsf:=λ(k:ah) (e:Ext h k)=>r76 T (c.o.ext e) c.w.len ((c.o.e2 y hm).ext e) (c.w.yL.sh y hm).2 (c.w.yL.sh y hm).1 (bM x.ev 0)
 unfold bt at t0 hsf;refine Rs (kJ t0 t1 t2 @oy @lb @lc @aE @bg @i0 @d0) ?_;refine WF.ce T.c76 (hsf _ Xx) λg1=>?_
 exact GN
def r159{V x}(c:Cx h V x .accept):ay P 159 [.agg V.row,.agg x.row] h (λv _=>v=.i (bD V.ao x.ev .accept)):=by
 refine .fo 36 T.mix T.c159 ?_;intro ts hlen t0 t1;unfold fn159;have Su:=@aC.box _ _ c.o;have hex:=@bj.box _ _ c.e;have i0:aV 1 x.sn (.i 0)=_:=(c.nm (i:=0) De).1;have d0:=@(c.nm (i:=0) De).2;have k0:aS x.ev 0∈gC V.ao:=c.nk.kn 0 0 rfl;refine Rs (A8 t0 t1 @Su @hex @aE @aP @i0 @d0) ?_;refine WF.ce T.c205 (r205 T (c.o.ext Xx) c.w.len k0) λg1=>?_
 unfold cC;refine Rs (A6 t0 t1 @aE @aP @i0 @d0) ?_;refine WF.res T.c206 (r206 T (c.o.ext Xx) c.w.len _) ?_;rintro s2 g2 Te;refine Rs (A2 t0 t1) ?_;have hin:∀y∈V.aj.filter (λy=>decide (y.1.line=aS x.ev 0)),y∈V.aj:=λy hy=>(aa3.1 hy).1
 have Tc:(V.aj.filter (λy=>decide (y.1.line=aS x.ev 0))).length<=V.aj.length:=aav _ _;have TF:=c.w.len.l2;refine WF.res T.c243 (r243 T (Te.ext Xx) Om (λy=>!fU V.ao y.1 (bM x.ev 0)) (λy hy k e=>bH.of (a:=[]) (c:=[.ptr h.length 0,.ptr (h++[an.b V.row]).length 0]) T.c244 (r244 T (c.ext (Ext.trans Xx e)) De (hin y hy) (e.some ?_) (e.some ?_)))) ?_
 ·exact vc
 ·exact th
 rintro _ g3 rfl;refine Rs (A2 t0 t1) ?_;refine WF.ce T.c85 (r85 T _ _) λg4=>?_
 have hl2:=Te.aL;refine Rs (A3 t0 t1 @hl2) ?_;refine WF.ce T.c85 (r85 T _ _) λg5=>?_
 refine Rs (A2 t0 t1) ?_;refine WF.ce T.c85 (r85 T _ _) λg6=>?_
 refine Rs (A2 t0 t1) ?_;refine WF.ce T.c74 (r74 T (cH [_,_,_]) Si) λg7=>?_
 refine Rs (A2 t0 t1) ?_;rw[eE De,eE De,eE De,bD];have e1:(sO V.ao (aS x.ev 0))=(V.aj.filter (λy=>decide (y.1.line=aS x.ev 0))).map Prod.fst:=by
  show List.filter _ (List.map Prod.fst V.aj)=_;rw[abQ];rfl
 rw[e1,ZU,List.any_map];simp only[aaA,bn];refine⟨Xx,?_⟩;rfl
def r163{V x}(c:Cx h V x .gQ)(gl:Gl h):ay P 163 [.agg V.row,.agg x.row] h (λv _=>v=.i (bD V.ao x.ev .gQ)):=by
 refine .fo 35 T.mix T.c163 ?_;intro ts hlen t0 t1;unfold fn163;have Su:=@aC.box _ _ c.o;have hex:=@bj.box _ _ c.e;have i1:aV 1 x.sn (.i 1)=_:=(c.nm (i:=1) De).1;have d1:=@(c.nm (i:=1) De).2;have j1:aV 1 x.sv (.i 1)=_:=(c.vl (i:=1) De).1;have f1:=@(c.vl (i:=1) De).2.1;have k1:aS x.ev 1∈iS V.ao:=c.nk.kn 1 3 rfl;obtain⟨gmu,gtl,hg0⟩:=gl;rw[bD];by_cases hn:1<=bM x.ev 1/\bM x.ev 1<=4
 case neg=>
  have hr:bG (bM x.ev 1) 1 4≠0:=by unfold bG;rw[ZY Om];decide
  rw[ZY hr];by_cases ha:bM x.ev 1<1
  ·have q1:decide (bM x.ev 1<1)=true:=ZR ha;exact Rs (A8 t0 t1 @Su @hex @bg @j1 @f1 q1) Tv
  ·have q1:decide (bM x.ev 1<1)=false:=ZN ha;have q2:decide (4<bM x.ev 1)=true:=ZR Om;exact Rs (A9 t0 t1 @Su @hex @bg @j1 @f1 q1 q2) Tv
 have hr:¬bG (bM x.ev 1) 1 4≠0:=by unfold bG;rw[ZW Om];decide
 rw[ZW hr];have q1:decide (bM x.ev 1<1)=false:=ZN Om;have q2:decide (4<bM x.ev 1)=false:=ZN Om;have hw:IntKind.i64.wrap (bM x.ev 1-1)=bM x.ev 1-1:=aZ Om Om;have a1:na 4 2 (.ptr 0 0) (.i (bM x.ev 1-1))=some (.ptr 0 ((bM x.ev 1-1).toNat*2)):=by simp only[na];rw[ZY Om,aaD]
 have a2:na 2 1 (.ptr 0 ((bM x.ev 1-1).toNat*2)) (.i 0)=some (.ptr 0 ((bM x.ev 1-1).toNat*2)):=by simp[na]
 have lg:∀{k:ah},Ext h k->aq none (.ptr 0 ((bM x.ev 1-1).toNat*2)) (λb=>k[b]?)=some (.str (nq (bM x.ev 1)),.ar):=by
  intro k e;exact z93
 refine Rs (D5 t0 t1 @Su @hex @aP @bg @j1 @f1 q1 q2 @aE @i1 @d1) ?_;refine WF.res T.c245 (r245 T (c.o.ext Xx) c.w.len k1) ?_;rintro _ g1 ⟨y,hy,Wh,rfl⟩;unfold bf;refine Rs (A6 t0 t1 @hw @a1 @a2 @lg) ?_;refine WF.ce T.c85 (r85 T _ _) λg2=>?_
 refine Rs (A4 t0 t1 @aE @bS) ?_;refine WF.ce T.c161 (r161 T (c.o.ext Xx) (c.e.ext Xx)) λg3=>?_
 refine Rs (A2 t0 t1) ?_;refine WF.ce T.c74 (r74 T (cH [_,_]) Si) λg4=>?_
 refine Rs (A2 t0 t1) ?_;rw[eE De,eE De,Wh];simp only[aaA,bn]
def r165{V x}(c:Cx h V x .merge):ay P 165 [.agg V.row,.agg x.row] h (λv _=>v=.i (bD V.ao x.ev .merge)):=by
 refine .fo 36 T.mix T.c165 ?_;intro ts hlen t0 t1;unfold fn165;have Su:=@aC.box _ _ c.o;have hex:=@bj.box _ _ c.e;have i1:aV 1 x.sn (.i 1)=_:=(c.nm (i:=1) De).1;have d1:=@(c.nm (i:=1) De).2;have i2:aV 1 x.sn (.i 2)=_:=(c.nm (i:=2) De).1;have d2:=@(c.nm (i:=2) De).2;have k1:aS x.ev 1∈iS V.ao:=c.nk.kn 1 3 rfl;have k2:aS x.ev 2∈iS V.ao:=c.nk.kn 2 3 rfl;refine Rs (A9 t0 t1 @Su @hex @aP @i1 @d1 @i2 @d2) ?_;refine WF.ce T.c85 (r85 T _ _) λg1=>?_
 refine Rs (A6 t0 t1 @aE @aP @i1 @d1) ?_;refine WF.res T.c245 (r245 T (c.o.ext Xx) c.w.len k1) ?_;rintro _ g2 ⟨y,hy,Wh,rfl⟩;unfold bf;refine Rs (A6 t0 t1 @aE @aP @i2 @d2) ?_;refine WF.res T.c245 (r245 T (c.o.ext Xx) c.w.len k2) ?_;rintro _ g3 ⟨z,hz,hz1,rfl⟩;unfold bf;refine Rs (A2 t0 t1) ?_;refine WF.ce T.c85 (r85 T _ _) λg4=>?_
 refine Rs (A4 t0 t1 @aE @bS) ?_;refine WF.ce T.c161 (r161 T (c.o.ext Xx) (c.e.ext Xx)) λg5=>?_
 refine Rs (A2 t0 t1) ?_;refine WF.ce T.c74 (r74 T (cH [_,_,_]) Si) λg6=>?_
 refine Rs (A2 t0 t1) ?_;rw[eE De,eE De,eE De,bD,Wh,hz1];simp only[aaA,bn]
def r247(y:iH):ay P 247 [.agg (cC y)] h (λv _=>v=.bool (!y.acc)):=by
 refine .of T.mix T.c247 ?_;unfold fn247 gA cC;exact Wn Tv
def r167{V x}(c:Cx h V x .run):ay P 167 [.agg V.row,.agg x.row] h (λv _=>v=.i (bD V.ao x.ev .run)):=by
 refine .fo 27 T.mix T.c167 ?_;intro ts hlen t0 t1;unfold fn167 gA;have Su:=@aC.box _ _ c.o;have hex:=@bj.box _ _ c.e;have i1:aV 1 x.sn (.i 1)=_:=(c.nm (i:=1) De).1;have d1:=@(c.nm (i:=1) De).2;have j1:aV 1 x.sv (.i 1)=_:=(c.vl (i:=1) De).1;have f1:=@(c.vl (i:=1) De).2.1;have hin:∀y∈V.aD,y.1.bA.length<2^30:=λy hy=>by have:=(c.w.md y.1 (aah hy)).2.1;omega
 refine Rs (A8 t0 t1 @Su @hex @aE @aP @i1 @d1) ?_;refine WF.res T.c122 (r122 T (c.o.ext Xx) c.w.len hin _) ?_;rintro s1 g1 T6;have hsl:(iT V.ao (aS x.ev 1)).length<=V.lines.length:=aav _ _;have TF:=c.w.len.l0;refine Rs (A2 t0 t1) ?_;refine WF.ce T.c246 (r246 T T6 Om (λy=>!y.acc) (λy hy k e=>bH.of (a:=[]) (c:=[]) T.c247 (r247 T y))) λg2=>?_
 refine Rs (A2 t0 t1) ?_;refine WF.ce T.c85 (r85 T _ _) λg3=>?_
 refine Rs (A5 t0 t1 @bg @j1 @f1) ?_;refine WF.ce T.c94 (r94 T _ _ _) λg4=>?_
 refine Rs (A4 t0 t1 @gq c.o.i4.aL) ?_;refine WF.ce T.c85 (r85 T _ _) λg5=>?_
 refine Rs (A2 t0 t1) ?_;refine WF.ce T.c74 (r74 T (cH [_,_,_]) Si) λg6=>?_
 refine Rs (A2 t0 t1) ?_;rw[eE De,uV,eE De,bD];simp only[aaA,bn];have e:((16:Int)<=(V.aG.length:Int))=(16<=V.ao.aG.length):=by
  have:V.ao.aG.length=V.aG.length:=by simp[RV.ao]
  exact HJ
 simp only[e]
end
theorem tW:∀{l m}{i},db (l++m) i=db l i++db m (i+l.length)
 |[],m,i=>by simp[db]
 |x::l,m,i=>by
  have e:i+1+l.length=i+(x::l).length:=by simp;omega
  rw[aaX,db,db,tW,e];split<;>simp
theorem jN:∀{l}{i},(db l i).length<=l.length
 |[],i=>by simp[db]
 |x::l,i=>by
  have:=jN (l:=l) (i:=i+1);rw[db];split<;>simp<;>omega
section
variable {P:Program}(T:fD P) {h:ah}
include T
def r125{x}(hx:aI h x.2 1 (x.1.bz.map aJ))(hl:x.1.bz.length<2^30)(hs:∀s∈x.1.bz,-1<=s):ay P 125 [.agg (bO x)] h (λv h'=>aI h' v 1 ((db x.1.bz 0).map aJ)):=by
 refine .jd 23 T.mix T.c125 ?_;intro ts hlen t0;unfold fn125 gA;have ox:=hx.one;unfold bO at t0;refine Rs (A3 t0 @ox hx.aL) ?_;obtain⟨H0,Xg⟩:∃H0,H0=h++[an.b [AV.str x.1.name,.str x.1.mod,x.2]]:=⟨_,rfl⟩;have e0:Ext h H0:=by rw[Xg];exact Xx
 have lb:∀{k n a},Ext H0 k->aq n (.ptr h.length a) (λz=>k[z]?)=dK n a (.b [AV.str x.1.name,.str x.1.mod,x.2]):=λ{_ _ _} e=>az (e.some (by rw[Xg];exact ba))
 rw[<-Xg];refine WL.inv T.mix (λn ts h'=>∃(k:Nat) (out:AV),k<=x.1.bz.length/\n=x.1.bz.length-k/\Ext H0 h'/\Fr H0.length h' out 1 ((db (x.1.bz.take k) 0).map aJ)/\
   ts.length=23/\slot ts 1=.ptr h.length 0/\slot ts 3=out/\slot ts 7=.i x.1.bz.length/\slot ts 8=.i k) x.1.bz.length
  ⟨0,.af,Om,rfl,Ext.refl _,.nil,Sn,(Sq t0),(Sq t0),(Sq t0),gf⟩ ?_
 rintro _ ts _ ⟨k,out,hk',rfl,⟨g,rfl⟩,hfr,hlen,t1,t3,t7,t8⟩;by_cases hlt:k<x.1.bz.length
 ·have e3:=eF hlt;have ix:=hx.dA (kk:=.i64) hlt;have ld:∀{k':ah},Ext H0 k'->aq none (cF x.2 1 k) (λb=>k'[b]?)=some (.i x.1.bz[k],.ar):=λ{k'} e=>hx.gR hlt rfl (e0.trans e)
  have e5:=wrapN (n:=k) Om;have SC:db (x.1.bz.take (k+1)) 0=db (x.1.bz.take k) 0++(if x.1.bz[k]<0 then [(k:Int)]else []):=by
   exact Q7
  have hsk:=hs _ (ZZ hlt);by_cases hn:x.1.bz[k]= -1
  ·have q:decide (x.1.bz[k]= -1)=true:=ZR hn;rw[ZY Om]at SC;refine Rs (A9 t1 t3 t7 t8 e3 @lb ix @ld q) ?_;have TF:=jN (l:=x.1.bz.take k) (i:=0);refine WR.fP (h0:=H0) (cs:=(db (x.1.bz.take k) 0).map aJ) (ys:=[aJ (k:Int)]) (hfr.app _) (Fr.push (N:=0) (aam _) [aJ (k:Int)] Si).aO De Si (by simp only[ZU,aaw,ZP,ZT]at TF ⊢;omega) Xx ?_;intro g' SI hff hkp;have hrow:(db (x.1.bz.take k) 0).map aJ++[aJ (k:Int)]=(db (x.1.bz.take (k+1)) 0).map aJ:=by rw[SC,ZV];rfl
   rw[hrow]at hff;rw[hrow];refine Rs (A5 t1 t3 t7 t8 e5) ?_;exact HD
  ·have q:decide (x.1.bz[k]= -1)=false:=ZN hn;rw[ZW Om,aaf]at SC;rw[<-SC]at hfr;refine Rs (kJ t1 t3 t7 t8 e3 @lb ix @ld q e5) ?_;exact⟨_,Om,k+1,_,Om,rfl,hfr,rfl,rfl⟩
 ·have e3:=fq hlt;have e4:k=x.1.bz.length:=Om
  rw[e4,aaj]at hfr;have:=hfr.aO;refine Rs (A5 t1 t3 t7 t8 e3) ?_;exact⟨e0.trans Xx,this⟩
def r249{V x d}(c:Cx h V x d)(hd:1<bK d)(h0:0<(aM d).length)(k0:aS x.ev 0∈gD V.ao):ay P 249 [.agg V.row,.agg x.row] h (λv _=>v=.i (kF V.ao x.ev)):=by
 refine .fo 28 T.mix T.c249 ?_;intro ts hlen t0 t1;unfold fn249;have Su:=@aC.box _ _ c.o;have hex:=@bj.box _ _ c.e;have i0:aV 1 x.sn (.i 0)=_:=(c.nm (i:=0) h0).1;have d0:=@(c.nm (i:=0) h0).2;have j1:aV 1 x.sv (.i 1)=_:=(c.vl (i:=1) hd).1;have f1:=@(c.vl (i:=1) hd).2.1;have q1:=(c.vl (i:=1) hd).2.2;refine Rs (A8 t0 t1 @Su @hex @aE @aP @i0 @d0) ?_;refine WF.ce T.c251 (r251 T (c.o.ext Xx) c.w.len _) λg1=>?_
 refine Rs (A2 t0 t1) ?_;refine WF.ce T.c85 (r85 T _ _) λg2=>?_
 refine Rs (A9 t0 t1 @bg @j1 @f1 @aE @aP @i0 @d0) ?_;refine WF.res T.c124 (r124 T (c.o.ext Xx) c.w.len k0) ?_;rintro _ g3 ⟨y,hy,Wh,rfl⟩;have Uk:=(c.o.e4 y hy).aL;have Vs:=(c.w.jb y.1 (aah hy)).2;have hw:IntKind.i64.wrap ((y.1.bz.length:Int)-1)=(y.1.bz.length:Int)-1:=aZ Om Om;unfold bO;refine Rs (A4 t0 t1 @Uk @hw) ?_;refine WF.ce T.c94 (r94 T _ _ _) λg4=>?_
 refine Rs (A2 t0 t1) ?_;refine WF.ce T.c74 (r74 T (cH [_,_]) Si) λg5=>?_
 refine Rs (A2 t0 t1) ?_;rw[eE De,uV,kF,<-Wh];have e:(bG (bM x.ev 1) 0 ((y.1.bz.length:Int)-1)≠0)=((y.1.bz.length:Int)<=bM x.ev 1):=by
  unfold bG;refine propext ⟨λz=>?_,λz=>?_⟩
  ·split at z
   ·omega
   ·exact absurd rfl z
  ·rw[ZY Om];decide
 simp only[e,bn]
def r169{V x}(c:Cx h V x .gO):ay P 169 [.agg V.row,.agg x.row] h (λv _=>v=.i (bD V.ao x.ev .gO)):=by
 refine .fo 27 T.mix T.c169 ?_;intro ts hlen t0 t1;unfold fn169 gA;have Su:=@aC.box _ _ c.o;have hex:=@bj.box _ _ c.e;have i0:aV 1 x.sn (.i 0)=_:=(c.nm (i:=0) De).1;have d0:=@(c.nm (i:=0) De).2;have j1:aV 1 x.sv (.i 1)=_:=(c.vl (i:=1) De).1;have f1:=@(c.vl (i:=1) De).2.1;have q1:=(c.vl (i:=1) De).2.2;have k0:aS x.ev 0∈gD V.ao:=c.nk.kn 0 4 rfl;refine Rs (A6 t0 t1 @Su @hex @aE @bS) ?_;refine WF.ce T.c249 (r249 T (c.ext Xx) De De k0) λg1=>?_
 by_cases hb:kF V.ao x.ev=0
 case neg=>
  exact K9
 have e1:decide (kF V.ao x.ev≠0)=false:=ZN (λz=>z hb);refine Rs (A7 t0 t1 e1 @aE @aP @i0 @d0) ?_;refine WF.res T.c124 (r124 T (c.o.ext Xx) c.w.len k0) ?_;rintro _ g2 ⟨y,hy,Wh,rfl⟩;have Vs:=(c.w.jb y.1 (aah hy)).2;have hlt:(bM x.ev 1).toNat<y.1.bz.length:=by
  exact KL
 have X5:bM x.ev 1=((bM x.ev 1).toNat:Int):=Om
 have iy:aV 1 y.2 (.i (bM x.ev 1))=some (cF y.2 1 (bM x.ev 1).toNat,.ar):=by
  rw[X5];exact(c.o.e4 y hy).dA hlt
 have hsm:gp V.ao x.ev=y.1.bz[(bM x.ev 1).toNat]:=by
  exact KP
 have ly:∀{k:ah},Ext h k->aq none (cF y.2 1 (bM x.ev 1).toNat) (λb=>k[b]?)=some (.i (gp V.ao x.ev),.ar):=λ{k} e=>by
  rw[hsm];exact(c.o.e4 y hy).gR hlt rfl e
 have hsb:=Vs.2.2 _ (ZZ hlt);rw[<-hsm]at hsb;unfold bO;refine Rs (A7 t0 t1 @bg @j1 @f1 @iy @ly) ?_;refine WF.ce T.c85 (r85 T _ _) λg3=>?_
 refine Rs (A2 t0 t1) ?_;rw[bD,ZW (λz=>z hb),bW];have e2:(decide (gp V.ao x.ev≠-1)=true)=(0<=gp V.ao x.ev):=by
  exact KK
 simp only[e2]
def r171{V x}(c:Cx h V x .fail):ay P 171 [.agg V.row,.agg x.row] h (λv _=>v=.i (bD V.ao x.ev .fail)):=by
 refine .fo 27 T.mix T.c171 ?_;intro ts hlen t0 t1;unfold fn171;have Su:=@aC.box _ _ c.o;have hex:=@bj.box _ _ c.e;have i0:aV 1 x.sn (.i 0)=_:=(c.nm (i:=0) De).1;have d0:=@(c.nm (i:=0) De).2;have j1:aV 1 x.sv (.i 1)=_:=(c.vl (i:=1) De).1;have f1:=@(c.vl (i:=1) De).2.1;have q1:=(c.vl (i:=1) De).2.2;have k0:aS x.ev 0∈gD V.ao:=c.nk.kn 0 4 rfl;refine Rs (A6 t0 t1 @Su @hex @aE @bS) ?_;refine WF.ce T.c249 (r249 T (c.ext Xx) De De k0) λg1=>?_
 by_cases hb:kF V.ao x.ev=0
 case neg=>
  exact K9
 have e1:decide (kF V.ao x.ev≠0)=false:=ZN (λz=>z hb);refine Rs (A7 t0 t1 e1 @aE @aP @i0 @d0) ?_;refine WF.res T.c124 (r124 T (c.o.ext Xx) c.w.len k0) ?_;rintro _ g2 ⟨y,hy,Wh,rfl⟩;have Vs:=(c.w.jb y.1 (aah hy)).2;have hlt:(bM x.ev 1).toNat<y.1.bz.length:=by
  exact KL
 have X5:bM x.ev 1=((bM x.ev 1).toNat:Int):=Om
 have iy:aV 1 y.2 (.i (bM x.ev 1))=some (cF y.2 1 (bM x.ev 1).toNat,.ar):=by
  rw[X5];exact(c.o.e4 y hy).dA hlt
 have hsm:gp V.ao x.ev=y.1.bz[(bM x.ev 1).toNat]:=by
  exact KP
 have ly:∀{k:ah},Ext h k->aq none (cF y.2 1 (bM x.ev 1).toNat) (λb=>k[b]?)=some (.i (gp V.ao x.ev),.ar):=λ{k} e=>by
  rw[hsm];exact(c.o.e4 y hy).gR hlt rfl e
 have hsb:=Vs.2.2 _ (ZZ hlt);rw[<-hsm]at hsb;unfold bO;refine Rs (A7 t0 t1 @bg @j1 @f1 @iy @ly) ?_;refine WF.ce T.c85 (r85 T _ _) λg3=>?_
 refine Rs (A2 t0 t1) ?_;rw[bD,ZW (λz=>z hb),bW];have e2:(decide (gp V.ao x.ev= -1)=true)=(gp V.ao x.ev<0):=by
  exact KK
 simp only[e2]
def r173{V x}(c:Cx h V x .ij):ay P 173 [.agg V.row,.agg x.row] h (λv _=>v=.i (bD V.ao x.ev .ij)):=by
 refine .fo 31 T.mix T.c173 ?_;intro ts hlen t0 t1;unfold fn173;have Su:=@aC.box _ _ c.o;have hex:=@bj.box _ _ c.e;have i1:aV 1 x.sn (.i 1)=_:=(c.nm (i:=1) De).1;have d1:=@(c.nm (i:=1) De).2;have k1:aS x.ev 1∈gD V.ao:=c.nk.kn 1 4 rfl;refine Rs (A8 t0 t1 @Su @hex @aE @aP @i1 @d1) ?_;refine WF.res T.c124 (r124 T (c.o.ext Xx) c.w.len k1) ?_;rintro _ g1 ⟨y,hy,Wh,rfl⟩;have Vs:=(c.w.jb y.1 (aah hy)).2;refine Rs (A2 t0 t1) ?_;refine WF.res T.c125 (r125 T (x:=y) ((c.o.e4 y hy).ext Xx) Om (λs hs=>(Vs.2.2 s hs).1)) ?_;rintro s2 g2 Te;have hl2:=Te.aL;refine Rs (A6 t0 t1 @aE @aP @i1 @d1) ?_
 refine WF.ce T.c251 (r251 T (c.o.ext Xx) c.w.len _) λg3=>?_
 refine Rs (A2 t0 t1) ?_;refine WF.ce T.c85 (r85 T _ _) λg4=>?_
 refine Rs (A3 t0 t1 @hl2) ?_;refine WF.ce T.c85 (r85 T _ _) λg5=>?_
 refine Rs (A4 t0 t1 @gE c.o.i5.aL) ?_;refine WF.ce T.c85 (r85 T _ _) λg6=>?_
 refine Rs (A2 t0 t1) ?_;refine WF.ce T.c74 (r74 T (cH [_,_,_]) Si) λg7=>?_
 refine Rs (A2 t0 t1) ?_;rw[eE De,eE De,eE De,bD,<-Wh];have e1:(decide ((0:Int)<((db y.1.bz 0).length:Int))=true)=(db y.1.bz 0≠[]):=by
  rw[aaA];refine propext ⟨λz e=>by rw[e]at z;simp at z,λz=>by have:=aba.2 z;omega⟩
 have e2:(decide ((16:Int)<=(V.aK.length:Int))=true)=(16<=V.ao.aK.length):=by
  rw[aaA];have:V.ao.aK.length=V.aK.length:=rfl;exact HJ
 simp only[e1,e2,bn];exact⟨Xx,trivial⟩
def r175{V x}(c:Cx h V x .rel):ay P 175 [.agg V.row,.agg x.row] h (λv _=>v=.i (bD V.ao x.ev .rel)):=by
 refine .fo 13 T.mix T.c175 ?_;intro ts hlen t0 t1;unfold fn175 gA;have Su:=@aC.box _ _ c.o;have hex:=@bj.box _ _ c.e;have i0:aV 1 x.sn (.i 0)=_:=(c.nm (i:=0) De).1;have d0:=@(c.nm (i:=0) De).2;have k0:aS x.ev 0∈j8 V.ao:=c.nk.kn 0 5 rfl;refine Rs (A8 t0 t1 @Su @hex @aE @aP @i0 @d0) ?_;refine WF.ce T.c218 (r218 T (c.o.ext Xx) c.w.len k0) λg1=>?_
 unfold dG;refine Rs (A2 t0 t1) ?_;refine WF.ce T.c85 (r85 T _ _) λg2=>?_
 refine Rs (A2 t0 t1) ?_;rw[bD,bW]
def Qz{V x d}(hd:d≠.fO)(c:Cx h V x d)(gl:Gl h):bH P (kS d) [.agg V.row,.agg x.row] h (λv _=>v=.i (bD V.ao x.ev d)):=by
 cases d with
 |fO=>exact absurd rfl hd
 |line=>exact bH.of (a:=[]) (c:=[]) T.c148 (r148 T c)
 |tape=>exact bH.of (a:=[]) (c:=[]) T.c151 (r151 T c)
 |hP=>exact bH.of (a:=[]) (c:=[]) T.c155 (r155 T c)
 |copy=>exact bH.of (a:=[]) (c:=[]) T.c157 (r157 T c)
 |accept=>exact bH.of (a:=[]) (c:=[]) T.c159 (r159 T c)
 |source=>
  refine bH.of (a:=[]) (c:=[]) T.c161 ((r161 T c.o c.e).mono λv g hv=>?_);rw[hv,bD,bW];simp only[aaA]
 |gQ=>exact bH.of (a:=[]) (c:=[]) T.c163 (r163 T c gl)
 |merge=>exact bH.of (a:=[]) (c:=[]) T.c165 (r165 T c)
 |run=>exact bH.of (a:=[]) (c:=[]) T.c167 (r167 T c)
 |gO=>exact bH.of (a:=[]) (c:=[]) T.c169 (r169 T c)
 |fail=>exact bH.of (a:=[]) (c:=[]) T.c171 (r171 T c)
 |ij=>exact bH.of (a:=[]) (c:=[]) T.c173 (r173 T c)
 |rel=>exact bH.of (a:=[]) (c:=[]) T.c175 (r175 T c)
end
def jG{l1 l2:List (Option Nat)}{a y:Option Nat}(h:y∈l1\/y∈l2):y∈l1++a::l2:=by rcases h with h|h<;>simp[h]
def wJ{l1 l2:List (Option Nat)}{a y:Option Nat}(h:y∈l1++a::l2):y∈l1\/y=a\/y∈l2:=by simpa using h
def lR.yA{l1 l2 a x}(h:lR (l1++a::l2))(hx:∀i,x=some i->a=some i\/((∀y∈l1,y≠some i)/\∀y∈l2,y≠some i)):lR (l1++x::l2):=by
 obtain⟨h1,h2,h3⟩:=aa1.1 h;obtain⟨h4,h5⟩:=aaM.1 h2;refine aa1.2 ⟨h1,aaM.2 ⟨λy hy b hb=>?_,h5⟩,λy hy z hz b hb=>?_⟩
 ·rcases hx b hb with ha|⟨_,ha⟩
  ·exact h4 y hy b ha
  ·exact ha y hy
 ·rcases aap.1 hz with rfl|hz
  ·intro e;rcases hx b e with ha|⟨ha,_⟩
   ·exact h3 y hy a Si b hb ha
   ·exact ha y hy hb
  ·exact h3 y hy z (aao _ hz) b hb
def lR.ins{l1 l2 x}(h:lR (l1++l2))(hx:∀i,x=some i->(∀y∈l1,y≠some i)/\∀y∈l2,y≠some i):lR (l1++x::l2):=by
 obtain⟨h1,h2,h3⟩:=aa1.1 h;refine aa1.2 ⟨h1,aaM.2 ⟨λy hy b hb=>(hx b hb).2 y hy,h2⟩,λy hy z hz b hb=>?_⟩;rcases aap.1 hz with rfl|hz
 ·exactλe=>(hx b e).1 y hy hb
 ·exact h3 y hy z hz b hb
structure b9(N:Nat)(h:ah)(b:Nat)(V:RV):Prop where
 o:cP N h V
 hN:N<=b
 m:h[b]? =some (.b V.row)
 ne:some b∉V.bl
def b9.lt{N h b V}(r:b9 N h b V):b<h.length:=(ZM.1 r.m).1
theorem b9.app{N h b V}(r:b9 N h b V)(g:ah):b9 N (h++g) b V:=⟨r.o.app g,r.hN,(Ext.app g (Ext.refl h)).some r.m,r.ne⟩
section
variable {N b:Nat}{h k:ah}{V:RV}
def b9.NY(r:b9 N h b V){s:AV}{L:List iH}(hs:Fr N k s 3 (L.map cC))(hn:∀i,sB s=some i->sB V.s0=some i\/h.length<=i)(hm:k[b]? =some (.cells {V with lines:=L,s0:=s}.row true false))
  (hk:∀i,i<h.length->sB V.s0≠some i->i≠b->k[i]? =h[i]?):b9 N k b {V with lines:=L,s0:=s}:=by
 have hd:V.bl=[]++sB V.s0:: ([sB V.s1,sB V.s2,sB V.s3,sB V.s4,sB V.s5]++(V.aj.map λx=>sB x.2)++(V.aD.map λx=>sB x.2)++(V.aG.map λx=>sB x.2)):=rfl;have hin:∀i,some i∈V.bl->N<=i/\i<h.length:=λi hi=>r.o.eO hi
 have Tt:=r.o.di;rw[hd]at Tt;have ar:∀i,(some i∈[]\/some i∈([sB V.s1,sB V.s2,sB V.s3,sB V.s4,sB V.s5]++(V.aj.map λx=>sB x.2)++(V.aD.map λx=>sB x.2)++(V.aG.map λx=>sB x.2)))->k[i]? =h[i]? :=λi hi=>by
  exact z7
 have own:cP N k {V with lines:=L,s0:=s}:=by
  refine⟨hs,(r.o.i1.aB λi hi=>ar i (.inr (by rw[<-hi];simp))),(r.o.i2.aB λi hi=>ar i (.inr (by rw[<-hi];simp))),(r.o.i3.aB λi hi=>ar i (.inr (by rw[<-hi];simp))),(r.o.i4.aB λi hi=>ar i (.inr (by rw[<-hi];simp))),(r.o.i5.aB λi hi=>ar i (.inr (by rw[<-hi];simp))),(λx hx=>(r.o.e2 x hx).aB λi hi=>ar i (.inr (by rw[<-hi];simp only[ZX,aal];exact .inl (.inl (.inr ⟨x,hx,rfl⟩))))),(λx hx=>(r.o.e3 x hx).aB λi hi=>ar i (.inr (by rw[<-hi];simp only[ZX,aal];exact .inl (.inr ⟨x,hx,rfl⟩)))),(λx hx=>(r.o.e4 x hx).aB λi hi=>ar i (.inr (by rw[<-hi];simp only[ZX,aal];exact .inr ⟨x,hx,rfl⟩))),?_⟩;have hx:∀i,sB s=some i->sB V.s0=some i\/((∀y∈[],y≠some i)/\∀y∈([sB V.s1,sB V.s2,sB V.s3,sB V.s4,sB V.s5]++(V.aj.map λx=>sB x.2)++(V.aD.map λx=>sB x.2)++(V.aG.map λx=>sB x.2)),y≠some i):=λi hi=>by
   exact z9
  exact Tt.yA hx
 refine⟨own,r.hN,hm,λhb=>?_⟩;have hbl:=r.lt;have Us:=r.ne;rw[hd]at Us;have e:{V with lines:=L,s0:=s}.bl=[]++sB s:: ([sB V.s1,sB V.s2,sB V.s3,sB V.s4,sB V.s5]++(V.aj.map λx=>sB x.2)++(V.aD.map λx=>sB x.2)++(V.aG.map λx=>sB x.2)):=rfl;exact Ok
def b9.RJ(r:b9 N h b V){s:AV}{L:List sQ}(hs:Fr N k s 2 (L.map eP))(hn:∀i,sB s=some i->sB V.s1=some i\/h.length<=i)(hm:k[b]? =some (.cells {V with aH:=L,s1:=s}.row true false))
  (hk:∀i,i<h.length->sB V.s1≠some i->i≠b->k[i]? =h[i]?):b9 N k b {V with aH:=L,s1:=s}:=by
 have hd:V.bl=[sB V.s0]++sB V.s1:: ([sB V.s2,sB V.s3,sB V.s4,sB V.s5]++(V.aj.map λx=>sB x.2)++(V.aD.map λx=>sB x.2)++(V.aG.map λx=>sB x.2)):=rfl;have hin:∀i,some i∈V.bl->N<=i/\i<h.length:=λi hi=>r.o.eO hi
 have Tt:=r.o.di;rw[hd]at Tt;have ar:∀i,(some i∈[sB V.s0]\/some i∈([sB V.s2,sB V.s3,sB V.s4,sB V.s5]++(V.aj.map λx=>sB x.2)++(V.aD.map λx=>sB x.2)++(V.aG.map λx=>sB x.2)))->k[i]? =h[i]? :=λi hi=>by
  exact z7
 have own:cP N k {V with aH:=L,s1:=s}:=by
  refine⟨(r.o.i0.aB λi hi=>ar i (.inl (by rw[<-hi];simp))),hs,(r.o.i2.aB λi hi=>ar i (.inr (by rw[<-hi];simp))),(r.o.i3.aB λi hi=>ar i (.inr (by rw[<-hi];simp))),(r.o.i4.aB λi hi=>ar i (.inr (by rw[<-hi];simp))),(r.o.i5.aB λi hi=>ar i (.inr (by rw[<-hi];simp))),(λx hx=>(r.o.e2 x hx).aB λi hi=>ar i (.inr (by rw[<-hi];simp only[ZX,aal];exact .inl (.inl (.inr ⟨x,hx,rfl⟩))))),(λx hx=>(r.o.e3 x hx).aB λi hi=>ar i (.inr (by rw[<-hi];simp only[ZX,aal];exact .inl (.inr ⟨x,hx,rfl⟩)))),(λx hx=>(r.o.e4 x hx).aB λi hi=>ar i (.inr (by rw[<-hi];simp only[ZX,aal];exact .inr ⟨x,hx,rfl⟩))),?_⟩;have hx:∀i,sB s=some i->sB V.s1=some i\/((∀y∈[sB V.s0],y≠some i)/\∀y∈([sB V.s2,sB V.s3,sB V.s4,sB V.s5]++(V.aj.map λx=>sB x.2)++(V.aD.map λx=>sB x.2)++(V.aG.map λx=>sB x.2)),y≠some i):=λi hi=>by
   exact z9
  exact Tt.yA hx
 refine⟨own,r.hN,hm,λhb=>?_⟩;have hbl:=r.lt;have Us:=r.ne;rw[hd]at Us;have e:{V with aH:=L,s1:=s}.bl=[sB V.s0]++sB s:: ([sB V.s2,sB V.s3,sB V.s4,sB V.s5]++(V.aj.map λx=>sB x.2)++(V.aD.map λx=>sB x.2)++(V.aG.map λx=>sB x.2)):=rfl;exact Ok
def b9.RI(r:b9 N h b V){s t:AV}{y:j7}(hs:Fr N k s 3 ((V.aj++[(y,t)]).map bt))(ht:Fr N k t 1 (y.aH.map ak))(hn:∀i,sB s=some i->sB V.s2=some i\/h.length<=i)(hnt:∀i,sB t=some i->h.length<=i/\sB s≠some i)
  (hm:k[b]? =some (.cells {V with aj:=V.aj++[(y,t)],s2:=s}.row true false))
  (hk:∀i,i<h.length->sB V.s2≠some i->i≠b->k[i]? =h[i]?):b9 N k b {V with aj:=V.aj++[(y,t)],s2:=s}:=by
 have hd:V.bl=[sB V.s0,sB V.s1]++sB V.s2:: ([sB V.s3,sB V.s4,sB V.s5]++(V.aj.map λx=>sB x.2)++(V.aD.map λx=>sB x.2)++(V.aG.map λx=>sB x.2)):=rfl;have hin:∀i,some i∈V.bl->N<=i/\i<h.length:=λi hi=>r.o.eO hi
 have Tt:=r.o.di;rw[hd]at Tt;have ar:∀i,(some i∈[sB V.s0,sB V.s1]\/some i∈([sB V.s3,sB V.s4,sB V.s5]++(V.aj.map λx=>sB x.2)++(V.aD.map λx=>sB x.2)++(V.aG.map λx=>sB x.2)))->k[i]? =h[i]? :=λi hi=>by
  exact z7
 have own:cP N k {V with aj:=V.aj++[(y,t)],s2:=s}:=by
  refine⟨(r.o.i0.aB λi hi=>ar i (.inl (by rw[<-hi];simp))),(r.o.i1.aB λi hi=>ar i (.inl (by rw[<-hi];simp))),hs,(r.o.i3.aB λi hi=>ar i (.inr (by rw[<-hi];simp))),(r.o.i4.aB λi hi=>ar i (.inr (by rw[<-hi];simp))),(r.o.i5.aB λi hi=>ar i (.inr (by rw[<-hi];simp))),(λx hx=>by
   rcases ZX.1 hx with hx|hx
   ·exact(r.o.e2 x hx).aB λi hi=>ar i (.inr (by rw[<-hi];simp only[ZX,aal];exact .inl (.inl (.inr ⟨x,hx,rfl⟩))))
   ·rw[Z9]at hx;subst hx;exact ht),(λx hx=>(r.o.e3 x hx).aB λi hi=>ar i (.inr (by rw[<-hi];simp only[ZX,aal];exact .inl (.inr ⟨x,hx,rfl⟩)))),(λx hx=>(r.o.e4 x hx).aB λi hi=>ar i (.inr (by rw[<-hi];simp only[ZX,aal];exact .inr ⟨x,hx,rfl⟩))),?_⟩
  have hx:∀i,sB s=some i->sB V.s2=some i\/((∀y∈[sB V.s0,sB V.s1],y≠some i)/\∀y∈([sB V.s3,sB V.s4,sB V.s5]++(V.aj.map λx=>sB x.2)++(V.aD.map λx=>sB x.2)++(V.aG.map λx=>sB x.2)),y≠some i):=λi hi=>by
   exact z9
  have h1:=Tt.yA hx;have h2:lR (([sB V.s0,sB V.s1,sB s,sB V.s3,sB V.s4,sB V.s5]++(V.aj.map λx=>sB x.2))++((V.aD.map λx=>sB x.2)++(V.aG.map λx=>sB x.2))):=by
   have:[sB V.s0,sB V.s1]++sB s:: ([sB V.s3,sB V.s4,sB V.s5]++(V.aj.map λx=>sB x.2)++(V.aD.map λx=>sB x.2)++(V.aG.map λx=>sB x.2))=([sB V.s0,sB V.s1,sB s,sB V.s3,sB V.s4,sB V.s5]++(V.aj.map λx=>sB x.2))++((V.aD.map λx=>sB x.2)++(V.aG.map λx=>sB x.2)):=Si
   rw[<-this];exact h1
  have h3:=h2.ins (x:=sB t) (λi hi=>by
   obtain⟨n1,n2⟩:=hnt i hi;refine⟨λy hy e=>?_,λy hy e=>?_⟩
   ·exact Oj
   ·subst e;have:=(hin i (by rw[hd];simp only[ZX,aap,aaI,abm]at hy ⊢<;>grind)).2;omega)
  have:{V with aj:=V.aj++[(y,t)],s2:=s}.bl=([sB V.s0,sB V.s1,sB s,sB V.s3,sB V.s4,sB V.s5]++(V.aj.map λx=>sB x.2))++sB t:: ((V.aD.map λx=>sB x.2)++(V.aG.map λx=>sB x.2)):=by
   simp[RV.bl]
  rw[this];exact h3
 exact Oq
def b9.RH(r:b9 N h b V){s t:AV}{y:jc}(hs:Fr N k s 4 ((V.aD++[(y,t)]).map bf))(ht:Fr N k t 1 (y.bA.map ak))(hn:∀i,sB s=some i->sB V.s3=some i\/h.length<=i)(hnt:∀i,sB t=some i->h.length<=i/\sB s≠some i)
  (hm:k[b]? =some (.cells {V with aD:=V.aD++[(y,t)],s3:=s}.row true false))
  (hk:∀i,i<h.length->sB V.s3≠some i->i≠b->k[i]? =h[i]?):b9 N k b {V with aD:=V.aD++[(y,t)],s3:=s}:=by
 have hd:V.bl=[sB V.s0,sB V.s1,sB V.s2]++sB V.s3:: ([sB V.s4,sB V.s5]++(V.aj.map λx=>sB x.2)++(V.aD.map λx=>sB x.2)++(V.aG.map λx=>sB x.2)):=rfl;have hin:∀i,some i∈V.bl->N<=i/\i<h.length:=λi hi=>r.o.eO hi
 have Tt:=r.o.di;rw[hd]at Tt;have ar:∀i,(some i∈[sB V.s0,sB V.s1,sB V.s2]\/some i∈([sB V.s4,sB V.s5]++(V.aj.map λx=>sB x.2)++(V.aD.map λx=>sB x.2)++(V.aG.map λx=>sB x.2)))->k[i]? =h[i]? :=λi hi=>by
  exact z7
 have own:cP N k {V with aD:=V.aD++[(y,t)],s3:=s}:=by
  refine⟨(r.o.i0.aB λi hi=>ar i (.inl (by rw[<-hi];simp))),(r.o.i1.aB λi hi=>ar i (.inl (by rw[<-hi];simp))),(r.o.i2.aB λi hi=>ar i (.inl (by rw[<-hi];simp))),hs,(r.o.i4.aB λi hi=>ar i (.inr (by rw[<-hi];simp))),(r.o.i5.aB λi hi=>ar i (.inr (by rw[<-hi];simp))),(λx hx=>(r.o.e2 x hx).aB λi hi=>ar i (.inr (by rw[<-hi];simp only[ZX,aal];exact .inl (.inl (.inr ⟨x,hx,rfl⟩))))),(λx hx=>by
   rcases ZX.1 hx with hx|hx
   ·exact(r.o.e3 x hx).aB λi hi=>ar i (.inr (by rw[<-hi];simp only[ZX,aal];exact .inl (.inr ⟨x,hx,rfl⟩)))
   ·rw[Z9]at hx;subst hx;exact ht),(λx hx=>(r.o.e4 x hx).aB λi hi=>ar i (.inr (by rw[<-hi];simp only[ZX,aal];exact .inr ⟨x,hx,rfl⟩))),?_⟩
  have hx:∀i,sB s=some i->sB V.s3=some i\/((∀y∈[sB V.s0,sB V.s1,sB V.s2],y≠some i)/\∀y∈([sB V.s4,sB V.s5]++(V.aj.map λx=>sB x.2)++(V.aD.map λx=>sB x.2)++(V.aG.map λx=>sB x.2)),y≠some i):=λi hi=>by
   exact z9
  have h1:=Tt.yA hx;have h2:lR (([sB V.s0,sB V.s1,sB V.s2,sB s,sB V.s4,sB V.s5]++(V.aj.map λx=>sB x.2)++(V.aD.map λx=>sB x.2))++((V.aG.map λx=>sB x.2))):=by
   have:[sB V.s0,sB V.s1,sB V.s2]++sB s:: ([sB V.s4,sB V.s5]++(V.aj.map λx=>sB x.2)++(V.aD.map λx=>sB x.2)++(V.aG.map λx=>sB x.2))=([sB V.s0,sB V.s1,sB V.s2,sB s,sB V.s4,sB V.s5]++(V.aj.map λx=>sB x.2)++(V.aD.map λx=>sB x.2))++((V.aG.map λx=>sB x.2)):=Si
   rw[<-this];exact h1
  have h3:=h2.ins (x:=sB t) (λi hi=>by
   obtain⟨n1,n2⟩:=hnt i hi;refine⟨λy hy e=>?_,λy hy e=>?_⟩
   ·exact Oj
   ·subst e;have:=(hin i (by rw[hd];simp only[ZX,aap,aaI,abm]at hy ⊢<;>grind)).2;omega)
  have:{V with aD:=V.aD++[(y,t)],s3:=s}.bl=([sB V.s0,sB V.s1,sB V.s2,sB s,sB V.s4,sB V.s5]++(V.aj.map λx=>sB x.2)++(V.aD.map λx=>sB x.2))++sB t:: ((V.aG.map λx=>sB x.2)):=by
   simp[RV.bl]
  rw[this];exact h3
 exact Oq
def b9.RG(r:b9 N h b V){s t:AV}{y:kI}(hs:Fr N k s 3 ((V.aG++[(y,t)]).map bO))(ht:Fr N k t 1 (y.bz.map aJ))(hn:∀i,sB s=some i->sB V.s4=some i\/h.length<=i)(hnt:∀i,sB t=some i->h.length<=i/\sB s≠some i)
  (hm:k[b]? =some (.cells {V with aG:=V.aG++[(y,t)],s4:=s}.row true false))
  (hk:∀i,i<h.length->sB V.s4≠some i->i≠b->k[i]? =h[i]?):b9 N k b {V with aG:=V.aG++[(y,t)],s4:=s}:=by
 have hd:V.bl=[sB V.s0,sB V.s1,sB V.s2,sB V.s3]++sB V.s4:: ([sB V.s5]++(V.aj.map λx=>sB x.2)++(V.aD.map λx=>sB x.2)++(V.aG.map λx=>sB x.2)):=rfl;have hin:∀i,some i∈V.bl->N<=i/\i<h.length:=λi hi=>r.o.eO hi
 have Tt:=r.o.di;rw[hd]at Tt;have ar:∀i,(some i∈[sB V.s0,sB V.s1,sB V.s2,sB V.s3]\/some i∈([sB V.s5]++(V.aj.map λx=>sB x.2)++(V.aD.map λx=>sB x.2)++(V.aG.map λx=>sB x.2)))->k[i]? =h[i]? :=λi hi=>by
  exact z7
 have own:cP N k {V with aG:=V.aG++[(y,t)],s4:=s}:=by
  refine⟨(r.o.i0.aB λi hi=>ar i (.inl (by rw[<-hi];simp))),(r.o.i1.aB λi hi=>ar i (.inl (by rw[<-hi];simp))),(r.o.i2.aB λi hi=>ar i (.inl (by rw[<-hi];simp))),(r.o.i3.aB λi hi=>ar i (.inl (by rw[<-hi];simp))),hs,(r.o.i5.aB λi hi=>ar i (.inr (by rw[<-hi];simp))),(λx hx=>(r.o.e2 x hx).aB λi hi=>ar i (.inr (by rw[<-hi];simp only[ZX,aal];exact .inl (.inl (.inr ⟨x,hx,rfl⟩))))),(λx hx=>(r.o.e3 x hx).aB λi hi=>ar i (.inr (by rw[<-hi];simp only[ZX,aal];exact .inl (.inr ⟨x,hx,rfl⟩)))),(λx hx=>by
   rcases ZX.1 hx with hx|hx
   ·exact(r.o.e4 x hx).aB λi hi=>ar i (.inr (by rw[<-hi];simp only[ZX,aal];exact .inr ⟨x,hx,rfl⟩))
   ·rw[Z9]at hx;subst hx;exact ht),?_⟩
  have hx:∀i,sB s=some i->sB V.s4=some i\/((∀y∈[sB V.s0,sB V.s1,sB V.s2,sB V.s3],y≠some i)/\∀y∈([sB V.s5]++(V.aj.map λx=>sB x.2)++(V.aD.map λx=>sB x.2)++(V.aG.map λx=>sB x.2)),y≠some i):=λi hi=>by
   exact z9
  have h1:=Tt.yA hx;have h2:lR (([sB V.s0,sB V.s1,sB V.s2,sB V.s3,sB s,sB V.s5]++(V.aj.map λx=>sB x.2)++(V.aD.map λx=>sB x.2)++(V.aG.map λx=>sB x.2))++([])):=by
   have:[sB V.s0,sB V.s1,sB V.s2,sB V.s3]++sB s:: ([sB V.s5]++(V.aj.map λx=>sB x.2)++(V.aD.map λx=>sB x.2)++(V.aG.map λx=>sB x.2))=([sB V.s0,sB V.s1,sB V.s2,sB V.s3,sB s,sB V.s5]++(V.aj.map λx=>sB x.2)++(V.aD.map λx=>sB x.2)++(V.aG.map λx=>sB x.2))++([]):=Si
   rw[<-this];exact h1
  have h3:=h2.ins (x:=sB t) (λi hi=>by
   obtain⟨n1,n2⟩:=hnt i hi;refine⟨λy hy e=>?_,λy hy e=>?_⟩
   ·exact Oj
   ·subst e;have:=(hin i (by rw[hd];simp only[ZX,aap,aaI,abm]at hy ⊢<;>grind)).2;omega)
  have:{V with aG:=V.aG++[(y,t)],s4:=s}.bl=([sB V.s0,sB V.s1,sB V.s2,sB V.s3,sB s,sB V.s5]++(V.aj.map λx=>sB x.2)++(V.aD.map λx=>sB x.2)++(V.aG.map λx=>sB x.2))++sB t:: ([]):=by
   simp[RV.bl]
  rw[this];exact h3
 exact Oq
def b9.NX(r:b9 N h b V){s:AV}{L:List pI}(hs:Fr N k s 4 (L.map dG))(hn:∀i,sB s=some i->sB V.s5=some i\/h.length<=i)(hm:k[b]? =some (.cells {V with aK:=L,s5:=s}.row true false))
  (hk:∀i,i<h.length->sB V.s5≠some i->i≠b->k[i]? =h[i]?):b9 N k b {V with aK:=L,s5:=s}:=by
 have hd:V.bl=[sB V.s0,sB V.s1,sB V.s2,sB V.s3,sB V.s4]++sB V.s5:: ([]++(V.aj.map λx=>sB x.2)++(V.aD.map λx=>sB x.2)++(V.aG.map λx=>sB x.2)):=rfl;have hin:∀i,some i∈V.bl->N<=i/\i<h.length:=λi hi=>r.o.eO hi
 have Tt:=r.o.di;rw[hd]at Tt;have ar:∀i,(some i∈[sB V.s0,sB V.s1,sB V.s2,sB V.s3,sB V.s4]\/some i∈([]++(V.aj.map λx=>sB x.2)++(V.aD.map λx=>sB x.2)++(V.aG.map λx=>sB x.2)))->k[i]? =h[i]? :=λi hi=>by
  exact z7
 have own:cP N k {V with aK:=L,s5:=s}:=by
  refine⟨(r.o.i0.aB λi hi=>ar i (.inl (by rw[<-hi];simp))),(r.o.i1.aB λi hi=>ar i (.inl (by rw[<-hi];simp))),(r.o.i2.aB λi hi=>ar i (.inl (by rw[<-hi];simp))),(r.o.i3.aB λi hi=>ar i (.inl (by rw[<-hi];simp))),(r.o.i4.aB λi hi=>ar i (.inl (by rw[<-hi];simp))),hs,(λx hx=>(r.o.e2 x hx).aB λi hi=>ar i (.inr (by rw[<-hi];simp only[ZX,aal];exact .inl (.inl (.inr ⟨x,hx,rfl⟩))))),(λx hx=>(r.o.e3 x hx).aB λi hi=>ar i (.inr (by rw[<-hi];simp only[ZX,aal];exact .inl (.inr ⟨x,hx,rfl⟩)))),(λx hx=>(r.o.e4 x hx).aB λi hi=>ar i (.inr (by rw[<-hi];simp only[ZX,aal];exact .inr ⟨x,hx,rfl⟩))),?_⟩;have hx:∀i,sB s=some i->sB V.s5=some i\/((∀y∈[sB V.s0,sB V.s1,sB V.s2,sB V.s3,sB V.s4],y≠some i)/\∀y∈([]++(V.aj.map λx=>sB x.2)++(V.aD.map λx=>sB x.2)++(V.aG.map λx=>sB x.2)),y≠some i):=λi hi=>by
   exact z9
  exact Tt.yA hx
 refine⟨own,r.hN,hm,λhb=>?_⟩;have hbl:=r.lt;have Us:=r.ne;rw[hd]at Us;have e:{V with aK:=L,s5:=s}.bl=[sB V.s0,sB V.s1,sB V.s2,sB V.s3,sB V.s4]++sB s:: ([]++(V.aj.map λx=>sB x.2)++(V.aD.map λx=>sB x.2)++(V.aG.map λx=>sB x.2)):=rfl;exact Ok
end
def uv(B:ah)(b:Nat)(V:RV)(e:fi)(d:Kd)(k:ah):Prop:=∃g' V',k=B++g'/\b9 B.length (B++g') b V'/\V'.ao=dO V.ao e d
def jn{B g:ah}{b i:Nat}{V:RV}{v:AV}(hb:(B++g)[b]? =some (.b V.row))(hv:v.one=true)(hi:i<7):a8 1 (.ptr b i) v (λz=>(B++g)[z]?)=some (aA,.set b (.b (V.row.set i v))):=by
 rw[aN hb];exact cD hv (by show i+1<=7;omega)
def nL{B g:ah}{b:Nat}{V:RV}(X:an)(hN:B.length<=b)(hb:(B++g)[b]? =some (.b V.row)):(B++g).set b X=B++g.set (b-B.length) X/\(B++g.set (b-B.length) X)[b]? =some X/\∀i,i≠b->(B++g.set (b-B.length) X)[i]? =(B++g)[i]? :=by
 have h1:(B++g).set b X=B++g.set (b-B.length) X:=aaE _ _ hN;refine⟨h1,?_,λi hi=>?_⟩
 ·rw[<-h1,Z8 (ZM.1 hb).1]
 ·rw[<-h1,Z4 (abe hi)]
def fH{ts h}:cR [] ts h=some (.dz []):=rfl
section
variable {B g g':ah}{b:Nat}{V:RV}{e:fi}{d:Kd}
def M9(r:b9 B.length (B++g) b V){s:AV}{L:List iH}(hff:Fr B.length (B++g') s 3 (L.map cC))(hb':∀i,sB s=some i->sB V.s0=some i\/(B++g).length<=i)(hk1:∀i,i<(B++g).length->sB V.s0≠some i->(B++g')[i]? =(B++g)[i]?)
  (hreg:{V with lines:=L,s0:=s}.ao=dO V.ao e d):uv B b V e d ((B++g').set b (.b (V.row.set 1 s))):=by
 have hbl:=r.lt;have SK:sB V.s0≠some b:=λz=>r.ne (by rw[<-z];simp[RV.bl])
 have mB:(B++g')[b]? =some (.b V.row):=(hk1 b hbl SK).trans r.m;obtain⟨h1,h2,h3⟩:=nL (.b (V.row.set 1 s)) r.hN mB;have hsb:∀i,sB s=some i->i≠b:=λi hi z=>by
  exact J0
 exact⟨_,_,h1,r.NY (hff.aB λi hi=>h3 i (hsb i hi)) hb' h2 (λi hi hne SK=>(h3 i SK).trans (hk1 i hi hne)),hreg⟩
def M8(r:b9 B.length (B++g) b V){s:AV}{L:List sQ}(hff:Fr B.length (B++g') s 2 (L.map eP))(hb':∀i,sB s=some i->sB V.s1=some i\/(B++g).length<=i)(hk1:∀i,i<(B++g).length->sB V.s1≠some i->(B++g')[i]? =(B++g)[i]?)
  (hreg:{V with aH:=L,s1:=s}.ao=dO V.ao e d):uv B b V e d ((B++g').set b (.b (V.row.set 2 s))):=by
 have hbl:=r.lt;have SK:sB V.s1≠some b:=λz=>r.ne (by rw[<-z];simp[RV.bl])
 have mB:(B++g')[b]? =some (.b V.row):=(hk1 b hbl SK).trans r.m;obtain⟨h1,h2,h3⟩:=nL (.b (V.row.set 2 s)) r.hN mB;have hsb:∀i,sB s=some i->i≠b:=λi hi z=>by
  exact J0
 exact⟨_,_,h1,r.RJ (hff.aB λi hi=>h3 i (hsb i hi)) hb' h2 (λi hi hne SK=>(h3 i SK).trans (hk1 i hi hne)),hreg⟩
def M7(r:b9 B.length (B++g) b V){s t:AV}{y:j7}(hff:Fr B.length (B++g') s 3 ((V.aj++[(y,t)]).map bt))(ht:Fr B.length (B++g') t 1 (y.aH.map ak))(hb':∀i,sB s=some i->sB V.s2=some i\/(B++g).length<=i)(hk1:∀i,i<(B++g).length->sB V.s2≠some i->(B++g')[i]? =(B++g)[i]?)(hnt:∀i,sB t=some i->(B++g).length<=i/\sB s≠some i)
  (hreg:{V with aj:=V.aj++[(y,t)],s2:=s}.ao=dO V.ao e d):uv B b V e d ((B++g').set b (.b (V.row.set 3 s))):=by
 have hbl:=r.lt;have SK:sB V.s2≠some b:=λz=>r.ne (by rw[<-z];simp[RV.bl])
 have mB:(B++g')[b]? =some (.b V.row):=(hk1 b hbl SK).trans r.m;obtain⟨h1,h2,h3⟩:=nL (.b (V.row.set 3 s)) r.hN mB;have hsb:∀i,sB s=some i->i≠b:=λi hi z=>by
  exact J0
 have htb:∀i,sB t=some i->i≠b:=λi hi z=>by
  exact Aw
 exact⟨_,_,h1,r.RI (hff.aB λi hi=>h3 i (hsb i hi)) (ht.aB λi hi=>h3 i (htb i hi)) hb' hnt h2 (λi hi hne SK=>(h3 i SK).trans (hk1 i hi hne)),hreg⟩
def Hh(r:b9 B.length (B++g) b V){s t:AV}{y:jc}(hff:Fr B.length (B++g') s 4 ((V.aD++[(y,t)]).map bf))(ht:Fr B.length (B++g') t 1 (y.bA.map ak))(hb':∀i,sB s=some i->sB V.s3=some i\/(B++g).length<=i)(hk1:∀i,i<(B++g).length->sB V.s3≠some i->(B++g')[i]? =(B++g)[i]?)(hnt:∀i,sB t=some i->(B++g).length<=i/\sB s≠some i)
  (hreg:{V with aD:=V.aD++[(y,t)],s3:=s}.ao=dO V.ao e d):uv B b V e d ((B++g').set b (.b (V.row.set 4 s))):=by
 have hbl:=r.lt;have SK:sB V.s3≠some b:=λz=>r.ne (by rw[<-z];simp[RV.bl])
 have mB:(B++g')[b]? =some (.b V.row):=(hk1 b hbl SK).trans r.m;obtain⟨h1,h2,h3⟩:=nL (.b (V.row.set 4 s)) r.hN mB;have hsb:∀i,sB s=some i->i≠b:=λi hi z=>by
  exact J0
 have htb:∀i,sB t=some i->i≠b:=λi hi z=>by
  exact Aw
 exact⟨_,_,h1,r.RH (hff.aB λi hi=>h3 i (hsb i hi)) (ht.aB λi hi=>h3 i (htb i hi)) hb' hnt h2 (λi hi hne SK=>(h3 i SK).trans (hk1 i hi hne)),hreg⟩
def M6(r:b9 B.length (B++g) b V){s t:AV}{y:kI}(hff:Fr B.length (B++g') s 3 ((V.aG++[(y,t)]).map bO))(ht:Fr B.length (B++g') t 1 (y.bz.map aJ))(hb':∀i,sB s=some i->sB V.s4=some i\/(B++g).length<=i)(hk1:∀i,i<(B++g).length->sB V.s4≠some i->(B++g')[i]? =(B++g)[i]?)(hnt:∀i,sB t=some i->(B++g).length<=i/\sB s≠some i)
  (hreg:{V with aG:=V.aG++[(y,t)],s4:=s}.ao=dO V.ao e d):uv B b V e d ((B++g').set b (.b (V.row.set 5 s))):=by
 have hbl:=r.lt;have SK:sB V.s4≠some b:=λz=>r.ne (by rw[<-z];simp[RV.bl])
 have mB:(B++g')[b]? =some (.b V.row):=(hk1 b hbl SK).trans r.m;obtain⟨h1,h2,h3⟩:=nL (.b (V.row.set 5 s)) r.hN mB;have hsb:∀i,sB s=some i->i≠b:=λi hi z=>by
  exact J0
 have htb:∀i,sB t=some i->i≠b:=λi hi z=>by
  exact Aw
 exact⟨_,_,h1,r.RG (hff.aB λi hi=>h3 i (hsb i hi)) (ht.aB λi hi=>h3 i (htb i hi)) hb' hnt h2 (λi hi hne SK=>(h3 i SK).trans (hk1 i hi hne)),hreg⟩
def M5(r:b9 B.length (B++g) b V){s:AV}{L:List pI}(hff:Fr B.length (B++g') s 4 (L.map dG))(hb':∀i,sB s=some i->sB V.s5=some i\/(B++g).length<=i)(hk1:∀i,i<(B++g).length->sB V.s5≠some i->(B++g')[i]? =(B++g)[i]?)
  (hreg:{V with aK:=L,s5:=s}.ao=dO V.ao e d):uv B b V e d ((B++g').set b (.b (V.row.set 6 s))):=by
 have hbl:=r.lt;have SK:sB V.s5≠some b:=λz=>r.ne (by rw[<-z];simp[RV.bl])
 have mB:(B++g')[b]? =some (.b V.row):=(hk1 b hbl SK).trans r.m;obtain⟨h1,h2,h3⟩:=nL (.b (V.row.set 6 s)) r.hN mB;have hsb:∀i,sB s=some i->i≠b:=λi hi z=>by
  exact J0
 exact⟨_,_,h1,r.NX (hff.aB λi hi=>h3 i (hsb i hi)) hb' h2 (λi hi hne SK=>(h3 i SK).trans (hk1 i hi hne)),hreg⟩
end
section
variable {P:Program}(T:fD P) {B g:ah}{b:Nat}{V:RV}{x:EV}
include T
def P3(r:b9 B.length (B++g) b V)(c:Cx (B++g) V x .line):dE P 149 [.ptr b 0,.agg x.row] (B++g) (λ_ k=>uv B b V x.ev .line k):=by
 refine .fo 22 T.mix T.c149 ?_;intro ts hlen t0 t1;unfold fn149;have hex:=@bj.box _ _ c.e;have lb:=@fw _ _ _ r.m;have i0:aV 1 x.sn (.i 0)=_:=(c.nm (i:=0) De).1;have d0:=@(c.nm (i:=0) De).2;have j1:aV 1 x.sv (.i 1)=_:=(c.vl (i:=1) De).1;have f1:=@(c.vl (i:=1) De).2.1;have q1:=(c.vl (i:=1) De).2.2;obtain⟨y,hy⟩:∃y:iH,y=⟨aS x.ev 0,bM x.ev 1,false⟩:=⟨_,rfl⟩;have Uj:cC y=[.str (aS x.ev 0),.i (bM x.ev 1),.bool false]:=by rw[hy];rfl
 refine Rs (mQ t0 t1 @hex @lb @gG @aP @bg @i0 @d0 @j1 @f1) ?_;rw[<-Uj];refine WR.fP (h0:=B) (cs:=V.lines.map cC) (ys:=[cC y]) (((r.o.i0).app _).app _) (Fr.push (N:=0) (aam _) [cC y] (by simp[cC])).aO De Si (by have:=c.w.len.l0;simp;omega) Xx ?_;intro g' SI hff hkp;have hrow:V.lines.map cC++[cC y]=(V.lines++[y]).map cC:=by rw[ZV];rfl
 rw[hrow]at hff;rw[hrow];have hbl:=r.lt;have SK:sB V.s0≠some b:=λe=>r.ne (by rw[<-e];simp[RV.bl])
 have hk1:∀i,i<(B++g).length->sB V.s0≠some i->(B++g')[i]? =(B++g)[i]? :=λi hi hne=>by
  exact J2
 have mB:(B++g')[b]? =some (.b V.row):=(hk1 b hbl SK).trans r.m;have VE:=λ(b' o n e:Nat)=>jn (i:=1) (v:=.slice b' o n e) mB rfl De
 refine Rs (A4 t0 t1 @VE @fH) ?_;exact M9 r hff (λi hi=>by cases hi;exact .inr (by simp only[ZL];omega)) hk1 (by rw[hy];rfl)
def P2(r:b9 B.length (B++g) b V)(c:Cx (B++g) V x .tape):dE P 152 [.ptr b 0,.agg x.row] (B++g) (λ_ k=>uv B b V x.ev .tape k):=by
 refine .fo 27 T.mix T.c152 ?_;intro ts hlen t0 t1;unfold fn152;have hex:=@bj.box _ _ c.e;have lb:=@fw _ _ _ r.m;have i0:aV 1 x.sn (.i 0)=_:=(c.nm (i:=0) De).1;have d0:=@(c.nm (i:=0) De).2;have j0:aV 1 x.sv (.i 0)=_:=(c.vl (i:=0) De).1;have f0:=@(c.vl (i:=0) De).2.1;have q0:=(c.vl (i:=0) De).2.2;have j1:aV 1 x.sv (.i 1)=_:=(c.vl (i:=1) De).1;have f1:=@(c.vl (i:=1) De).2.1;have q1:=(c.vl (i:=1) De).2.2;have hw:IntKind.i64.wrap (bM x.ev 0+bM x.ev 1)=bM x.ev 0+bM x.ev 1:=aZ Om Om;obtain⟨y,hy⟩:∃y:sQ,y=⟨aS x.ev 0,bM x.ev 0+bM x.ev 1⟩:=⟨_,rfl⟩
 have Uj:eP y=[.str (aS x.ev 0),.i (bM x.ev 0+bM x.ev 1)]:=by rw[hy];rfl
 refine Rs (za t0 t1 @hex @lb @lT @aP @bg @hw @i0 @d0 @j0 @f0 @j1 @f1) ?_;rw[<-Uj];refine WR.fP (h0:=B) (cs:=V.aH.map eP) (ys:=[eP y]) (((r.o.i1).app _).app _) (Fr.push (N:=0) (aam _) [eP y] (by simp[eP])).aO De Si (by have:=c.w.len.l1;simp;omega) Xx ?_;intro g' SI hff hkp;have hrow:V.aH.map eP++[eP y]=(V.aH++[y]).map eP:=by rw[ZV];rfl
 rw[hrow]at hff;rw[hrow];have hbl:=r.lt;have SK:sB V.s1≠some b:=λe=>r.ne (by rw[<-e];simp[RV.bl])
 have hk1:∀i,i<(B++g).length->sB V.s1≠some i->(B++g')[i]? =(B++g)[i]? :=λi hi hne=>by
  exact J2
 have mB:(B++g')[b]? =some (.b V.row):=(hk1 b hbl SK).trans r.m;have VE:=λ(b' o n e:Nat)=>jn (i:=2) (v:=.slice b' o n e) mB rfl De
 refine Rs (A4 t0 t1 @VE @fH) ?_;exact M8 r hff (λi hi=>by cases hi;exact .inr (by simp only[ZL];omega)) hk1 (by rw[hy];rfl)
end
theorem uX:∀(l:List Int) (x:Int),(∀s∈l,-1<=s/\s<=999999999)->-16777213<x->x<16777213->-16777213<l.foldl (λx s=>(257*x+s).tmod 16777213) x/\l.foldl (λx s=>(257*x+s).tmod 16777213) x<16777213
 |[],x,_,h1,h2=>⟨h1,h2⟩
 |s::l,x,hs,h1,h2=>by
  have hb:-16777213<(257*x+s).tmod 16777213/\(257*x+s).tmod 16777213<16777213:=by
   constructor
   ·have:=Int.lt_tmod_of_pos (257*x+s) (show(0:Int)<16777213 by decide);exact this
   ·exact Int.tmod_lt_of_pos _ De
  exact uX l _ (λt ht=>hs t (aao _ ht)) hb.1 hb.2
section
variable {P:Program}(T:fD P) {h:ah}
include T
def r95{s l}(hs:aI h s 1 (l.map aJ))(hl:l.length<2^30)(hb:∀s∈l,-1<=s/\s<=999999999):ay P 95 [s] h (λv _=>v=.i (gT l)):=by
 refine .jd 19 T.mix T.c95 ?_;intro ts hlen t0;unfold fn95 gA;refine Rs (A2 t0 hs.aL) ?_;refine WL.inv T.mix (λn ts h'=>∃k:Nat,k<=l.length/\n=l.length-k/\h' =h/\ts.length=19/\slot ts 3=.i (gT (l.take k))/\slot ts 6=s/\slot ts 7=.i l.length/\slot ts 8=.i k) l.length
  ⟨0,Om,rfl,rfl,Sn,gf,(Sq t0),(Sq t0),gf⟩ ?_
 rintro _ ts _ ⟨k,hk,rfl,rfl,hlen,t3,t6,t7,t8⟩;by_cases hlt:k<l.length
 ·have e3:=eF hlt;have ix:=hs.dA (kk:=.i64) hlt;have ld:=hs.gR (i:=k) (x:=.i l[k]) hlt rfl (Ext.refl _);have e5:=wrapN (n:=k) Om;have hd:=uX (l.take k) 1 (λs hs=>hb s (aaP hs)) De De;have Uf:=hb _ (ZZ hlt);have Td:-16777213<gT (l.take k)/\gT (l.take k)<16777213:=hd;have w1:IntKind.i64.wrap (257*gT (l.take k))=257*gT (l.take k):=aZ Om Om;have w2:IntKind.i64.wrap (257*gT (l.take k)+l[k])=257*gT (l.take k)+l[k]:=aZ Om Om;have er:=o9 (k:=.i64) (a:=257*gT (l.take k)+l[k]) (b:=16777213) De;have SC:gT (l.take (k+1))=(257*gT (l.take k)+l[k]).tmod 16777213:=by
   exact z171
  rw[<-SC]at er;refine Rs (mQ t3 t6 t7 t8 e3 ix @ld @w1 @w2 @er e5) ?_;exact⟨_,Om,k+1,Om,rfl,rfl,rfl⟩
 ·have e3:=fq hlt;have e4:k=l.length:=Om
  rw[e4,aaj]at t3;exact Rs (A5 t3 t6 t7 t8 e3) Tv
end
section
variable {P:Program}(T:fD P) {B g:ah}{b:Nat}{V:RV}{x:EV}
include T
def P1(r:b9 B.length (B++g) b V)(c:Cx (B++g) V x .hP):dE P 156 [.ptr b 0,.agg x.row] (B++g) (λ_ k=>uv B b V x.ev .hP k):=by
 refine .fo 27 T.mix T.c156 ?_;intro ts hlen t0 t1;unfold fn156;have hex:=@bj.box _ _ c.e;have lb:=@fw _ _ _ r.m;have i0:aV 1 x.sn (.i 0)=_:=(c.nm (i:=0) De).1;have d0:=@(c.nm (i:=0) De).2;have i1:aV 1 x.sn (.i 1)=_:=(c.nm (i:=1) De).1;have d1:=@(c.nm (i:=1) De).2;have i2:aV 1 x.sn (.i 2)=_:=(c.nm (i:=2) De).1;have d2:=@(c.nm (i:=2) De).2;obtain⟨y,hy⟩:∃y:j7,y=⟨aS x.ev 0,aS x.ev 1,[aS x.ev 2]⟩:=⟨_,rfl⟩;obtain⟨t,ht⟩:∃t,t=AV.slice (B++g++[an.b x.row]).length 0 1 1:=⟨_,rfl⟩;have TE:Fr (B++g).length (B++g++[an.b x.row]++[an.cells [.str (aS x.ev 2)] true true]) t 1 (y.aH.map ak):=by
  rw[ht,hy];exact(Fr.push (h:=B++g++[an.b x.row]) (N:=(B++g).length) Si [ak (aS x.ev 2)] (by simp[ak]))
 have Uj:bt (y,t)=[.str (aS x.ev 0),.str (aS x.ev 1),t]:=by rw[hy];rfl
 refine Rs (D5 t0 t1 @hex @lb @fG @aP @bg @i0 @d0 @i1 @d1 @i2 @d2) ?_;rw[<-ht];have ot:=TE.aO.one;refine Rs (A7 t0 t1 @ot @lb @fG @aP @bg) ?_;rw[<-Uj];refine WR.fP (h0:=B) (cs:=V.aj.map bt) (ys:=[bt (y,t)]) ((((r.o.i2).app _).app _).app _) (Fr.push (N:=0) (aam _) [bt (y,t)] (by simp[bt])).aO De Si (by have:=c.w.len.l2;simp;omega) Xx ?_;intro g' SI hff hkp;have hrow:V.aj.map bt++[bt (y,t)]=(V.aj++[(y,t)]).map bt:=by rw[ZV];rfl
 rw[hrow]at hff;rw[hrow];have hbl:=r.lt;have SK:sB V.s2≠some b:=λe=>r.ne (by rw[<-e];simp[RV.bl])
 have hk1:∀i,i<(B++g).length->sB V.s2≠some i->(B++g')[i]? =(B++g)[i]? :=λi hi hne=>by
  exact J2
 have mB:(B++g')[b]? =some (.b V.row):=(hk1 b hbl SK).trans r.m;have VE:=λ(b' o n e:Nat)=>jn (i:=3) (v:=.slice b' o n e) mB rfl De
 refine Rs (A4 t0 t1 @VE @fH) ?_;refine M7 r hff ?_ (λi hi=>by cases hi;exact .inr (by simp only[ZL];omega)) hk1 ?_ ?_
 ·exact(((TE.app _).aB λi hi=>hkp i (by have:=(TE.bB hi).2;simp only[ZL]at this ⊢;omega) (λb0 o n e he z=>by
   have h1:=(TE.bB hi).1;have h2:=(r.o.i2.bB (show sB V.s2=some i by rw[he,z];rfl)).2;omega)).low Si)
 ·intro i hi;exact Rq
 ·rw[hy];simp[RV.ao,dO]
def PY(r:b9 B.length (B++g) b V)(c:Cx (B++g) V x .source):dE P 162 [.ptr b 0,.agg x.row] (B++g) (λ_ k=>uv B b V x.ev .source k):=by
 refine .fo 22 T.mix T.c162 ?_;intro ts hlen t0 t1;unfold fn162;have hex:=@bj.box _ _ c.e;have lb:=@fw _ _ _ r.m;have i0:aV 1 x.sn (.i 0)=_:=(c.nm (i:=0) De).1;have d0:=@(c.nm (i:=0) De).2;have i1:aV 1 x.sn (.i 1)=_:=(c.nm (i:=1) De).1;have d1:=@(c.nm (i:=1) De).2;obtain⟨y,hy⟩:∃y:jc,y=⟨aS x.ev 0,eM,aS x.ev 1,[]⟩:=⟨_,rfl⟩;obtain⟨t,ht⟩:∃t,t=AV.af:=⟨_,rfl⟩;have Uj:bf (y,t)=[.str (aS x.ev 0),.str [115,104,111,116,115],.str (aS x.ev 1),.af]:=by rw[hy,ht];rfl
 refine Rs (mQ t0 t1 @hex @lb @gF @aP @bg @i0 @d0 @i1 @d1) ?_;rw[<-Uj];refine WR.fP (h0:=B) (cs:=V.aD.map bf) (ys:=[bf (y,t)]) (((r.o.i3).app _).app _) (Fr.push (N:=0) (aam _) [bf (y,t)] (by simp[bf])).aO De Si (by have:=c.w.len.l3;simp;omega) Xx ?_;intro g' SI hff hkp;have hrow:V.aD.map bf++[bf (y,t)]=(V.aD++[(y,t)]).map bf:=by rw[ZV];rfl
 rw[hrow]at hff;rw[hrow];have hbl:=r.lt;have SK:sB V.s3≠some b:=λe=>r.ne (by rw[<-e];simp[RV.bl])
 have hk1:∀i,i<(B++g).length->sB V.s3≠some i->(B++g')[i]? =(B++g)[i]? :=λi hi hne=>by
  exact J2
 have mB:(B++g')[b]? =some (.b V.row):=(hk1 b hbl SK).trans r.m;have VE:=λ(b' o n e:Nat)=>jn (i:=4) (v:=.slice b' o n e) mB rfl De
 refine Rs (A4 t0 t1 @VE @fH) ?_;refine Hh r hff ?_ (λi hi=>by cases hi;exact .inr (by simp only[ZL];omega)) hk1 ?_ ?_
 ·rw[ht,hy];exact .nil
 ·intro i hi;rw[ht]at hi;cases hi
 ·rw[hy];simp[RV.ao,dO]
def PX(r:b9 B.length (B++g) b V)(c:Cx (B++g) V x .gQ)(hc:bD V.ao x.ev .gQ=0)(gl:Gl (B++g)):dE P 164 [.ptr b 0,.agg x.row] (B++g) (λ_ k=>uv B b V x.ev .gQ k):=by
 refine .fo 30 T.mix T.c164 ?_;intro ts hlen t0 t1;unfold fn164;have hex:=@bj.box _ _ c.e;have lb:=@fw _ _ _ r.m;have i0:aV 1 x.sn (.i 0)=_:=(c.nm (i:=0) De).1;have d0:=@(c.nm (i:=0) De).2;have j1:aV 1 x.sv (.i 1)=_:=(c.vl (i:=1) De).1;have f1:=@(c.vl (i:=1) De).2.1;have q1:=(c.vl (i:=1) De).2.2;obtain⟨gmu,gtl,hg0⟩:=gl;have hn:1<=bM x.ev 1/\bM x.ev 1<=4:=by
  rw[bD]at hc;split at hc
  ·cases hc
  case isFalse hr=>exact jg hr
 have hw:IntKind.i64.wrap (bM x.ev 1-1)=bM x.ev 1-1:=aZ Om Om;have a1:na 4 2 (.ptr 0 0) (.i (bM x.ev 1-1))=some (.ptr 0 ((bM x.ev 1-1).toNat*2)):=by simp only[na];rw[ZY Om,aaD]
 have a2:na 2 1 (.ptr 0 ((bM x.ev 1-1).toNat*2)) (.i 1)=some (.ptr 0 ((bM x.ev 1-1).toNat*2+1)):=by simp[na]
 have lg:∀{k:ah},Ext (B++g) k->aq none (.ptr 0 ((bM x.ev 1-1).toNat*2+1)) (λb=>k[b]?)=some (.str (kD (bM x.ev 1)),.ar):=by
  intro k e;exact z93
 have hnl:1<=x.ev.names.length:=by rw[c.we.nl];decide
 have hnl2:x.ev.names.length<=3:=by rw[c.we.nl];decide
 obtain⟨s',es',Sx⟩:=c.e.n.Ej (lo:=some (.i 1)) (hi:=none) (lD (k:=1) hnl);have et:List.take (x.ev.names.length-1) (List.drop 1 x.ev.names)=x.ev.names.drop 1:=aau Si;rw[et]at Sx;obtain⟨y,hy⟩:∃y:jc,y=⟨aS x.ev 0,kD (bM x.ev 1),[],x.ev.names.drop 1⟩:=⟨_,rfl⟩;refine Rs (GM t0 t1 @hex @lb @gF @aP @bg @hw @a1 @a2 @lg @es' @i0 @d0 @j1 @f1) ?_;refine WF.res T.c177 (r177 T (Sx.ext Xx) (by simp;omega)) ?_;rintro t g1 TE;have Uj:bf (y,t)=[.str (aS x.ev 0),.str (kD (bM x.ev 1)),.str [],t]:=by rw[hy];rfl
 have TE:Fr (B++g).length (B++g++[an.b x.row]++g1) t 1 (y.bA.map ak):=by rw[hy];exact TE.low Si
 have ot:=TE.aO.one;refine Rs (A3 t0 t1 @ot) ?_;rw[<-Uj];refine WR.fP (h0:=B) (cs:=V.aD.map bf) (ys:=[bf (y,t)]) ((((r.o.i3).app _).app _).app _) (Fr.push (N:=0) (aam _) [bf (y,t)] (by simp[bf])).aO De Si (by have:=c.w.len.l3;simp;omega) Xx ?_;intro g' SI hff hkp;exact z8
def PW(r:b9 B.length (B++g) b V)(c:Cx (B++g) V x .merge):dE P 166 [.ptr b 0,.agg x.row] (B++g) (λ_ k=>uv B b V x.ev .merge k):=by
 refine .fo 31 T.mix T.c166 ?_;intro ts hlen t0 t1;unfold fn166;have hex:=@bj.box _ _ c.e;have lb:=@fw _ _ _ r.m;have i0:aV 1 x.sn (.i 0)=_:=(c.nm (i:=0) De).1;have d0:=@(c.nm (i:=0) De).2;have i1:aV 1 x.sn (.i 1)=_:=(c.nm (i:=1) De).1;have d1:=@(c.nm (i:=1) De).2;have hnl:1<=x.ev.names.length:=by rw[c.we.nl];decide
 have hnl2:x.ev.names.length<=3:=by rw[c.we.nl];decide
 obtain⟨s',es',Sx⟩:=c.e.n.Ej (lo:=some (.i 1)) (hi:=none) (lD (k:=1) hnl);have et:List.take (x.ev.names.length-1) (List.drop 1 x.ev.names)=x.ev.names.drop 1:=aau Si;rw[et]at Sx;have k1:aS x.ev 1∈iS V.ao:=c.nk.kn 1 3 rfl;refine Rs (pG t0 t1 @hex @lb @gF @aE @aP @bg @i0 @d0 @i1 @d1) ?_;refine WF.res T.c245 (r245 T (c.o.ext Xx) c.w.len k1) ?_;rintro _ g1 ⟨z,hz,hz1,rfl⟩;unfold bf;obtain⟨y,hy⟩:∃y:jc,y=⟨aS x.ev 0,(iK V.ao (aS x.ev 1)).gives,[],x.ev.names.drop 1⟩:=⟨_,rfl⟩;refine Rs (A5 t0 t1 @lb @aP @es') ?_;refine WF.res T.c177 (r177 T (Sx.ext Xx) (by simp;omega)) ?_;rintro t g2 TE;have Uj:bf (y,t)=[.str (aS x.ev 0),.str z.1.gives,.str [],t]:=by rw[hy,hz1];rfl
 have TE:Fr (B++g).length (B++g++[an.b x.row]++g1++g2) t 1 (y.bA.map ak):=by rw[hy];exact TE.low (by simp only[ZL];omega)
 have ot:=TE.aO.one;refine Rs (A3 t0 t1 @ot) ?_;rw[<-Uj];refine WR.fP (h0:=B) (cs:=V.aD.map bf) (ys:=[bf (y,t)]) (((((r.o.i3).app _).app _).app _).app _) (Fr.push (N:=0) (aam _) [bf (y,t)] (by simp[bf])).aO De Si (by have:=c.w.len.l3;simp;omega) Xx ?_;intro g' SI hff hkp;exact z8
def PS(r:b9 B.length (B++g) b V)(c:Cx (B++g) V x .ij):dE P 174 [.ptr b 0,.agg x.row] (B++g) (λ_ k=>uv B b V x.ev .ij k):=by
 refine .fo 32 T.mix T.c174 ?_;intro ts hlen t0 t1;unfold fn174;have hex:=@bj.box _ _ c.e;have lb:=@fw _ _ _ r.m;have i0:aV 1 x.sn (.i 0)=_:=(c.nm (i:=0) De).1;have d0:=@(c.nm (i:=0) De).2;have i1:aV 1 x.sn (.i 1)=_:=(c.nm (i:=1) De).1;have d1:=@(c.nm (i:=1) De).2;have k1:aS x.ev 1∈gD V.ao:=c.nk.kn 1 4 rfl;refine Rs (pG t0 t1 @hex @lb @gE @aE @aP @bg @i0 @d0 @i1 @d1) ?_;refine WF.res T.c124 (r124 T (c.o.ext Xx) c.w.len k1) ?_;rintro _ g1 ⟨z,hz,hz1,rfl⟩;have hzb:=(c.w.jb z.1 (aah hz)).2;unfold bO;refine Rs (A2 t0 t1) ?_;refine WF.ce T.c95 (r95 T ((c.o.e4 z hz).ext Xx) Om hzb.2.2) λg2=>?_
 obtain⟨y,hy⟩:∃y:pI,y=⟨aS x.ev 0,aS x.ev 1,gT (gj V.ao (aS x.ev 1)).bz,false⟩:=⟨_,rfl⟩;have Uj:dG y=[.str (aS x.ev 0),.str (aS x.ev 1),.i (gT z.1.bz),.bool false]:=by rw[hy,hz1];rfl
 refine Rs (A2 t0 t1) ?_;rw[<-Uj];refine WR.fP (h0:=B) (cs:=V.aK.map dG) (ys:=[dG y]) (((((r.o.i5).app _).app _).app _).app _) (Fr.push (N:=0) (aam _) [dG y] (by simp[dG])).aO De Si (by have:=c.w.len.l5;simp;omega) Xx ?_;intro g' SI hff hkp;have hrow:V.aK.map dG++[dG y]=(V.aK++[y]).map dG:=by rw[ZV];rfl
 rw[hrow]at hff;rw[hrow];have hbl:=r.lt;have SK:sB V.s5≠some b:=λe=>r.ne (by rw[<-e];simp[RV.bl])
 have hk1:∀i,i<(B++g).length->sB V.s5≠some i->(B++g')[i]? =(B++g)[i]? :=λi hi hne=>by
  exact J2
 have mB:(B++g')[b]? =some (.b V.row):=(hk1 b hbl SK).trans r.m;have VE:=λ(b' o n e:Nat)=>jn (i:=6) (v:=.slice b' o n e) mB rfl De
 refine Rs (A4 t0 t1 @VE @fH) ?_;exact M5 r hff (λi hi=>by cases hi;exact .inr (by simp only[ZL];omega)) hk1 (by rw[hy];rfl)
end
def b9.RF{N b h k V}(r:b9 N h b V){i}(hi:i<V.aG.length){y}(hy:y.name=V.aG[i].1.name/\y.mod=V.aG[i].1.mod)(hf:Fr N k V.aG[i].2 1 (y.bz.map aJ))
  (hk:∀j,j<h.length->sB V.aG[i].2≠some j->k[j]? =h[j]?):b9 N k b {V with aG:=V.aG.set i (y,V.aG[i].2) }:=by
 have hin:∀j,some j∈V.bl->N<=j/\j<h.length:=λj hj=>r.o.eO hj
 have hbl:{V with aG:=V.aG.set i (y,V.aG[i].2) }.bl=V.bl:=by
  simp only[RV.bl,abU];congr 1;have:sB V.aG[i].2=(V.aG.map λx=>sB x.2)[i]'(by simpa using hi):=Si
  exact z194
 obtain⟨h1,h2,h3⟩:=aa1.1 (show lR (([sB V.s0,sB V.s1,sB V.s2,sB V.s3,sB V.s4,sB V.s5]++(V.aj.map λx=>sB x.2)++(V.aD.map λx=>sB x.2))++(V.aG.map λx=>sB x.2))from r.o.di);have Ua:sB V.aG[i].2∈V.aG.map λx=>sB x.2:=aah (f:=λx:kI×AV=>sB x.2) (ZZ hi)
 have kA:∀j,some j∈([sB V.s0,sB V.s1,sB V.s2,sB V.s3,sB V.s4,sB V.s5]++(V.aj.map λx=>sB x.2)++(V.aD.map λx=>sB x.2))->k[j]? =h[j]? :=λj hj=>
  hk j (hin j (by rw[RV.bl];exact ZX.2 (.inl hj))).2 (h3 _ hj _ Ua j rfl)
 have k6:∀j,some j∈[sB V.s0,sB V.s1,sB V.s2,sB V.s3,sB V.s4,sB V.s5]->k[j]? =h[j]? :=λj hj=>kA j (by simp only[ZX];exact .inl (.inl hj))
 have hrow:(V.aG.set i (y,V.aG[i].2)).map bO=V.aG.map bO:=by
  rw[abU];have:bO (y,V.aG[i].2)=(V.aG.map bO)[i]'(by simpa using hi):=by simp[bO,hy.1,hy.2]
  exact z194
 have own:cP N k {V with aG:=V.aG.set i (y,V.aG[i].2) }:=by
  refine⟨r.o.i0.aB λj hj=>k6 j (by rw[<-hj];simp),r.o.i1.aB λj hj=>k6 j (by rw[<-hj];simp),r.o.i2.aB λj hj=>k6 j (by rw[<-hj];simp),r.o.i3.aB λj hj=>k6 j (by rw[<-hj];simp),?_,r.o.i5.aB λj hj=>k6 j (by rw[<-hj];simp),?_,?_,?_,?_⟩
  ·show Fr N k V.s4 3 ((V.aG.set i (y,V.aG[i].2)).map bO);rw[hrow];exact r.o.i4.aB λj hj=>k6 j (by rw[<-hj];simp)
  ·exactλx hx=>(r.o.e2 x hx).aB λj hj=>kA j (by rw[<-hj];simp only[ZX,aal];exact .inl (.inr ⟨x,hx,rfl⟩))
  ·exactλx hx=>(r.o.e3 x hx).aB λj hj=>kA j (by rw[<-hj];simp only[ZX,aal];exact .inr ⟨x,hx,rfl⟩)
  ·intro x hx;obtain⟨n,hn,rfl⟩:=abV hx;have Xt:n<V.aG.length:=by simpa using hn
   by_cases hni:n=i
   ·subst hni;simp only[abL];exact hf
   ·simp only[acd (abe hni)];refine(r.o.e4 _ (ZZ Xt)).aB λj hj=>hk j ?_ λe=>?_
    ·exact((r.o.e4 _ (ZZ Xt)).bB hj).2
    ·have e1:(V.aG.map λx=>sB x.2)[n]'(by simpa using Xt)=some j:=by simpa using hj
     have e2:(V.aG.map λx=>sB x.2)[i]'(by simpa using hi)=some j:=by simpa using e
     rcases Nat.lt_or_gt_of_ne hni with hlt|hlt
     ·exact List.pairwise_iff_getElem.1 h2 n i (by simpa using Xt) (by simpa using hi) hlt j e1 e2
     ·exact List.pairwise_iff_getElem.1 h2 i n (by simpa using hi) (by simpa using Xt) hlt j e2 e1
  ·show lR {V with aG:=V.aG.set i (y,V.aG[i].2) }.bl;rw[hbl];exact r.o.di
 refine⟨own,r.hN,?_,by rw[hbl];exact r.ne⟩;have:sB V.aG[i].2≠some b:=λe=>r.ne (by rw[<-e,RV.bl];exact ZX.2 (.inr Ua))
 exact(hk b r.lt this).trans r.m
section
variable {P:Program}(T:fD P) {B g:ah}{b:Nat}{V:RV}{x:EV}
include T
def PZ(r:b9 B.length (B++g) b V)(c:Cx (B++g) V x .accept):dE P 160 [.ptr b 0,.agg x.row] (B++g) (λ_ k=>uv B b V x.ev .accept k):=by
 refine .fo 19 T.mix T.c160 ?_;intro ts hlen t0 t1;unfold fn160 zi;have hex:=@bj.box _ _ c.e;have lb:=@fw _ _ _ r.m;have i0:aV 1 x.sn (.i 0)=_:=(c.nm (i:=0) De).1;have d0:=@(c.nm (i:=0) De).2;have hn:aS x.ev 0∈gC V.ao:=c.nk.kn 0 0 rfl;have hlt:aW (gC V.ao) (aS x.ev 0)<V.lines.length:=by have:=cL hn;simpa [gC,RV.ao]using this
 have ei:de (λy:iH=>decide (y.name=aS x.ev 0)) V.lines=(aW (gC V.ao) (aS x.ev 0):Int):=eS (f:=iH.name) hn;have ix:aV 3 V.s0 (.i (aW (gC V.ao) (aS x.ev 0):Int))=some (cF V.s0 3 (aW (gC V.ao) (aS x.ev 0)),.ar):=c.o.i0.dA hlt;have sp:du V.ao (aS x.ev 0)=V.lines[aW (gC V.ao) (aS x.ev 0)]:=cS hn;refine Rs (A8 t0 t1 @hex @lb @gG @aP @i0 @d0) ?_;refine WF.ce T.c142 (r142 T (c.o.i0.ext Xx) (by have:=c.w.len.l0;omega) _) λg1=>?_
 rw[ei];refine Rs (A3 t0 t1 ix) ?_;rw[ZO B g,ZO B];refine WR.sW (h0:=B) (x':={V.lines[aW (gC V.ao) (aS x.ev 0)]with acc:=true}) (by rw[<-ZO,<-ZO];exact(r.o.i0.app _).app _) hlt De rfl rfl ?_;intro g' SI hff hkp;have hbl:=r.lt;have SK:sB V.s0≠some b:=λe=>r.ne (by rw[<-e];simp[RV.bl])
 have hk1:∀i,i<(B++g).length->sB V.s0≠some i->(B++g')[i]? =(B++g)[i]? :=λi hi hne=>by
  rw[hkp i (λb0 o n e he z=>hne (by rw[he,z];rfl)),<-ZO,<-ZO];exact Oh
 refine Rs (A3 t0 t1 @fH) ?_;refine⟨g',{V with lines:=V.lines.set (aW (gC V.ao) (aS x.ev 0)) {V.lines[aW (gC V.ao) (aS x.ev 0)]with acc:=true},s0:=V.s0},rfl,r.NY hff (λi hi=>.inl hi) ((hk1 b hbl SK).trans r.m) (λi hi h1 _=>hk1 i hi h1),?_⟩;simp only[dO,sp];rfl
def PR(r:b9 B.length (B++g) b V)(c:Cx (B++g) V x .rel):dE P 176 [.ptr b 0,.agg x.row] (B++g) (λ_ k=>uv B b V x.ev .rel k):=by
 refine .fo 19 T.mix T.c176 ?_;intro ts hlen t0 t1;unfold fn176 zi;have hex:=@bj.box _ _ c.e;have lb:=@fw _ _ _ r.m;have i0:aV 1 x.sn (.i 0)=_:=(c.nm (i:=0) De).1;have d0:=@(c.nm (i:=0) De).2;have hn:aS x.ev 0∈j8 V.ao:=c.nk.kn 0 5 rfl;have hlt:aW (j8 V.ao) (aS x.ev 0)<V.aK.length:=by have:=cL hn;simpa [j8,RV.ao]using this
 have ei:de (λy:pI=>decide (y.name=aS x.ev 0)) V.aK=(aW (j8 V.ao) (aS x.ev 0):Int):=eS (f:=pI.name) hn;have ix:aV 4 V.s5 (.i (aW (j8 V.ao) (aS x.ev 0):Int))=some (cF V.s5 4 (aW (j8 V.ao) (aS x.ev 0)),.ar):=c.o.i5.dA hlt;have sp:iQ V.ao (aS x.ev 0)=V.aK[aW (j8 V.ao) (aS x.ev 0)]:=cS hn;refine Rs (A8 t0 t1 @hex @lb @gE @aP @i0 @d0) ?_;refine WF.ce T.c146 (r146 T (c.o.i5.ext Xx) (by have:=c.w.len.l5;omega) _) λg1=>?_
 rw[ei];refine Rs (A3 t0 t1 ix) ?_;rw[ZO B g,ZO B];refine WR.sW (h0:=B) (x':={V.aK[aW (j8 V.ao) (aS x.ev 0)]with rel:=true}) (by rw[<-ZO,<-ZO];exact(r.o.i5.app _).app _) hlt De rfl rfl ?_;intro g' SI hff hkp;have hbl:=r.lt;have SK:sB V.s5≠some b:=λe=>r.ne (by rw[<-e];simp[RV.bl])
 have hk1:∀i,i<(B++g).length->sB V.s5≠some i->(B++g')[i]? =(B++g)[i]? :=λi hi hne=>by
  rw[hkp i (λb0 o n e he z=>hne (by rw[he,z];rfl)),<-ZO,<-ZO];exact Oh
 refine Rs (A3 t0 t1 @fH) ?_;refine⟨g',{V with aK:=V.aK.set (aW (j8 V.ao) (aS x.ev 0)) {V.aK[aW (j8 V.ao) (aS x.ev 0)]with rel:=true},s5:=V.s5},rfl,r.NX hff (λi hi=>.inl hi) ((hk1 b hbl SK).trans r.m) (λi hi h1 _=>hk1 i hi h1),?_⟩;simp only[dO,sp];rfl
def M1(r:b9 B.length (B++g) b V){d}(c:Cx (B++g) V x d)(hd:1<bK d)(h0:0<(aM d).length)(hn:aS x.ev 0∈gD V.ao)(hlt1:bM x.ev 1<(gj V.ao (aS x.ev 0)).bz.length)(s:Int):
  dE P 250 [.ptr b 0,.agg x.row,.i s] (B++g) (λ_ k=>∃g' V',k=B++g'/\b9 B.length (B++g') b V'/\V'.ao={V.ao with aG:=nA V.ao x.ev s}):=by
 refine .nT 28 T.mix T.c250 ?_;intro ts hlen t0 t1 t2;unfold fn250;have hex:=@bj.box _ _ c.e;have lb:=@fw _ _ _ r.m;have i0:aV 1 x.sn (.i 0)=_:=(c.nm (i:=0) h0).1;have d0:=@(c.nm (i:=0) h0).2;have j1:aV 1 x.sv (.i 1)=_:=(c.vl (i:=1) hd).1;have f1:=@(c.vl (i:=1) hd).2.1;have q1:=(c.vl (i:=1) hd).2.2;have hlt:aW (gD V.ao) (aS x.ev 0)<V.aG.length:=by have:=cL hn;simpa [gD,RV.ao]using this
 have ei:de (λy:kI×AV=>decide (y.1.name=aS x.ev 0)) V.aG=(aW (gD V.ao) (aS x.ev 0):Int):=(eS (f:=λy:kI×AV=>y.1.name) (by rw[<-gK];exact hn)).trans (by rw[gK]);have ix:aV 3 V.s4 (.i (aW (gD V.ao) (aS x.ev 0):Int))=some (cF V.s4 3 (aW (gD V.ao) (aS x.ev 0)),.ar):=c.o.i4.dA hlt;have sp:(V.aG[aW (gD V.ao) (aS x.ev 0)]).1=gj V.ao (aS x.ev 0):=by
  have:=cS (f:=kI.name) (l:=V.ao.aG) (n:=aS x.ev 0) (d:=wD) hn;rw[show gj V.ao (aS x.ev 0)=_ from this];exact Ed
 obtain⟨p,hp⟩:∃p,p=aW (gD V.ao) (aS x.ev 0):=⟨_,rfl⟩;rw[<-hp]at ei ix;have hlt:p<V.aG.length:=by rw[hp];exact hlt
 have sp:V.aG[p].1=gj V.ao (aS x.ev 0):=by rw[<-sp];congr 2
 have l2:∀{k:ah},Ext (B++g) k->aq none (j6 V.s4 3 p 2) (λb=>k[b]?)=some (V.aG[p].2,.ar):=λ{k} e=>c.o.i4.lO hlt rfl e
 have oj:=r.o.e4 _ (ZZ hlt);have hsl:(bM x.ev 1).toNat<V.aG[p].1.bz.length:=by rw[sp];omega
 have X5:bM x.ev 1=((bM x.ev 1).toNat:Int):=Om
 have iy:aV 1 V.aG[p].2 (.i (bM x.ev 1))=some (cF V.aG[p].2 1 (bM x.ev 1).toNat,.ar):=by
  rw[X5];exact oj.aO.dA hsl
 refine Rs (A9 t0 t1 t2 @hex @lb @gq @aP @i0 @d0) ?_;refine WF.ce T.c145 (r145 T (c.o.i4.ext Xx) c.o.jT.2.2 (by have:=c.w.len.l4;omega) _) λg1=>?_
 rw[ei];refine Rs (A9 t0 t1 t2 ix @l2 @bg @j1 @f1 @iy) ?_;rw[ZO B g,ZO B];have WZ:cF V.aG[p].2 1 (bM x.ev 1).toNat=j6 V.aG[p].2 1 (bM x.ev 1).toNat 0:=rfl;rw[WZ];refine WR.sW (h0:=B) (x':=s) (row:=aJ) (L:=V.aG[p].1.bz) (by rw[<-ZO,<-ZO];exact(oj.app _).app _) hsl De rfl rfl ?_;intro g' SI hff hkp;have hk1:∀i,i<(B++g).length->sB V.aG[p].2≠some i->(B++g')[i]? =(B++g)[i]? :=λi hi hne=>by
  rw[hkp i (λb0 o n e he z=>hne (by rw[he,z];rfl)),<-ZO,<-ZO];exact Oh
 refine Rs (A4 t0 t1 t2 @fH) ?_;refine⟨g',{V with aG:=V.aG.set p ({V.aG[p].1 with bz:=V.aG[p].1.bz.set (bM x.ev 1).toNat s},V.aG[p].2) },rfl,r.RF hlt ⟨rfl,rfl⟩ hff hk1,?_⟩;have e:nA V.ao x.ev s=(V.aG.set p ({V.aG[p].1 with bz:=V.aG[p].1.bz.set (bM x.ev 1).toNat s},V.aG[p].2)).map Prod.fst:=by
  rw[nA,<-hp,<-sp,abU];rfl
 rw[e];rfl
def PU(r:b9 B.length (B++g) b V)(c:Cx (B++g) V x .gO)(hc:bD V.ao x.ev .gO=0):dE P 170 [.ptr b 0,.agg x.row] (B++g) (λ_ k=>uv B b V x.ev .gO k):=by
 refine .fo 11 T.mix T.c170 ?_;intro ts hlen t0 t1;unfold fn170 gA;have hex:=@bj.box _ _ c.e;have j2:aV 1 x.sv (.i 2)=_:=(c.vl (i:=2) De).1;have f2:=@(c.vl (i:=2) De).2.1;have k0:aS x.ev 0∈gD V.ao:=c.nk.kn 0 4 rfl;have hlt:bM x.ev 1<(gj V.ao (aS x.ev 0)).bz.length:=by
  exact Rb
 refine Rs (A7 t0 t1 @hex @bS @bg @j2 @f2) ?_;rw[ZO B g];refine WF.gen T.c250 (M1 T (B:=B) (by rw[<-ZO];exact r.app _) (by rw[<-ZO];exact c.ext Xx) De De k0 hlt (bM x.ev 2)) ?_;rintro _ _ ⟨g',V',rfl,h1,h2⟩;exact Kv
def PT(r:b9 B.length (B++g) b V)(c:Cx (B++g) V x .fail)(hc:bD V.ao x.ev .fail=0):dE P 172 [.ptr b 0,.agg x.row] (B++g) (λ_ k=>uv B b V x.ev .fail k):=by
 refine .fo 7 T.mix T.c172 ?_;intro ts hlen t0 t1;unfold fn172 gA;have hex:=@bj.box _ _ c.e;have k0:aS x.ev 0∈gD V.ao:=c.nk.kn 0 4 rfl;have hlt:bM x.ev 1<(gj V.ao (aS x.ev 0)).bz.length:=by
  exact Rb
 refine Rs (A4 t0 t1 @hex @bS) ?_;rw[ZO B g];refine WF.gen T.c250 (M1 T (B:=B) (by rw[<-ZO];exact r.app _) (by rw[<-ZO];exact c.ext Xx) De De k0 hlt (-1)) ?_;rintro _ _ ⟨g',V',rfl,h1,h2⟩;exact Kv
end
def yj{k:Nat}(hk:k<=32):fe .and (.int .u64 (k:Int)) (.int .u64 4294967295)=some (.int .u64 (k:Int))/\fe .shr (.int .u64 (k:Int)) (.int .u64 32)=some (.int .u64 0):=by
 have:k=0\/k=1\/k=2\/k=3\/k=4\/k=5\/k=6\/k=7\/k=8\/k=9\/k=10\/k=11\/k=12\/k=13\/k=14\/k=15\/k=16\/k=17\/k=18\/k=19\/k=20\/k=21\/k=22\/k=23\/k=24\/k=25\/k=26\/k=27\/k=28\/k=29\/k=30\/k=31\/k=32:=Om
 rcases this with rfl|rfl|rfl|rfl|rfl|rfl|rfl|rfl|rfl|rfl|rfl|rfl|rfl|rfl|rfl|rfl|rfl|rfl|rfl|rfl|rfl|rfl|rfl|rfl|rfl|rfl|rfl|rfl|rfl|rfl|rfl|rfl|rfl<;>exact⟨rfl,rfl⟩
def Au:fe .and (.int .u64 0) (.int .u64 4294967295)=some (.int .u64 0)/\fe .shr (.int .u64 0) (.int .u64 32)=some (.int .u64 0):=⟨rfl,rfl⟩
def CN:fe .and (.int .u64 1) (.int .u64 4294967295)=some (.int .u64 1)/\fe .shr (.int .u64 1) (.int .u64 32)=some (.int .u64 0):=⟨rfl,rfl⟩
def Js{x y:dt}{ρ:dt->AV}{h:ah}{b o n m N:Nat}{c:List AV}{tl:Bool}(hx:ρ x=.slice b o n 1)(hy:ρ y=.slice b 0 m 1)(hb:h[b]? =some (.cells c true tl))(hn:o+n<=c.length)(hm:m<=c.length)(h0:0<min m n):
  stepT (.Ae 1 x y) ρ (λz=>h[z]?) N=some (.i (min m n:Nat),.set b (.cells (gu c o (c.take (min m n))) true tl)):=by
 have hc:fL 1 (λz=>h[z]?) (ρ y)=some (c.take m,m):=by
  rw[hy];simp only[fL,Z7,hb,aaD,abX,abc];rw[ZY hm]
 have e:stepT (.Ae 1 x y) ρ (λz=>h[z]?) N=(match ρ x,fL 1 (λz=>h[z]?) (ρ y)with
  |.slice b o n es',some (ys,k)=>
   if es' =1 then
    if min k n=0 then some (.i 0,.ar)
    else
     match h[b]? with
     |some (.cells c true tl)=>if o+min k n*1<=c.length then some (.i (min k n:Nat),.set b (.cells (gu c o (ys.take (min k n*1))) true tl))else none
     |_=>none
   else none
  |.af,some _=>some (.i 0,.ar)
  |_,_=>none):=rfl
 rw[e,hc,hx];simp only[Z7,hb,abX];rw[ZW Om,ZY Om,List.take_take,abE (Nat.min_le_left _ _)]
def Fy{x y ρ h b n N c v tl}(hx:ρ x=.slice b 0 n 1)(hy:aI h (ρ y) 1 [[v]])(hb:h[b]? =some (.cells c true tl))(hn:c.length=n)(h0:0<n):
  stepT (.Ae 1 x y) ρ (λz=>h[z]?) N=some (.i 1,.set b (.cells (c.set 0 v) true tl)):=by
 have hc:=hy.fL;have e:stepT (.Ae 1 x y) ρ (λz=>h[z]?) N=(match ρ x,fL 1 (λz=>h[z]?) (ρ y)with
  |.slice b o n es',some (ys,k)=>
   if es' =1 then
    if min k n=0 then some (.i 0,.ar)
    else
     match h[b]? with
     |some (.cells c true tl)=>if o+min k n*1<=c.length then some (.i (min k n:Nat),.set b (.cells (gu c o (ys.take (min k n*1))) true tl))else none
     |_=>none
   else none
  |.af,some _=>some (.i 0,.ar)
  |_,_=>none):=rfl
 have hm:min 1 n=1:=Om
 rw[e,hc,hx];simp only[Z7,hb,Z6,hm,abX];rw[ZW De,ZY Om];rfl
def B9{v z c m k}(hm:c+m<=k):gu (List.replicate c v++List.replicate (k-c) z) c (List.replicate m v)=List.replicate (c+m) v++List.replicate (k-(c+m)) z:=by
 induction m generalizing c with
 |zero=>rfl
 |succ m ih=>
  rw[abr,pM];have hk:k-c=(k-(c+1))+1:=Om
  have e:(List.replicate c v++List.replicate (k-c) z).set c v=List.replicate (c+1) v++List.replicate (k-(c+1)) z:=by
   rw[aaE _ _ Si,aaV,aaR,hk,abr,List.set_cons_zero,List.replicate_succ',ZO];rfl
  rw[e,ih Om];congr 2<;>omega
def B1{v z:AV}{c m k:Nat}(hm:m<=c):(List.replicate c v++List.replicate (k-c) z).take m=List.replicate m v:=by
 rw[List.take_append_of_le_length (by simpa using hm),List.take_replicate,abE hm]
section
variable {P:Program}(T:fD P) {h:ah}
include T
def r286{k:Nat}(hk:k<=32):ay P 286 [.int .u64 1,.int .u64 (k:Int)] h (λv _=>v=.dz [.int .u64 0,.int .u64 (k:Int)]):=by
 refine .fo 51 T.mix T.c286 ?_;intro ts hlen t0 t1;unfold fn286 gA;obtain⟨a1,a2⟩:=yj hk;obtain⟨b1,b2⟩:=Au;obtain⟨c1,c2⟩:=CN;have w1:IntKind.u64.wrap (1*(k:Int))=(k:Int):=by rw[Int.one_mul];exact zb Om Om
 have w2:IntKind.u64.wrap (0*(k:Int))=0:=by rw[Int.zero_mul];rfl
 have w3:IntKind.u64.wrap (0+0)=0:=rfl;have w4:IntKind.u64.wrap (1*0)=0:=rfl;have w5:IntKind.u64.wrap (0*0)=0:=rfl;exact Rs (D5 t0 t1 @a1 @a2 @b1 @b2 @c1 @c2 @w1 @w2 @w3 @w4 @w5) Tv
def r267{k:Nat}(hk:k<=32):ay P 267 [.int .u64 1,.int .u64 (k:Int)] h (λv _=>v=.dz [.int .u64 0,.int .u64 (k:Int)]):=by
 refine .fo 30 T.mix T.c267 ?_;intro ts hlen t0 t1;unfold fn267 gA;refine Rs (A2 t0 t1) ?_;refine WF.ce T.c286 (r286 T hk) λg1=>?_
 exact Rs (A2 t0 t1) Tv
def r248{s:AV}(hs:aI h s 1 (([-1] :List Int).map aJ)){k:Nat}(hk:k<=32)(hk0:0<k):ay P 248 [s,.i (k:Int)] h (λv h'=>Fr h.length h' v 1 ((List.replicate k (-1:Int)).map aJ)):=by
 refine .fo 48 T.mix T.c248 ?_;intro ts hlen t0 t1;unfold fn248 gA;have q0:decide ((k:Int)<0)=false:=ZN Om;have Vc:=λG=>hs.aL G
 have c1:IntKind.u64.wrap ((([-1] :List Int).length:Nat):Int)=1:=rfl;have c2:IntKind.u64.wrap (k:Int)=(k:Int):=zb Om Om;have q1:decide ((0:Int)<0)=false:=rfl;have q2:decide ((9223372036854775807:Int)<(k:Int))=false:=ZN Om;have c3:IntKind.i64.wrap (k:Int)=(k:Int):=aZ Om Om;have mk:∀{N:Nat},tU 1 8 [AV.i 0] (.i (k:Int)) (.i (k:Int)) N=some (.slice N 0 k 1,.push (.cells (eC k [AV.i 0]) true true)):=oA Om Om;refine Rs (A6 t0 t1 q0 @Vc @c1 @c2) ?_;refine WF.ce T.c267 (r267 T hk) λg1=>?_
 refine Rs (A6 t0 t1 q1 q2 @c3 @mk) ?_;rw[Fy (b:=(h++g1).length) (n:=k) (v:=.i (-1)) (c:=eC k [AV.i 0]) (tl:=true)]
 rotate_left
 ·exact(Sq t0)
 ·have:aI (h++g1++[an.cells (eC k [AV.i 0]) true true]) s 1 [[AV.i (-1)]]:=hs.ext Xx;refine Zs t0 ?_;exact this
 ·exact ba
 ·rw[my,abN];simp
 ·exact hk0
 have hz:(eC k [AV.i 0]).set 0 (.i (-1))=List.replicate 1 (AV.i (-1))++List.replicate (k-1) (AV.i 0):=by
  rw[my,abN];obtain⟨n,rfl⟩:∃n,k=n+1:=⟨k-1,Om⟩;rw[abr,List.set_cons_zero];rfl
 rw[hz];refine Rs (A2 t0 t1) ?_;obtain⟨b0,TR⟩:∃b0,b0=(h++g1).length:=⟨_,rfl⟩;rw[<-TR];have hN:h.length<=b0:=by rw[TR];simp
 refine WL.inv T.mix (λn ts h'=>∃c:Nat,1<=c/\c<=k/\n=k-c/\h' =h++g1++[an.cells (List.replicate c (AV.i (-1))++List.replicate (k-c) (AV.i 0)) true true]/\ts.length=48/\slot ts 7=.slice b0 0 k 1/\slot ts 8=.i (c:Int)) (k-1)
  ⟨1,Om,Om,rfl,rfl,Sn,(Sq t0),gf⟩ ?_
 rintro _ ts _ ⟨c,h1,h2,rfl,rfl,hlen,t7,t8⟩;have hb:(h++g1++[an.cells (List.replicate c (AV.i (-1))++List.replicate (k-c) (AV.i 0)) true true])[b0]? =some (.cells (List.replicate c (AV.i (-1))++List.replicate (k-c) (AV.i 0)) true true):=by rw[TR];exact ba
 have XS:∀G:Nat->Option an,j9 .sl G (.slice b0 0 k 1)=some k:=λ_=>rfl
 by_cases hlt:c<k
 ·have e3:decide ((c:Int)<(k:Int))=true:=ZR Om;have s1:BF 1 (.slice b0 0 k 1) (some (.i (c:Int))) none=some (.slice b0 c (k-c) 1,.ar):=by
   simp only[BF,Z7,lD (kk:=.i64) h2,abX,aaD]
  have s2:BF 1 (.slice b0 0 k 1) none (some (.i (c:Int)))=some (.slice b0 0 c 1,.ar):=by
   simp only[BF,Z7,ku (kk:=.i64) h2,abX,aaD,Nat.sub_zero]
  refine Rs (A6 t7 t8 @XS e3 @s1 @s2) ?_;rw[Js (b:=b0) (o:=c) (n:=k-c) (m:=c) (c:=List.replicate c (AV.i (-1))++List.replicate (k-c) (AV.i 0)) (tl:=true)]
  rotate_left
  ·exact(Sq t7)
  ·exact(Sq t7)
  ·exact hb
  ·exact KG
  ·exact KG
  ·omega
  rw[B1 (Nat.min_le_left _ _),B9 Om];have bP:∀X:an,(h++g1++[an.cells (List.replicate c (AV.i (-1))++List.replicate (k-c) (AV.i 0)) true true]).set b0 X=h++g1++[X]:=λX=>by rw[TR];exact B8
  have hw:IntKind.i64.wrap ((c:Int)+((min c (k-c):Nat):Int))=((c+min c (k-c):Nat):Int):=by rw[aZ Om Om];rfl
  refine Rs (A4 t7 t8 @bP @hw) ?_;exact⟨_,Om,c+min c (k-c),Om,Om,rfl,rfl,rfl⟩
 ·have e3:decide ((c:Int)<(k:Int))=false:=ZN Om;have e4:c=k:=Om
  refine Rs (A4 t7 t8 @XS e3) ?_;have Tc:(List.replicate c (AV.i (-1))++List.replicate (k-c) (AV.i 0))=((List.replicate k (-1:Int)).map aJ).flatten:=by
   rw[e4,aaR,ace,aaf,List.map_replicate,abN]
  have hlr:((List.replicate k (-1:Int)).map aJ).length=k:=Si
  rw[Tc]at hb;have:=Fr.mk (N:=h.length) (es:=1) (cs:=(List.replicate k (-1:Int)).map aJ) (b:=b0) (tl:=true) hN hb Si;rw[hlr]at this;rw[Tc];exact this
end
section
variable {P:Program}(T:fD P) {B g:ah}{b:Nat}{V:RV}{x:EV}
include T
def PV(r:b9 B.length (B++g) b V)(c:Cx (B++g) V x .run)(hc:bD V.ao x.ev .run=0):dE P 168 [.ptr b 0,.agg x.row] (B++g) (λ_ k=>uv B b V x.ev .run k):=by
 refine .fo 28 T.mix T.c168 ?_;intro ts hlen t0 t1;unfold fn168;have hex:=@bj.box _ _ c.e;have lb:=@fw _ _ _ r.m;have i0:aV 1 x.sn (.i 0)=_:=(c.nm (i:=0) De).1;have d0:=@(c.nm (i:=0) De).2;have i1:aV 1 x.sn (.i 1)=_:=(c.nm (i:=1) De).1;have d1:=@(c.nm (i:=1) De).2;have j1:aV 1 x.sv (.i 1)=_:=(c.vl (i:=1) De).1;have f1:=@(c.vl (i:=1) De).2.1;have q1:=(c.vl (i:=1) De).2.2;have hn:1<=bM x.ev 1/\bM x.ev 1<=32:=by
  rw[bD]at hc;split at hc
  ·cases hc
  split at hc
  ·cases hc
  case isFalse hr=>exact jg hr
 obtain⟨k,hk⟩:∃k:Nat,bM x.ev 1=(k:Int):=⟨(bM x.ev 1).toNat,Om⟩;rw[hk]at f1;obtain⟨y,hy⟩:∃y:kI,y=⟨aS x.ev 0,aS x.ev 1,List.replicate k (-1)⟩:=⟨_,rfl⟩;refine Rs (D5 t0 t1 @hex @lb @gq @aP @bg @i0 @d0 @i1 @d1 @j1 @f1) ?_;refine WF.res T.c248 (r248 T (s:=.slice (B++g++[an.b x.row]).length 0 1 1) (k:=k) (cH [-1]) Om Om) ?_;rintro t g1 TE;have Uj:bO (y,t)=[.str (aS x.ev 0),.str (aS x.ev 1),t]:=by rw[hy];rfl
 have TE:Fr (B++g).length (B++g++[an.b x.row]++[an.cells [AV.i (-1)] true true]++g1) t 1 (y.bz.map aJ):=by rw[hy];exact TE.low (by simp only[ZL,Z6];omega)
 have ot:=TE.aO.one;refine Rs (A3 t0 t1 @ot) ?_;rw[<-Uj];refine WR.fP (h0:=B) (cs:=V.aG.map bO) (ys:=[bO (y,t)]) (((((r.o.i4).app _).app _).app _).app _) (Fr.push (N:=0) (aam _) [bO (y,t)] (by simp[bO])).aO De Si (by have:=c.w.len.l4;simp;omega) Xx ?_;intro g' SI hff hkp;have hrow:V.aG.map bO++[bO (y,t)]=(V.aG++[(y,t)]).map bO:=by rw[ZV];rfl
 rw[hrow]at hff;rw[hrow];have hbl:=r.lt;have SK:sB V.s4≠some b:=λe=>r.ne (by rw[<-e];simp[RV.bl])
 have hk1:∀i,i<(B++g).length->sB V.s4≠some i->(B++g')[i]? =(B++g)[i]? :=λi hi hne=>by
  exact J2
 have mB:(B++g')[b]? =some (.b V.row):=(hk1 b hbl SK).trans r.m;have VE:=λ(b' o n e:Nat)=>jn (i:=5) (v:=.slice b' o n e) mB rfl De
 refine Rs (A4 t0 t1 @VE @fH) ?_;refine M6 r hff ?_ (λi hi=>by cases hi;exact .inr (by simp only[ZL,Z6];omega)) hk1 ?_ ?_
 ·refine Fr.low (N:=(B++g).length) ((show Fr (B++g).length _ t 1 _ from TE.app _).aB λi hi=>hkp i ?_ (λb0 o n e he z=>?_)) Si
  ·have:=(TE.bB hi).2;simp only[ZL,Z6]at this ⊢;omega
  ·have h1:=(TE.bB hi).1;have h2:=(r.o.i4.bB (show sB V.s4=some i by rw[he,z];rfl)).2;omega
 ·intro i hi;exact Rq
 ·have e:(bM x.ev 1).toNat=k:=Om
  rw[hy];simp[RV.ao,dO,e]
end
end Go.Abs
namespace Go.Abs
section
variable {P:Program}{ro:Option Nat->Prop}{ks:List Kt}{ts:TS}{h:ah}{Q:Ex->TS->ah->Prop}{S:ah->Prop}{K:TS->ah->Prop}{l:List bN}
def pC(S:ah->Prop)(H:WM P S l ts h (kq P ro ks Q .normal)):WC P ro (.mR l) ks ts h Q:=⟨S,H⟩
def dD{o}(hS:S h)(hl:mZ o=false)(hn:lh (o::l)=false)(H:WP P bL [o] [] ts h (λ_ Ug h1=>WM P S l Ug h1 K)):WM P S (o::l) ts h K:=⟨hS,.inr ⟨hn,.inr ⟨hl,H⟩⟩⟩
def pB{o}(hS:S h)(hl:lh (o::l)=true)(H:WP P ro (o::l) ks ts h Q):WM P S (o::l) ts h (kq P ro ks Q .normal):=⟨hS,.inl ⟨hl,H⟩⟩
def lK{n a d v}(hS:S h)(hv:∀g,S g->aq n (val ts a) (λb=>g[b]?)=some (v,.ar))(H:WM P S l (put ts d v) h K)(hn:lh (({dst:=d,k:=.load n a,gd:=none,q:=true}:bN)::l)=false:=by rfl):WM P S ({dst:=d,k:=.load n a,gd:=none,q:=true} ::l) ts h K:=by
 refine⟨hS,.inr ⟨hn,.inl ⟨rfl,v,λg hg=>?_,H⟩⟩⟩;refine dR.run trivial ?_ ?_
 ·cases d<;>trivial
 ·have h1:stepT (.load n a) (val ts) (λb=>g[b]?) g.length=some (v,.ar):=hv g hg;exact nS h1
end
def b9.RE{N b h k V}(r:b9 N h b V){i}(hi:i<V.aj.length){y t}(hs:Fr N k V.s2 3 ((V.aj.set i (y,t)).map bt))(ht:Fr N k t 1 (y.aH.map ak))(hnt:∀j,sB t=some j->h.length<=j)
  (hk:∀j,j<h.length->sB V.s2≠some j->sB V.aj[i].2≠some j->k[j]? =h[j]?):b9 N k b {V with aj:=V.aj.set i (y,t) }:=by
 have hin:∀j,some j∈V.bl->N<=j/\j<h.length:=λj hj=>r.o.eO hj
 let l1:List (Option Nat):=[sB V.s0,sB V.s1,sB V.s2,sB V.s3,sB V.s4,sB V.s5]++(V.aj.take i).map λx=>sB x.2
 let l2:List (Option Nat):=(V.aj.drop (i+1)).map (λx=>sB x.2)++(V.aD.map λx=>sB x.2)++(V.aG.map λx=>sB x.2)
 have hV:V.bl=l1++sB V.aj[i].2::l2:=by
  have e:V.aj=V.aj.take i++V.aj[i]::V.aj.drop (i+1):=by rw[<-abb hi,aaL]
  have e2:(V.aj.map λx=>sB x.2)=(V.aj.take i).map (λx=>sB x.2)++sB V.aj[i].2:: (V.aj.drop (i+1)).map (λx=>sB x.2):=by
   conv=>lhs;rw[e]
   simp only[ZV,aaJ]
  exact z208
 have Wc:{V with aj:=V.aj.set i (y,t) }.bl=l1++sB t::l2:=by
  have e2:((V.aj.set i (y,t)).map λx=>sB x.2)=(V.aj.take i).map (λx=>sB x.2)++sB t:: (V.aj.drop (i+1)).map (λx=>sB x.2):=by
   rw[List.set_eq_take_append_cons_drop,ZY hi];simp only[ZV,aaJ]
  exact z208
 have Tt:=r.o.di;rw[hV]at Tt;obtain⟨h1,h2,h3⟩:=aa1.1 Tt;have h4:=aaM.1 h2;have nti:∀j,some j∈l1\/some j∈l2->sB V.aj[i].2≠some j:=λj hj e=>by
  rcases hj with hj|hj
  ·exact h3 _ hj _ Si j rfl e
  ·exact h4.1 _ hj j e rfl
 have hlt:∀j,some j∈l1\/some j∈l2->j<h.length:=λj hj=>(hin j (by rw[hV];exact jG hj)).2
 have ns2:∀j,(some j∈[sB V.s0,sB V.s1]\/some j∈[sB V.s3,sB V.s4,sB V.s5]++((V.aj.map λx=>sB x.2)++(V.aD.map λx=>sB x.2)++(V.aG.map λx=>sB x.2)))->sB V.s2≠some j:=λj hj e=>by
  have XX:lR ([sB V.s0,sB V.s1]++sB V.s2:: ([sB V.s3,sB V.s4,sB V.s5]++((V.aj.map λx=>sB x.2)++(V.aD.map λx=>sB x.2)++(V.aG.map λx=>sB x.2)))):=by
   have:=r.o.di;simp only[RV.bl]at this
   simpa using this
  obtain⟨a1,a2,a3⟩:=aa1.1 XX;rcases hj with hj|hj
  ·exact a3 _ hj _ Si j rfl e
  ·exact(aaM.1 a2).1 _ hj j e rfl
 have kp:∀j,(some j∈l1\/some j∈l2)->sB V.s2≠some j->k[j]? =h[j]? :=λj hj hn=>hk j (hlt j hj) hn (nti j hj)
 have own:cP N k {V with aj:=V.aj.set i (y,t) }:=by
  refine⟨r.o.i0.aB λj hj=>kp j (.inl (by rw[<-hj];simp[l1])) (ns2 j (.inl (by rw[<-hj];simp))),r.o.i1.aB λj hj=>kp j (.inl (by rw[<-hj];simp[l1])) (ns2 j (.inl (by rw[<-hj];simp))),hs,
   r.o.i3.aB λj hj=>kp j (.inl (by rw[<-hj];simp[l1])) (ns2 j (.inr (by rw[<-hj];simp))),r.o.i4.aB λj hj=>kp j (.inl (by rw[<-hj];simp[l1])) (ns2 j (.inr (by rw[<-hj];simp))),r.o.i5.aB λj hj=>kp j (.inl (by rw[<-hj];simp[l1])) (ns2 j (.inr (by rw[<-hj];simp))),?_,?_,?_,?_⟩
  ·intro x hx;obtain⟨n,hn,rfl⟩:=abV hx;have Xt:n<V.aj.length:=by simpa using hn
   by_cases hni:n=i
   ·subst hni;simp only[abL];exact ht
   ·simp only[acd (abe hni)];refine(r.o.e2 _ (ZZ Xt)).aB λj hj=>kp j ?_ (ns2 j (.inr ?_))
    ·rcases Nat.lt_or_gt_of_ne hni with hlt|hlt
     ·left
      refine ZX.2 (.inr (aal.2 ⟨V.aj[n],?_,hj⟩));exact List.mem_take_iff_getElem.2 ⟨n,Om,rfl⟩
     ·right
      simp only[l2,ZX];refine .inl (.inl (aal.2 ⟨V.aj[n],?_,hj⟩));exact List.mem_drop_iff_getElem.2 ⟨n-(i+1),Om,by congr 1;omega⟩
    ·simp only[ZX];exact .inr (.inl (.inl (aal.2 ⟨V.aj[n],ZZ Xt,hj⟩)))
  ·intro x hx;refine(r.o.e3 x hx).aB λj hj=>kp j (.inr ?_) (ns2 j (.inr ?_))
   ·simp only[l2,ZX];exact .inl (.inr (aal.2 ⟨x,hx,hj⟩))
   ·simp only[ZX];exact .inr (.inl (.inr (aal.2 ⟨x,hx,hj⟩)))
  ·intro x hx;refine(r.o.e4 x hx).aB λj hj=>kp j (.inr ?_) (ns2 j (.inr ?_))
   ·simp only[l2,ZX];exact .inr (aal.2 ⟨x,hx,hj⟩)
   ·simp only[ZX];exact .inr (.inr (aal.2 ⟨x,hx,hj⟩))
  ·show lR {V with aj:=V.aj.set i (y,t) }.bl;rw[Wc];refine Tt.yA λj hj=>.inr ⟨λz hz e=>?_,λz hz e=>?_⟩
   ·subst e;have:=hlt j (.inl hz);have:=hnt j hj;omega
   ·subst e;have:=hlt j (.inr hz);have:=hnt j hj;omega
 have hne:=r.ne;rw[hV]at hne;refine⟨own,r.hN,?_,λhb=>?_⟩
 ·have n1:sB V.s2≠some b:=λe=>hne (jG (.inl (by rw[<-e];simp[l1])))
  have n2:sB V.aj[i].2≠some b:=λe=>hne (by rw[e];simp)
  exact(hk b r.lt n1 n2).trans r.m
 ·rw[Wc]at hb;rcases wJ hb with z|z|z
  ·exact hne (jG (.inl z))
  ·have:=hnt b z.symm;have:=r.lt;omega
  ·exact hne (jG (.inr z))
set_option maxRecDepth 10000
attribute [local irreducible] WP WC WE WB WR WF WL WG fR
section
variable {P:Program}(T:fD P) {h:ah}
include T
def r266{L s}(hs:aI h s 1 (L.map ak))(hl:L.length<2^63)(n:By):ay P 266 [s,.str n] h (λv _=>v=.i (de (λy=>decide (n=y)) L)):=by
 refine .fo 19 T.mix T.c266 ?_;intro ts hlen t0 t1;unfold fn266 gA;refine Rs (A3 t0 t1 hs.aL) ?_;refine WL.inv T.mix (λm ts h'=>∃k:Nat,k<=L.length/\m=L.length-k/\h' =h/\L.findIdx? (λy=>decide (n=y))=((L.drop k).findIdx? (λy=>decide (n=y))).map (· +k)/\ts.length=19/\slot ts 0=s/\slot ts 1=.str n/\slot ts 7=.i L.length/\slot ts 8=.i k) L.length
  ⟨0,Om,rfl,rfl,Si,Sn,(Sq t0),(Sq t1),(Sq t0),gf⟩ ?_
 rintro _ ts _ ⟨k,hk,rfl,rfl,hi,hlen,t0,t1,t7,t8⟩;by_cases hlt:k<L.length
 ·have hd:L.drop k=L[k]::L.drop (k+1):=Si
  have e3:=eF hlt;have ix:=hs.dA (kk:=.i64) hlt;have ld:=hs.gR (i:=k) (x:=.str L[k]) hlt rfl (Ext.refl _);have e5:=wrapN (n:=k) Om;by_cases hp:n=L[k]
  ·have q:decide (n=L[k])=true:=ZR hp;refine Rs (A8 t0 t1 t7 t8 e3 ix @ld q) ?_;rw[de,hi,hd,ab1,q];simp
  ·have q:decide (n=L[k])=false:=ZN hp;refine Rs (A9 t0 t1 t7 t8 e3 ix @ld q e5) ?_;refine⟨_,?_,k+1,Om,rfl,?_,rfl⟩
   ·omega
   ·rw[hi,hd,ab1,q];exact Rx
 ·have e3:=fq hlt;have e4:k=L.length:=Om
  refine Rs (A5 t0 t1 t7 t8 e3) ?_;rw[de,hi,e4,aaT];rfl
def r242{L:List (By)}{s:AV}(hs:aI h s 1 (L.map ak))(hl:L.length<2^63)(n:By):ay P 242 [s,.str n] h (λv _=>v=.bool (decide (n∈L))):=by
 refine .fo 9 T.mix T.c242 ?_;intro ts hlen t0 t1;unfold fn242 gA;refine Rs (A2 t0 t1) ?_;refine WF.ce T.c266 (r266 T hs hl n) λg1=>?_
 refine Rs (A2 t0 t1) ?_;rw[oP];congr 1;rw[Bool.eq_iff_iff];simp[abx]
end
attribute [local irreducible] WM
section
variable {P:Program}(T:fD P) {B g:ah}{b:Nat}{V:RV}{x:EV}
include T
def P0(r:b9 B.length (B++g) b V)(c:Cx (B++g) V x .copy):dE P 158 [.ptr b 0,.agg x.row] (B++g) (λ_ k=>uv B b V x.ev .copy k):=by
 refine .fo 50 T.mix T.c158 ?_;intro ts hlen t0 t1;unfold fn158;have hex:=@bj.box _ _ c.e;have lb:=@fw _ _ _ r.m;have i0:aV 1 x.sn (.i 0)=_:=(c.nm (i:=0) De).1;have d0:=@(c.nm (i:=0) De).2;have i1:aV 1 x.sn (.i 1)=_:=(c.nm (i:=1) De).1;have d1:=@(c.nm (i:=1) De).2;have TF:V.aj.length<=64:=by have:=c.w.l2;simpa [RV.ao]using this
 have htp:∀y∈V.aj,y.1.aH.length<2^30:=λy hy=>(c.w.yL.sh y hy).2
 refine Rs (mQ t0 t1 @hex @lb @fG @aP @i0 @d0 @i1 @d1 c.o.i2.aL) ?_;obtain⟨a,ha⟩:∃a,a=aS x.ev 0:=⟨_,rfl⟩;obtain⟨z,hz⟩:∃z,z=aS x.ev 1:=⟨_,rfl⟩;rw[<-ha,<-hz];refine WL.inv T.mix (λn ts h'=>∃(k:Nat) (g':ah) (U:RV),k<=V.aj.length/\n=V.aj.length-k/\h' =B++g'/\b9 B.length (B++g') b U/\U.s2=V.s2/\U.aj.length=V.aj.length/\
   {U.ao with aj:=V.ao.aj} =V.ao/\(∀i (hi:i<U.aj.length) (hi':i<V.aj.length),(U.aj[i]).1=if i<k then lC a z (V.aj[i]).1 else(V.aj[i]).1)/\
   ts.length=50/\slot ts 0=.ptr b 0/\slot ts 4=.str a/\slot ts 5=.str z/\slot ts 19=V.s2/\slot ts 20=.i V.aj.length/\slot ts 21=.i k) V.aj.length
  ⟨0,g++[an.b x.row],V,Om,rfl,by rw[ZO],by rw[<-ZO];exact r.app _,rfl,rfl,rfl,λi hi hi'=>by rw[ZW Om],Sn,(Sq t0),(Sq t0),(Sq t0),(Sq t0),(Sq t0),gf⟩ ?_
 clear t0 t1 hlen i0 d0 i1 d1 hex lb;clear ts;rintro _ ts _ ⟨k,g',U,hk,rfl,rfl,rU,Te,UG,hreg,hU,hlen,t0,t4,t5,t19,t20,t21⟩;by_cases hlt:k<V.aj.length
 ·have VO:k<U.aj.length:=Om
  have e3:=eF hlt;have e5:=wrapN (n:=k) Om;have oU:=rU.o.ok;have ix:aV 3 V.s2 (.i (k:Int))=some (cF V.s2 3 k,.ar):=by rw[<-Te];exact oU.i2.dA VO
  have ld:∀{k':ah},Ext (B++g') k'->aq (some 3) (cF V.s2 3 k) (λb=>k'[b]?)=some (.agg (bt U.aj[k]),.ar):=λ{k'} e=>by rw[<-Te];exact oU.i2.kR VO e
  have Ty:U.aj[k]∈U.aj:=ZZ _;have hx1:(U.aj[k]).1=(V.aj[k]).1:=by rw[hU k VO hlt,ZW Om]
  have hxl:(U.aj[k]).1.aH.length<2^30:=by rw[hx1];exact htp _ (ZZ _)
  have WU:=rU.o.e2 _ Ty;have next:∀(U2:RV),U2.aj.length=V.aj.length->(∀i (hi:i<U2.aj.length) (hi':i<U.aj.length),(U2.aj[i]).1=if i=k then lC a z (U.aj[i]).1 else(U.aj[i]).1)->
    ∀i (hi:i<U2.aj.length) (hi':i<V.aj.length),(U2.aj[i]).1=if i<k+1 then lC a z (V.aj[i]).1 else(V.aj[i]).1:=by
   intro U2 a3 a5 i hi hi';exact Rk
  obtain⟨y,hy⟩:∃y,y=U.aj[k]:=⟨_,rfl⟩;rw[<-hy]at ld WU hxl;have oy:=WU.aO.one;unfold bt at ld;refine Rs (kJ t0 t4 t5 t19 t20 t21 e3 ix @ld @oy) ?_;refine WF.ce T.c242 (r242 T (WU.aO.ext Xx) Om a) λg1=>?_
  by_cases h1:a∈y.1.aH
  case neg=>
   have q1:decide (a∈y.1.aH)=false:=ZN h1;rw[q1];refine Rs (A7 t0 t4 t5 t19 t20 t21 e5) ?_;have Wb:B++g'++[an.b [AV.str y.1.name,.str y.1.line,y.2]]++g1=B++(g'++[an.b [AV.str y.1.name,.str y.1.line,y.2]]++g1):=by simp only[ZO]
   refine⟨_,Om,k+1,_,U,Om,rfl,Wb,by rw[<-Wb];exact(rU.app _).app _,Te,UG,hreg,next U UG (λi hi hi'=>?_),rfl⟩;split
   ·rename_i UB;subst UB;rw[<-hy,lC,ZW (λw=>h1 w.1)]
   ·rfl
  have q1:decide (a∈y.1.aH)=true:=ZR h1;rw[q1];refine Rs (A6 t0 t4 t5 t19 t20 t21) ?_;refine WF.ce T.c242 (r242 T (WU.aO.ext Xx) Om z) λg2=>?_
  by_cases h2:z∈y.1.aH
  ·have q2:decide (z∈y.1.aH)=true:=ZR h2;rw[q2];refine Rs (A8 t0 t4 t5 t19 t20 t21 @aad e5) ?_;have Wb:B++g'++[an.b [AV.str y.1.name,.str y.1.line,y.2]]++g1++g2=B++(g'++[an.b [AV.str y.1.name,.str y.1.line,y.2]]++g1++g2):=by simp only[ZO]
   refine⟨_,Om,k+1,_,U,Om,rfl,Wb,by rw[<-Wb];exact((rU.app _).app _).app _,Te,UG,hreg,next U UG (λi hi hi'=>?_),rfl⟩;split
   ·rename_i UB;subst UB;rw[<-hy,lC,ZW (λw=>w.2 h2)]
   ·rfl
  have q2:decide (z∈y.1.aH)=false:=ZN h2;rw[q2];refine Rs (A7 t0 t4 t5 t19 t20 t21 @aai) ?_;obtain⟨xb,hxb⟩:∃xb,xb=(B++g').length:=⟨_,rfl⟩;obtain⟨G,hG⟩:∃G,G=g'++[an.b [AV.str y.1.name,.str y.1.line,y.2]]++g1++g2:=⟨_,rfl⟩;have Wb:B++g'++[an.b [AV.str y.1.name,.str y.1.line,y.2]]++g1++g2=B++G:=by rw[hG];simp only[ZO]
  have hex:Ext (B++g') (B++G):=by rw[<-Wb];exact Xx
  have mx:(B++G)[xb]? =some (.b [AV.str y.1.name,.str y.1.line,y.2]):=by
   rw[<-Wb,hxb,ZO _ g1,ZQ Si,Z1 Om];simp
  have mb:(B++G)[b]? =some (.b U.row):=hex.some rU.m;have hfx2:Fr B.length (B++G) y.2 1 (y.1.aH.map ak):=by rw[<-Wb];exact((WU.app _).app _).app _
  have hs22:Fr B.length (B++G) V.s2 3 (U.aj.map bt):=by rw[<-Wb,<-Te];exact((rU.o.i2.app _).app _).app _
  rw[Wb,<-hxb];refine pC (λh=>h[b]? =some (.b U.row)/\h[xb]? =some (.b [AV.str y.1.name,.str y.1.line,y.2])) ?_;have hS:(λh:ah=>h[b]? =some (.b U.row)/\h[xb]? =some (.b [AV.str y.1.name,.str y.1.line,y.2])) (B++G):=⟨mb,mx⟩;refine dD hS rfl rfl ?_;refine Rs t0 ?_;refine dD hS rfl rfl ?_;refine Rs t0 ?_;refine dD hS rfl rfl ?_;refine Rs t0 ?_;refine lK hS (v:=V.s2) (λg hg=>?_) ?_
  ·simp only[aQ,aR,aX,aY,reduceAdd,reduceMul,reduceLeDiff,reduceEqDiff,bd,hlen,Z3,Z7,t0,az hg.1,fG,Te]
  refine Rs t0 ?_;refine dD hS rfl rfl ?_;refine Rs t0 ?_;refine dD hS rfl rfl ?_;refine Rs t0 ?_;refine lK hS (v:=y.2) (λg hg=>?_) ?_
  ·simp only[aQ,aR,aX,aY,reduceAdd,reduceMul,reduceLeDiff,reduceEqDiff,bd,hlen,Z3,Z7,t0,az hg.2]
  refine Rs t0 ?_;refine dD hS rfl rfl ?_;refine Rs (A2 t0 t5) ?_;obtain⟨zr,hzr⟩:∃zr,zr=ak z:=⟨_,rfl⟩;have hS2:(λh:ah=>h[b]? =some (.b U.row)/\h[xb]? =some (.b [AV.str y.1.name,.str y.1.line,y.2])) (B++G++[an.cells [.str z] true true]):=⟨(Ext.app _ (Ext.refl _)).some mb,(Ext.app _ (Ext.refl _)).some mx⟩;have hxlt:xb<(B++G).length:=by
   rw[<-Wb,hxb];simp only[ZL,ZP,ZT];omega
  refine dD hS rfl rfl ?_;refine Rs t0 ?_;refine dD hS2 rfl rfl ?_;refine Rs t0 ?_;refine WR.fP (h0:=B) (cs:=y.1.aH.map ak) (ys:=[ak z]) (hfx2.app _) (Fr.push (N:=0) (aam _) [ak z] (by simp[ak])).aO De Si (by simp only[ZU,ZP,ZT];omega) (by rw[ZO];exact⟨_,rfl⟩) ?_;intro g3 Zt hff hkp;have hrow:y.1.aH.map ak++[ak z]=(y.1.aH++[z]).map ak:=by rw[ZV];rfl
  rw[hrow]at hff;rw[hrow];obtain⟨t',ht'⟩:∃t',t' =AV.slice (B++G++[an.cells [.str z] true true]).length 0 ((y.1.aH++[z]).map ak).length 1:=⟨_,rfl⟩;rw[<-ht']at hff;rw[<-ht'];have o1:t'.one=true:=by rw[ht'];rfl
  have hGl:(B++g').length<=(B++G).length:=hex.len;have hty:sB t' =some (B++G++[an.cells [.str z] true true]).length:=by rw[ht'];rfl
  have hbl:=rU.lt;have Vs:sB y.2≠some b:=λe=>rU.ne (by rw[<-e,RV.bl,hy];simp only[ZX,aal];exact .inl (.inl (.inr ⟨_,Ty,rfl⟩)))
  have Uk:∀i,sB y.2=some i->i<xb:=λi hi=>by rw[hxb];exact(WU.bB hi).2
  have hk3:∀i,i<(B++G).length->sB y.2≠some i->(B++g3)[i]? =(B++G)[i]? :=λi hi hne=>by
   rw[hkp i (by simp only[ZL]at hi ⊢;omega) (λb0 o n e he z=>hne (by rw[he,z];rfl)),ZQ hi]
  have hS3:(λh:ah=>h[b]? =some (.b U.row)/\h[xb]? =some (.b [AV.str y.1.name,.str y.1.line,y.2])) (B++g3):=
   ⟨(hk3 b Om Vs).trans mb,(hk3 xb hxlt (λe=>by have:=Uk _ e;omega)).trans mx⟩
  have hsy:∀j,sB V.s2=some j->sB y.2≠some j:=λj hj e=>by
   have XX:lR ([sB U.s0,sB U.s1]++sB U.s2:: ([sB U.s3,sB U.s4,sB U.s5]++((U.aj.map λx=>sB x.2)++(U.aD.map λx=>sB x.2)++(U.aG.map λx=>sB x.2)))):=by
    have:=rU.o.di;simp only[RV.bl]at this
    simpa using this
   obtain⟨_,a2,_⟩:=aa1.1 XX;refine(aaM.1 a2).1 (sB y.2) ?_ j (by rw[Te];exact hj) e;simp only[ZX,aal];exact .inr (.inl (.inl ⟨_,Ty,by rw[<-hy]⟩))
  have hs23:Fr B.length (B++g3) V.s2 3 (U.aj.map bt):=hs22.aB λi hi=>hk3 i (hs22.bB hi).2 (hsy i hi)
  refine Rs t0 ?_;refine pB hS3 rfl ?_;refine Rs (A3 t0 ix @o1) ?_;have hkU:k<U.aj.length:=VO;refine WR.sW (h0:=B) (x':=(⟨y.1.name,y.1.line,y.1.aH++[z]⟩,t')) (row:=bt) hs23 VO De o1 (by rw[<-hy];rfl) ?_;intro g4 hl4 hff4 hkp4;have hk4:∀i,i<(B++g').length->sB V.s2≠some i->sB y.2≠some i->(B++g4)[i]? =(B++g')[i]? :=λi hi n1 n2=>by
   rw[hkp4 i (λb0 o n e he z=>n1 (by rw[he,z];rfl)),hk3 i Om n2];exact hex.get hi
  have nb2:sB V.s2≠some b:=λe=>rU.ne (by rw[<-e,<-Te];simp[RV.bl])
  have ht4:Fr B.length (B++g4) t' 1 ((y.1.aH++[z]).map ak):=hff.aB λi hi=>by
   rw[hty]at hi;cases hi;refine hkp4 _ (λb0 o n e he zz=>?_);have:=(rU.o.i2.bB (show sB U.s2=some b0 by rw[Te,he];rfl)).2;have h3:(B++g').length<=(B++G++[an.cells [.str z] true true]).length:=by simp only[ZL]at hGl ⊢;omega
   omega
  refine Rs (A7 t0 t4 t5 t19 t20 t21 e5) ?_;refine⟨_,Om,k+1,g4,{U with aj:=U.aj.set k (⟨y.1.name,y.1.line,y.1.aH++[z]⟩,t') },Om,rfl,rfl,rU.RE VO (by rw[Te];exact hff4) ht4 (λj hj=>?_) (λj hj n1 n2=>hk4 j hj (by rw[<-Te];exact n1) (by rw[hy];exact n2)),Te,(by simp only[aax];exact UG),hreg,next _ (by simp only[aax];exact UG) (λi hi hi'=>?_),rfl⟩
  ·rw[hty]at hj;cases hj;simp only[ZL]at hGl ⊢;omega
  ·by_cases UB:i=k
   ·subst UB;simp only[abL,Z7];rw[<-hy,lC,ZY ⟨h1,h2⟩]
   ·exact z218
 ·have e3:decide ((k:Int)<V.aj.length)=false:=ZN Om;have e4:k=V.aj.length:=Om
  refine Rs (A8 t0 t4 t5 t19 t20 t21 e3 @fH) ?_;refine⟨g',U,rfl,rU,?_⟩;exact Ru
end
def HV.now(V:HV):RV:=V.da.getLastD RV.zero
def HV.km(V:HV):V.now.ao=V.bP.now:=by
 rw[HV.now,HV.bP,ju.now];show _=(V.da.map RV.ao).getLastD hO.zero;rw[aa6,aa6,List.getLast?_map];cases V.da.getLast? <;>rfl
structure Ar(h:ah)(b:Nat)(V:HV):Prop where
 hb:h[b]? =some (.b [V.se,V.sc,V.sr])
 ie:aI h V.se 5 (V.cN.map EV.row)
 ic:aI h V.sc 5 (V.fS.map EV.row)
 ig:aI h V.sr 7 (V.da.map RV.row)
 ae:∀x∈V.cN,bj h x
 ac:∀x∈V.fS,bj h x
 ag:∀x∈V.da,aC h x
theorem Ar.ext{h k b V}(o:Ar h b V)(e:Ext h k):Ar k b V:=
 ⟨e.some o.hb,o.ie.ext e,o.ic.ext e,o.ig.ext e,λx hx=>(o.ae x hx).ext e,λx hx=>(o.ac x hx).ext e,λx hx=>(o.ag x hx).ext e⟩
def cg.rd{N h b V}(o:cg N h b V):Ar h b V:=
 ⟨o.hb,o.oe.aO,o.oc.aO,o.og.aO,λx hx=>(o.ae x hx).sub (gZ.fh _ _),λx hx=>(o.ac x hx).sub (gZ.fh _ _),λx hx=>(o.ag x hx).sub (gZ.fh _ _)⟩
theorem Ar.now{h b V}(o:Ar h b V):aC h V.now:=by
 rw[HV.now,aa6];cases hx:V.da.getLast? with
 |none=>exact aC.zero
 |some R=>exact o.ag R (List.mem_of_getLast? hx)
def aC.st{h V}(o:aC h V){b a0 a1 a2 a3 a4 a5 a6 tl}:kG 7 0 (.agg V.row) b (.cells [a0,a1,a2,a3,a4,a5,a6] true tl)=some (aA,.set b (.cells V.row true tl)):=by
 refine(uz (l:=V.row) rfl o.row (by show 0+7<=7;omega)).trans ?_;rfl
def bj.st{h x}(o:bj h x){b a0 a1 a2 a3 a4 tl}:kG 5 0 (.agg x.row) b (.cells [a0,a1,a2,a3,a4] true tl)=some (aA,.set b (.cells x.row true tl)):=by
 refine(uz (l:=x.row) rfl o.row (by show 0+5<=5;omega)).trans ?_;rfl
def IY{e d}(hd:d≠.fO):e.kind=bw d↔pT e=d:=by
 rw[pT];constructor
 ·intro h;rw[h,mG];rfl
 ·intro h;cases hk:ff e.kind with
  |none=>rw[hk]at h;exact absurd h.symm hd
  |some c=>rw[hk]at h;cases h;exact bZ hk
structure lJ(H:ju):Prop where
 rg:∀R∈H.da,fQ R
 ln:H.da.length=H.fS.length
 le:H.fS.length<=H.cN.length
 ev:∀e∈H.cN,∃d,kH e d
 cn:∀e∈H.fS,∃d,kH e d
theorem lJ.zero:lJ ju.zero:=by
 refine⟨?_,rfl,Z0 _,?_,?_⟩
 all_goals intro x hx;cases hx
theorem lJ.now{H}(w:lJ H):fQ H.now:=by
 rw[ju.now,aa6];cases hx:H.da.getLast? with
 |none=>exact fQ.zero
 |some R=>exact w.rg R (List.mem_of_getLast? hx)
section
variable {P:Program}(T:fD P)
include T
def Gz{B g b V x d ro ks ts Q dd l}(hd:d≠.fO)(r:b9 B.length (B++g) b V)(c:Cx (B++g) V x d)(hc:bD V.ao x.ev d=0)(gl:Gl (B++g))
  (K:∀v h',uv B b V x.ev d h'->WP P ro l ks (put ts dd v) h' Q):WF P ro false (pS d) [.ptr b 0,.agg x.row] dd l ks ts (B++g) Q:=by
 cases d with
 |fO=>exact absurd rfl hd
 |line=>exact WF.gen (a:=[]) (c:=[]) T.c149 (P3 T r c) K
 |tape=>exact WF.gen (a:=[]) (c:=[]) T.c152 (P2 T r c) K
 |hP=>exact WF.gen (a:=[]) (c:=[]) T.c156 (P1 T r c) K
 |copy=>exact WF.gen (a:=[]) (c:=[]) T.c158 (P0 T r c) K
 |accept=>exact WF.gen (a:=[]) (c:=[]) T.c160 (PZ T r c) K
 |source=>exact WF.gen (a:=[]) (c:=[]) T.c162 (PY T r c) K
 |gQ=>exact WF.gen (a:=[]) (c:=[]) T.c164 (PX T r c hc gl) K
 |merge=>exact WF.gen (a:=[]) (c:=[]) T.c166 (PW T r c) K
 |run=>exact WF.gen (a:=[]) (c:=[]) T.c168 (PV T r c hc) K
 |gO=>exact WF.gen (a:=[]) (c:=[]) T.c170 (PU T r c hc) K
 |fail=>exact WF.gen (a:=[]) (c:=[]) T.c172 (PT T r c hc) K
 |ij=>exact WF.gen (a:=[]) (c:=[]) T.c174 (PS T r c) K
 |rel=>exact WF.gen (a:=[]) (c:=[]) T.c176 (PR T r c) K
variable {h:ah}
def r79{V b}(o:Ar h b V)(hl:V.da.length<=1000):ay P 79 [.ptr b 0] h (λv _=>v=.agg V.now.row):=by
 refine .jd 20 T.mix T.c79 ?_;intro ts hlen t0;unfold fn79 gA;have hb:=o.hb;have lb:=@fw _ _ _ hb;refine Rs (A3 t0 @lb o.ig.aL) ?_;rcases List.eq_nil_or_concat V.da with hn|⟨L,R,hn⟩
 ·have SQ:V.da.length=0:=by rw[hn];rfl
  have e1:decide ((0:Int)<(V.da.length:Int))=false:=ZN Om;refine Rs (A2 t0 e1) ?_;rw[HV.now,hn];rfl
 ·have hlenR:V.da.length=L.length+1:=by rw[hn];simp
  have e1:decide ((0:Int)<(V.da.length:Int))=true:=ZR Om;have e2:IntKind.i64.wrap ((V.da.length:Int)-1)=(L.length:Int):=by rw[aZ Om Om];omega
  have Xe:L.length<V.da.length:=Om
  have ix:=o.ig.dA (kk:=.i64) Xe;have ld:∀{k':ah},Ext h k'->_:=λ{k'} e=>o.ig.kR Xe e
  have hR:V.da[L.length]=R:=by simp only[hn];simp
  rw[hR]at ld;have st:=@aC.st h R (o.ag R (by rw[hn];simp));refine Rs (A8 t0 e1 e2 @lb ix @ld @st @aE) ?_;rw[HV.now,hn];simp
def r116{V b x d}(o:Ar h b V)(w:lJ V.bP)(hl:V.cN.length<=1000)(ox:bj h x)(wx:kH x.ev d)(gl:Gl h):
  ay P 116 [.ptr b 0,.agg x.row] h (λv _=>v=.i (ke V.bP x.ev)):=by
 have hcl:V.fS.length<=V.cN.length:=by have:=w.le;simpa [HV.bP]using this
 have Tz:V.da.length=V.fS.length:=by have:=w.ln;simpa [HV.bP]using this
 refine .fo 106 T.mix T.c116 ?_;intro ts hlen t0 t1;unfold fn116;have hb:=o.hb;have lb:=@fw _ _ _ hb;have hex:=@bj.box _ _ ox;have ew:IntKind.i64.wrap ((V.cN.length:Int)+1)=(V.cN.length:Int)+1:=aZ Om Om;by_cases h1:x.ev.num=(V.cN.length:Int)+1
 case neg=>
  have q1:decide (x.ev.num≠(V.cN.length:Int)+1)=true:=ZR h1;refine Rs (A8 t0 t1 @lb @hex @jY o.ie.aL @ew q1) ?_;rw[ke,ZY (by simpa [HV.bP]using h1)]
 have q1:decide (x.ev.num≠(V.cN.length:Int)+1)=false:=ZN (λz=>z h1);have SE:pT x.ev=d:=by rw[pT,wx.kd];rfl
 rw[ke,ZW (by simpa [HV.bP]using h1),SE];by_cases h2:d=.fO
 ·have q2:decide (x.ev.kind=[117,110,100,111])=true:=ZR (by rw[bZ wx.kd,h2];rfl);rw[ZY h2];refine Rs (mQ t0 t1 @lb @hex @jY @bC o.ie.aL o.ic.aL @ew q1 q2) ?_;rcases List.eq_nil_or_concat V.fS with hn|⟨L,c,hn⟩
  ·have SQ:V.fS.length=0:=by rw[hn];rfl
   have e1:decide ((V.fS.length:Int)=0)=true:=ZR Om;refine Rs (A2 t0 e1) ?_;simp only[HV.bP,hn];rfl
  ·have hlenR:V.fS.length=L.length+1:=by rw[hn];simp
   have e1:decide ((V.fS.length:Int)=0)=false:=ZN Om;have e2:IntKind.i64.wrap ((V.fS.length:Int)-1)=(L.length:Int):=by rw[aZ Om Om];omega
   have Xe:L.length<V.fS.length:=Om
   have ix:=o.ic.dA (kk:=.i64) Xe;have hR:V.fS[L.length]=c:=by simp only[hn];simp
   have lf:∀{k':ah},Ext h k'->aq none (j6 V.sc 5 L.length 1) (λb=>k'[b]?)=some (.str c.ev.kind,.ar):=λ{k'} e=>by
    refine o.ic.lO Xe ?_ e;rw[hR];rfl
   refine Rs (A6 t0 e1 e2 @lb ix @lf) ?_;refine WF.ce T.c85 (r85 T _ _) λg1=>?_
   refine Rs t0 ?_;have e3:decide (c.ev.kind=[114,101,108,101,97,115,101])=decide (pT c.ev=.rel):=abB.2 (IY (d:=.rel) De);have e4:V.bP.fS.getLast? =some c.ev:=by simp[HV.bP,hn]
   rw[e3,e4];by_cases h5:pT c.ev=.rel<;>simp[bW,h5]
 have q2:decide (x.ev.kind=[117,110,100,111])=false:=ZN λz=>h2 (by
  have:=wx.kd;rw[z]at this;exact(aaN ((mG .fO).symm.trans this)).symm)
 rw[ZW h2,<-V.km];have wn:fQ V.now.ao:=by rw[V.km];exact w.now
 have on:=o.now;have ltk:0<bK d:=by cases d<;>first|exact absurd rfl h2|decide
 have Tf:0<x.ev.bQ.length:=by rw[wx.vl];exact ltk
 have lP:aV 1 x.sv (.i 0)=some (cF x.sv 1 0,.ar):=ox.v.lP Tf;have ev0:bM x.ev 0=x.ev.bQ[0]:=by rw[bM,aar,ZS Tf];rfl
 have ld0:∀{k':ah},Ext h k'->aq none (cF x.sv 1 0) (λb=>k'[b]?)=some (.i (bM x.ev 0),.ar):=λ{k'} e=>by
  rw[ev0];exact ox.v.gR Tf rfl e
 refine Rs (mQ t0 t1 @lb @hex @jY @bC o.ie.aL o.ic.aL @ew q1 q2) ?_;refine WF.ce T.c79 (r79 T (o.ext Xx) Om) λg1=>?_
 have st:=@aC.st h V.now on;rw[jX];by_cases h3:bM x.ev 0<V.now.ao.tick
 ·have q3:decide (bM x.ev 0<V.now.tick)=true:=ZR h3;refine Rs (A8 t0 t1 @st @rG @bg @lP @ld0 q3) ?_;rw[ZY h3]
 have q3:decide (bM x.ev 0<V.now.tick)=false:=ZN h3;rw[ZW h3];refine Rs (A8 t0 t1 @st @rG @bg @lP @ld0 q3) ?_;refine WF.res T.c90 (r90 T) ?_;rintro _ g2 ⟨vf,rfl,hk⟩;obtain⟨H,hH⟩:∃H,H=h++[an.b x.row]++g1++[an.b V.now.row]:=⟨_,rfl⟩;obtain⟨eb,heb⟩:∃eb,eb=h.length:=⟨_,rfl⟩;obtain⟨rb,XK⟩:∃rb,rb=(h++[an.b x.row]++g1).length:=⟨_,rfl⟩;have mr:(H++g2)[rb]? =some (.b V.now.row):=by rw[hH,XK];exact(Ext.app _ (Ext.refl _)).some ba
 have me:(H++g2)[eb]? =some (.b x.row):=by rw[hH,heb];exact(show Ext (h++[an.b x.row]) _ from Xx).some ba
 rw[<-hH]at hk ⊢;rw[<-heb,<-XK];have lk:∀{z:AV},jj .s z false (.map H.length) (.str x.ev.kind) (λb=>(H++g2)[b]?)=lX z false ((ff x.ev.kind).map vf):=hk.look;rw[wx.kd]at lk;have Th:∀{z:AV},_=some (vf d,jv.ar):=@lk;obtain⟨rs,a,hv,hr,ha,hab⟩:=(hk.k d).ex;rw[hv]at Th;have c1:=mH d;have c2:=l9 d;have c3:=hr.one;have le:=@fw _ _ _ me;have lr:=@fw _ _ _ mr;refine Rs (pG t0 t1 @le @bC @bX @Th @c1 @c2 @c3 @ha hr.aL @jr) ?_;obtain⟨L,hL⟩:∃L,L=aM d:=⟨_,rfl⟩;have hnl:x.ev.names.length=L.length:=by rw[hL];exact wx.nl
 have Xe:L.length<=3:=by rw[hL];cases d<;>decide
 have Yy:∀r∈L,r.1<6:=by rw[hL];cases d<;>decide
 rw[<-hL]at hr ⊢;obtain⟨kb,hkb⟩:∃kb,kb=(H++g2).length:=⟨_,rfl⟩;have hex:Ext h (H++g2):=by rw[hH];exact Xx
 have VH:Ext (H++g2) (H++g2++[an.b [rs,.i (bK d:Int),kS d,pS d,a]]):=Xx;have mk:(H++g2++[an.b [rs,.i (bK d:Int),kS d,pS d,a]])[kb]? =some (.b [rs,.i (bK d:Int),kS d,pS d,a]):=by rw[hkb];exact ba
 obtain⟨H2,Xf⟩:∃H2,H2=H++g2++[an.b [rs,.i (bK d:Int),kS d,pS d,a]]:=⟨_,rfl⟩;rw[<-Xf]at mk VH;have hx3:Ext h H2:=hex.trans VH;have lk:=@fw _ _ _ mk;rw[<-Xf,<-hkb];have Vc:∀(i:Nat) (hi:i<L.length),aV 1 x.sn (.i (i:Int))=some (cF x.sn 1 i,.ar):=λi hi=>ox.n.dA Om
 have hld:∀(i:Nat) (hi:i<L.length) (k':ah),Ext h k'->aq none (cF x.sn 1 i) (λb=>k'[b]?)=some (.str (aS x.ev i),.ar):=λi hi k' e=>by
  exact Ra
 refine WL.inv T.mix (λm ts h'=>∃k:Nat,k<=L.length/\m=L.length-k/\Ext H2 h'/\nn V.now.ao x.ev L 0=nn V.now.ao x.ev (L.drop k) k/\ts.length=106/\slot ts 3=.ptr eb 0/\slot ts 6=.ptr rb 0/\slot ts 7=.ptr kb 0/\slot ts 56=rs/\slot ts 57=.i L.length/\slot ts 58=.i k) L.length
  ⟨0,Om,rfl,.refl _,rfl,Sn,Sw,Sw,Sw,Sw,Sw,gf⟩ ?_
 clear t0 t1 hlen lb hb hex le lr;clear ts;rintro _ ts h' ⟨k,hk,rfl,UJ,hu,hlen,t3,t6,t7,t56,t57,t58⟩;have le:∀{k' n a},Ext h' k'->aq n (.ptr eb a) (λz=>k'[z]?)=dK n a (.b x.row):=λ{_ _ _} e=>az (((VH.trans UJ).trans e).some me)
 have lr:∀{k' n a},Ext h' k'->aq n (.ptr rb a) (λz=>k'[z]?)=dK n a (.b V.now.row):=λ{_ _ _} e=>az (((VH.trans UJ).trans e).some mr)
 by_cases hlt:k<L.length
 ·have e3:=eF hlt;have e5:=wrapN (n:=k) Om;have ix:=hr.dA (kk:=.i64) hlt;have ld:∀{k'},Ext h' k'->aq (some 2) (cF rs 2 k) (λb=>k'[b]?)=some (.agg (gI L[k]),.ar):=λ{k'} e=>hr.kR hlt ((VH.trans UJ).trans e)
  have iy:=Vc k hlt;have ly:∀{k'},Ext h' k'->aq none (cF x.sn 1 k) (λb=>k'[b]?)=some (.str (aS x.ev k),.ar):=λ{k'} e=>hld k hlt k' ((hx3.trans UJ).trans e)
  have hd:L.drop k=L[k]::L.drop (k+1):=Si
  obtain⟨r,Wp⟩:∃r,r=L[k]:=⟨_,rfl⟩;have Xq:r.1<6:=by rw[Wp];exact Yy _ (ZZ _)
  rw[hd,<-Wp,nn]at hu;rw[<-Wp,gI]at ld;cases TQ:r.2 with
  |false=>
   rw[TQ]at ld hu;refine Rs (kJ t3 t6 t7 t56 t57 t58 e3 ix @ld e5) ?_;exact z198
  |true=>
   rw[TQ]at ld hu;refine Rs (BD t3 t6 t7 t56 t57 t58 e3 ix @ld @iy @ly @le @lr @aE @aP) ?_;refine WF.ce T.c86 (r86 T ((on.ext (hx3.trans UJ)).ext Xx) wn.len Xq _) λg3=>?_
   cases hh:eo V.now.ao r.1 (aS x.ev k)with
   |true=>
    rw[hh]at hu;refine Rs (A8 t3 t6 t7 t56 t57 t58 @aad e5) ?_;exact z198
   |false=>
    rw[hh]at hu;have hu1:nn V.now.ao x.ev L 0=true:=by rw[hu];rfl
    refine Rs (A7 t3 t6 t7 t56 t57 t58 @aai) ?_;refine⟨(hx3.trans UJ).trans Xx,?_⟩;have e6:lM d V.now.ao x.ev=10:=by rw[lM,<-hL,ZY hu1]
    rw[e6,ZY De]
 ·have e3:=fq hlt;have e4:k=L.length:=Om
  have Vt:nn V.now.ao x.ev L 0=false:=by rw[hu,e4,aaT];rfl
  have lk2:∀{k' n a'},Ext h' k'->aq n (.ptr kb a') (λz=>k'[z]?)=dK n a' (.b [rs,.i (bK d:Int),kS d,pS d,a]):=λ{_ _ _} e=>lk (UJ.trans e)
  refine Rs (A9 t3 t6 t7 t56 t57 t58 e3 @lk2 hr.aL) ?_;have hrH:aI h' rs 2 (L.map gI):=hr.ext (VH.trans UJ);refine WL.inv T.mix (λm ts X4=>∃k:Nat,k<=L.length/\m=L.length-k/\Ext h' X4/\rr V.now.ao x.ev L 0=rr V.now.ao x.ev (L.drop k) k/\ts.length=106/\slot ts 3=.ptr eb 0/\slot ts 6=.ptr rb 0/\slot ts 7=.ptr kb 0/\slot ts 79=rs/\slot ts 80=.i L.length/\slot ts 81=.i k) L.length
   ⟨0,Om,rfl,.refl _,rfl,Sn,(Sq t3),(Sq t6),(Sq t7),Sw,Sw,gf⟩ ?_
  clear t3 t6 t7 t56 t57 t58 hlen le lr lk2 e3 e4 hu lk;clear hlt hk ts k;rintro _ ts X4 ⟨k,hk,rfl,XG,hu,hlen,t3,t6,t7,t79,t80,t81⟩;have le:∀{k' n a},Ext X4 k'->aq n (.ptr eb a) (λz=>k'[z]?)=dK n a (.b x.row):=λ{_ _ _} e=>az ((((VH.trans UJ).trans XG).trans e).some me)
  have lr:∀{k' n a},Ext X4 k'->aq n (.ptr rb a) (λz=>k'[z]?)=dK n a (.b V.now.row):=λ{_ _ _} e=>az ((((VH.trans UJ).trans XG).trans e).some mr)
  have lk2:∀{k' n a'},Ext X4 k'->aq n (.ptr kb a') (λz=>k'[z]?)=dK n a' (.b [rs,.i (bK d:Int),kS d,pS d,a]):=λ{_ _ _} e=>az (((UJ.trans XG).trans e).some mk)
  by_cases hlt:k<L.length
  ·have e3:=eF hlt;have e5:=wrapN (n:=k) Om;have ix:=hr.dA (kk:=.i64) hlt;have ld:∀{k'},Ext X4 k'->aq (some 2) (cF rs 2 k) (λb=>k'[b]?)=some (.agg (gI L[k]),.ar):=λ{k'} e=>hrH.kR hlt (XG.trans e)
   have iy:=Vc k hlt;have ly:∀{k'},Ext X4 k'->aq none (cF x.sn 1 k) (λb=>k'[b]?)=some (.str (aS x.ev k),.ar):=λ{k'} e=>hld k hlt k' (((hx3.trans UJ).trans XG).trans e)
   have hd:L.drop k=L[k]::L.drop (k+1):=Si
   obtain⟨r,Wp⟩:∃r,r=L[k]:=⟨_,rfl⟩;have Xq:r.1<6:=by rw[Wp];exact Yy _ (ZZ _)
   rw[hd,<-Wp,rr]at hu;rw[<-Wp,gI]at ld;cases TQ:r.2 with
   |true=>
    rw[TQ]at ld hu;refine Rs (mQ t3 t6 t7 t79 t80 t81 e3 ix @ld e5 @aad) ?_;exact Kz
   |false=>
    rw[TQ]at ld hu;refine Rs (GM t3 t6 t7 t79 t80 t81 e3 ix @ld @iy @ly @le @lr @aE @aP @aai) ?_;refine WF.ce T.c86 (r86 T ((on.ext ((hx3.trans UJ).trans XG)).ext Xx) wn.len Xq _) λg3=>?_
    cases hh:eo V.now.ao r.1 (aS x.ev k)with
    |false=>
     rw[hh]at hu;refine Rs (A7 t3 t6 t7 t79 t80 t81 e5) ?_;exact Kz
    |true=>
     rw[hh]at hu;have hu1:rr V.now.ao x.ev L 0=true:=by rw[hu];rfl
     refine Rs (A6 t3 t6 t7 t79 t80 t81) ?_;refine⟨((hx3.trans UJ).trans XG).trans Xx,?_⟩;have e6:lM d V.now.ao x.ev=9:=by rw[lM,<-hL,ZW (by rw[Vt];decide),ZY hu1]
     rw[e6,ZY De]
  ·have e3:=fq hlt;have e4:k=L.length:=Om
   have Y8:rr V.now.ao x.ev L 0=false:=by rw[hu,e4,aaT];rfl
   have e6:lM d V.now.ao x.ev=0:=by rw[lM,<-hL,ZW (by rw[Vt];decide),ZW (by rw[Y8];decide)]
   rw[e6,ZW De];have Xn:=(hx3.trans UJ).trans XG;refine Rs (pG t3 t6 t7 t79 t80 t81 e3 @lk2 @lr @le @aE @bS) ?_;refine WF.val (Qz T h2 ⟨on.ext Xn,wn,ox.ext Xn,wx,zK e6⟩ (gl.ext Xn)) ?_;rintro _ g4 rfl;refine Rs t3 ?_;exact⟨Xn.trans Xx,trivial⟩
end
def Kg(B h0:ah)(b:Nat)(V:HV)(e:fi)(v:AV)(k:ah):Prop:=∃g' V',k=B++g'/\v=.i (ez V.bP e)/\cg B.length (B++g') b V'/\V'.bP=(if ez V.bP e=0 then ka V.bP e else V.bP)/\(∀i,i<h0.length->some i∉V.ex b->(B++g')[i]? =h0[i]?)/\∀j,some j∈V'.ex b->some j∈V.ex b\/h0.length<=j
def Kg.no{B g g1 b V e}(o:cg B.length (B++g) b V)(h:ez V.bP e≠0){n}(hn:n=ez V.bP e):Kg B (B++g) b V e (.i n) (B++g++g1):=
 ⟨g++g1,V,by rw[ZO],by rw[hn],by rw[<-ZO];exact o.app _,by rw[ZW h],λi hi _=>by rw[<-ZO,ZQ hi],λj hj=>.inl hj⟩
def bj.Du{h x}(o:bj h x){M}:yX 5 1 (fy [.i 0,.str [],.af,.af,.str []] [(0,5,.agg x.row)]) M=some (.slice M 0 1 5,.push (.cells x.row true true)):=yW (c:=x.row) o.row rfl De
def aC.Du{h V}(o:aC h V){M}:yX 7 1 (fy [.i 0,.af,.af,.af,.af,.af,.af] [(0,7,.agg V.row)]) M=some (.slice M 0 1 7,.push (.cells V.row true true)):=yW (c:=V.row) o.row rfl De
theorem bj.fh{h x}(o:bj h x){ex}(h1:∀j,sB x.sn=some j->some j∉ex)(h2:∀j,sB x.sv=some j->some j∉ex):bj (Go.Abs.fh ex h) x:=⟨o.n.fh h1,o.v.fh h2⟩
theorem aC.fh{h V}(o:aC h V){ex}(hx:∀j,some j∈V.bl->some j∉ex):aC (Go.Abs.fh ex h) V:=by
 have m6:∀x∈[sB V.s0,sB V.s1,sB V.s2,sB V.s3,sB V.s4,sB V.s5],x∈V.bl:=λx hx=>by simp only[RV.bl,ZX];exact .inl (.inl (.inl hx))
 refine⟨o.i0.fh λb hb=>hx b (hb▸m6 _ Si),o.i1.fh λb hb=>hx b (hb▸m6 _ Si),o.i2.fh λb hb=>hx b (hb▸m6 _ Si),o.i3.fh λb hb=>hx b (hb▸m6 _ Si),o.i4.fh λb hb=>hx b (hb▸m6 _ Si),o.i5.fh λb hb=>hx b (hb▸m6 _ Si),
  λx hx1=>(o.e2 x hx1).fh λb hb=>hx b ?_,λx hx1=>(o.e3 x hx1).fh λb hb=>hx b ?_,λx hx1=>(o.e4 x hx1).fh λb hb=>hx b ?_⟩
 ·simp only[RV.bl,ZX,aal];exact .inl (.inl (.inr ⟨x,hx1,hb⟩))
 ·simp only[RV.bl,ZX,aal];exact .inl (.inr ⟨x,hx1,hb⟩)
 ·simp only[RV.bl,ZX,aal];exact .inr ⟨x,hx1,hb⟩
def si{a b c d}:lR [a,b,c,d]↔(∀i,a=some i->b≠some i/\c≠some i/\d≠some i)/\(∀i,b=some i->c≠some i/\d≠some i)/\∀i,c=some i->d≠some i:=by
 simp only[lR,aaM,aap,aaI,abm,forall_eq_or_imp,forall_eq,List.Pairwise.nil,and_true,false_implies,implies_true];constructor
 ·rintro⟨⟨h1,h2,h3⟩,⟨h4,h5⟩,h6⟩;exact⟨λi hi=>⟨h1 i hi,h2 i hi,h3 i hi⟩,λi hi=>⟨h4 i hi,h5 i hi⟩,h6⟩
 ·rintro⟨h1,h2,h3⟩;exact⟨⟨λi hi=>(h1 i hi).1,λi hi=>(h1 i hi).2.1,λi hi=>(h1 i hi).2.2⟩,⟨λi hi=>(h2 i hi).1,λi hi=>(h2 i hi).2⟩,h3⟩
def ET{B h:ah}(hl:B.length<=h.length)(hk:∀i,i<B.length->h[i]? =B[i]?):∃g,h=B++g:=by
 refine⟨h.drop B.length,ab7 λi=>?_⟩;by_cases hi:i<B.length
 ·rw[hk i hi,ZQ hi]
 ·exact z148
def vR{B h:ah}{b:Nat}{X:an}(hN:B.length<=b)(hh:∃g,h=B++g):∃g,h.set b X=B++g:=by
 obtain⟨g,rfl⟩:=hh;exact⟨_,aaE _ _ hN⟩
def b9.tk{B g b V}(r:b9 B.length (B++g) b V)(t:Int):∃g',(B++g).set b (.b (V.row.set 0 (.i t)))=B++g'/\b9 B.length (B++g') b {V with tick:=t}:=by
 obtain⟨h1,h2,h3⟩:=nL (.b (V.row.set 0 (.i t))) r.hN r.m;refine⟨_,h1,?_,r.hN,h2,r.ne⟩;have:=r.o.ar (k:=B++g.set (b-B.length) (.b (V.row.set 0 (.i t)))) λi hi=>h3 i λe=>r.ne (e▸hi)
 exact⟨this.i0,this.i1,this.i2,this.i3,this.i4,this.i5,this.e2,this.e3,this.e4,this.di⟩
section
variable {N b:Nat}{h h':ah}{V:HV}
def cg.lt(o:cg N h b V):b<h.length:=(ZM.1 o.hb).1
def cg.Dh(o:cg N h b V){j}(hj:some j∈V.ex b):j<h.length:=by
 simp only[HV.ex,aap,aaI,abm,aak]at hj;rcases hj with hj|hj|hj|hj
 ·rw[hj];exact o.lt
 ·exact(o.oe.bB hj.symm).2
 ·exact(o.oc.bB hj.symm).2
 ·exact(o.og.bB hj.symm).2
def cg.RZ(o:cg N h b V){s' x'}(hk:∀i,i<h.length->sB V.se≠some i->i≠b->h'[i]? =h[i]?)(hs:Ow N h' s' 5 ((V.cN++[x']).map EV.row))(hb:h'[b]? =some (.b [s',V.sc,V.sr]))
  (hn:∀i,sB s' =some i->h.length<=i) (hx:bj (fh (V.ex b) h) x'):cg N h' b {V with cN:=V.cN++[x'],se:=s'}:=by
 obtain⟨d1,d2,d3⟩:=si.1 o.di;have hbl:=o.lt;have hsub:gZ (fh (V.ex b) h) (fh ({V with cN:=V.cN++[x'],se:=s'}.ex b) h'):=by
  refine jC (λi hi hne=>hk i hi (λe=>hne (by simp[HV.ex,e])) (λe=>hne (by simp[HV.ex,e]))) λi hi hm=>?_
  simp only[HV.ex,aap,aaI,abm,aak]at hm ⊢;rcases hm with hm|hm|hm|hm
  ·exact .inl hm
  ·have:=hn i hm.symm;omega
  ·exact .inr (.inr (.inl hm))
  ·exact .inr (.inr (.inr hm))
 refine⟨o.hN,hb,hs,o.oc.aB λi hi=>?_,o.og.aB λi hi=>?_,si.2 ⟨λi hi=>?_,λi hi=>?_,d3⟩,λx hx1=>?_,λx hx1=>(o.ac x hx1).sub hsub,λx hx1=>(o.ag x hx1).sub hsub,o.lo⟩
 ·exact hk i (o.oc.bB hi).2 (λe=>(d2 i e).1 hi) (λe=>(d1 b rfl).2.1 (by rw[<-e];exact hi))
 ·exact hk i (o.og.bB hi).2 (λe=>(d2 i e).2 hi) (λe=>(d1 b rfl).2.2 (by rw[<-e];exact hi))
 ·cases hi;exact⟨λe=>by have:=hn b e;omega,(d1 b rfl).2⟩
 ·have h1:=hn i hi;exact⟨λe=>by have:=(o.oc.bB e).2;omega,λe=>by have:=(o.og.bB e).2;omega⟩
 ·rcases ZX.1 hx1 with hx1|hx1
  ·exact(o.ae x hx1).sub hsub
  ·rw[Z9]at hx1;rw[hx1];exact hx.sub hsub
def cg.RY(o:cg N h b V){S9 Ts n m}(hk:∀i,i<h.length->i≠b->h'[i]? =h[i]?)(hc:Ow N h' S9 5 ((V.fS.take n).map EV.row))(hr:Ow N h' Ts 7 ((V.da.take m).map RV.row))(hb:h'[b]? =some (.b [V.se,S9,Ts]))
  (nc:sB S9=sB V.sc) (nr:sB Ts=sB V.sr):cg N h' b {V with fS:=V.fS.take n,da:=V.da.take m,sc:=S9,sr:=Ts}:=by
 obtain⟨d1,d2,d3⟩:=si.1 o.di;have he:{V with fS:=V.fS.take n,da:=V.da.take m,sc:=S9,sr:=Ts}.ex b=V.ex b:=by simp only[HV.ex,nc,nr]
 have hsub:gZ (fh (V.ex b) h) (fh ({V with fS:=V.fS.take n,da:=V.da.take m,sc:=S9,sr:=Ts}.ex b) h'):=by
  rw[he];exact jC (λi hi hne=>hk i hi (λe=>hne (by simp[HV.ex,e]))) λi hi hm=>hm
 refine⟨o.hN,hb,o.oe.aB λi hi=>hk i (o.oe.bB hi).2 (λe=>(d1 b rfl).1 (by rw[<-e];exact hi)),hc,hr,by rw[he];exact o.di,λx hx1=>(o.ae x hx1).sub hsub,λx hx1=>(o.ac x (aaP hx1)).sub hsub,λx hx1=>(o.ag x (aaP hx1)).sub hsub,λx hx1=>o.lo x (aaP hx1)⟩
def cg.R0(o:cg N h b V){S9 Ts x' R'}(hk:∀i,i<h.length->sB V.sc≠some i->sB V.sr≠some i->i≠b->h'[i]? =h[i]?)(hc:Ow N h' S9 5 ((V.fS++[x']).map EV.row))(hr:Ow N h' Ts 7 ((V.da++[R']).map RV.row))(hb:h'[b]? =some (.b [V.se,S9,Ts]))
  (nc:∀i,sB S9=some i->h.length<=i) (nr:∀i,sB Ts=some i->h.length<=i) (ncr:∀i,sB S9=some i->sB Ts≠some i) (hx:bj (fh (V.ex b) h) x') (hR:aC (fh (V.ex b) h) R') (hlo:∀j,some j∈R'.bl->N<=j):cg N h' b {V with fS:=V.fS++[x'],da:=V.da++[R'],sc:=S9,sr:=Ts}:=by
 obtain⟨d1,d2,d3⟩:=si.1 o.di;have hbl:=o.lt;have hsub:gZ (fh (V.ex b) h) (fh ({V with fS:=V.fS++[x'],da:=V.da++[R'],sc:=S9,sr:=Ts}.ex b) h'):=by
  refine jC (λi hi hne=>hk i hi (λe=>hne (by simp[HV.ex,e])) (λe=>hne (by simp[HV.ex,e])) (λe=>hne (by simp[HV.ex,e]))) λi hi hm=>?_
  simp only[HV.ex,aap,aaI,abm,aak]at hm ⊢;rcases hm with hm|hm|hm|hm
  ·exact .inl hm
  ·exact .inr (.inl hm)
  ·have:=nc i hm.symm;omega
  ·have:=nr i hm.symm;omega
 refine⟨o.hN,hb,o.oe.aB λi hi=>?_,hc,hr,si.2 ⟨λi hi=>?_,λi hi=>?_,ncr⟩,λx hx1=>(o.ae x hx1).sub hsub,λx hx1=>?_,λx hx1=>?_,λx hx1=>?_⟩
 ·exact hk i (o.oe.bB hi).2 (λe=>(d2 i hi).1 e) (λe=>(d2 i hi).2 e) (λe=>(d1 b rfl).1 (by rw[<-e];exact hi))
 ·cases hi;exact⟨(d1 b rfl).1,λe=>by have:=nc b e;omega,λe=>by have:=nr b e;omega⟩
 ·have h1:=(o.oe.bB hi).2;exact⟨λe=>by have:=nc i e;omega,λe=>by have:=nr i e;omega⟩
 ·rcases ZX.1 hx1 with hx1|hx1
  ·exact(o.ac x hx1).sub hsub
  ·rw[Z9]at hx1;rw[hx1];exact hx.sub hsub
 ·rcases ZX.1 hx1 with hx1|hx1
  ·exact(o.ag x hx1).sub hsub
  ·rw[Z9]at hx1;rw[hx1];exact hR.sub hsub
 ·rcases ZX.1 hx1 with hx1|hx1
  ·exact o.lo x hx1
  ·rw[Z9]at hx1;rw[hx1];exact hlo
end
section
variable {P:Program}(T:fD P)
include T
def M3{B g:ah}{V:HV}{b:Nat}{x:EV}(o:cg B.length (B++g) b V)(w:lJ V.bP)(hl:V.cN.length<1000)(ox:bj (B++g) x)(hxl:x.ev.names.length<=2^40/\x.ev.bQ.length<=2^40)(gl:Gl B):
  dE P 112 [.ptr b 0,.agg x.row] (B++g) (λv k=>Kg B (B++g) b V x.ev v k):=by
 have hcl:V.fS.length<=V.cN.length:=by have:=w.le;simpa [HV.bP]using this
 have Tz:V.da.length=V.fS.length:=by have:=w.ln;simpa [HV.bP]using this
 refine .fo 94 T.mix T.c112 ?_;intro ts hlen t0 t1;unfold fn112;have Su:=@bj.box _ _ ox;have gl':Gl (B++g):=gl.ext ⟨g,rfl⟩;refine Rs (A4 t0 t1 @Su @bS) ?_;refine WF.ce T.c67 (r67 T (ox.ext Xx) hxl) λg1=>?_
 by_cases h1:dB x.ev=0
 case neg=>
  have q1:decide (dB x.ev≠0)=true:=ZR h1;refine Rs (A3 t0 t1 q1) ?_;have e:ez V.bP x.ev=dB x.ev:=by rw[ez,ZY h1]
  rw[ZO (B++g)];exact Kg.no o (by rw[e];exact h1) e.symm
 have q1:decide (dB x.ev≠0)=false:=ZN (λz=>z h1);obtain⟨d,wx⟩:=uY h1;have eb:ez V.bP x.ev=ke V.bP x.ev:=by rw[ez,ZW (λz=>z h1)]
 refine Rs (A4 t0 t1 q1 @bS) ?_;refine WF.ce T.c116 (r116 T (d:=d) (o.rd.ext Xx) w Om (ox.ext Xx) wx (gl'.ext Xx)) λg2=>?_
 by_cases h2:ke V.bP x.ev=0
 case neg=>
  have q2:decide (ke V.bP x.ev≠0)=true:=ZR h2;refine Rs (A3 t0 t1 q2) ?_;rw[ZO (B++g),ZO (B++g)];exact Kg.no o (by rw[eb];exact h2) eb.symm
 have q2:decide (ke V.bP x.ev≠0)=false:=ZN (λz=>z h2);rw[<-eb]at h2;refine Rs (A4 t0 t1 q2 @bS) ?_;refine WF.res T.c91 (r91 T x (ox.ext Xx) hxl) ?_;rintro _ g3 ⟨x',SA,rfl,fn,fv⟩;have Vr:bj _ x':=⟨by rw[SA];exact fn.aO,by rw[SA];exact fv.aO⟩;have st:∀{b':Nat},kG 5 0 (.agg x'.row) b' (.b x.row)=some (aA,.set b' (.b x'.row)):=λ{_}=>Vr.st
 refine Rs (A3 t0 t1 @st) ?_;obtain⟨H,hH⟩:∃H,H=B++g++[an.b x'.row]++g1++g2++g3:=⟨_,rfl⟩;have hHg:∃gH,H=B++gH:=⟨_,by rw[hH];simp only[ZO];rfl⟩;obtain⟨gH,hHB⟩:=hHg;have hex:Ext (B++g) H:=by rw[hH];exact Xx
 have oH:cg B.length H b V:=by obtain⟨z,hz⟩:=hex;rw[hz];exact o.app z
 have ar:∀j,(B++g).length+1<=j->H[j]? =(B++g++[an.b x.row]++g1++g2++g3)[j]? :=λj hj=>by
  rw[hH];simp only[ZO];have e:∀C:an,(B++(g++([C]++(g1++(g2++g3)))))[j]? =(g1++(g2++g3))[j-B.length-g.length-1]? :=λC=>by
   simp only[ZL]at hj;rw[Z1 Om,Z1 Om,Z1 (by simp only[Z6];omega)];rfl
  rw[e,e]
 obtain⟨N,hN⟩:∃N,N=(B++g).length:=⟨_,rfl⟩;have fnl:=λj (hj:sB x'.sn=some j)=>fn.bB hj
 have fvl:=λj (hj:sB x'.sv=some j)=>fv.bB hj
 have Wd:H.length=(B++g++[an.b x.row]++g1++g2++g3).length:=by rw[hH];simp only[ZL,ZP,ZT]
 have lnn:∀j,sB x'.sn=some j\/sB x'.sv=some j->(B++g).length+1<=j/\j<H.length:=λj hj=>by
  rw[Wd];rcases hj with hj|hj
  ·have:=fnl j hj;exact Ro
  ·have:=fvl j hj;exact Ro
 have oxH:bj H x':=⟨by rw[SA];exact(fn.aB λj hj=>ar j (lnn j (.inl hj)).1).aO,by rw[SA];exact(fv.aB λj hj=>ar j (lnn j (.inr hj)).1).aO⟩;have eH:H[N]? =some (.b x'.row):=by rw[hH,hN];exact(show Ext (B++g++[an.b x'.row]) _ from Xx).some ba
 rw[<-hH,<-hN];have hb:=oH.hb;have lb:=@fw _ _ _ hb;have le:=@fw _ _ _ eH;have bs:=@bj.Du _ _ oxH;have dH:=si.1 oH.di;refine Rs (A6 t0 t1 @lb @le @bS @bs) ?_;refine WR.JF (N:=B.length) (cs:=V.cN.map EV.row) (ys:=[x'.row]) (oH.app _).oe (Fr.push (N:=0) (aam _) [x'.row] (by intro y hy;rw[Z9]at hy;rw[hy];rfl)).aO (by rw[hHB];simp only[ZL];omega) De Si (by simp only[ZU,ZP,ZT];omega) ?_;intro h1 Xv T6 hk1;have hrow:V.cN.map EV.row++[x'.row]=(V.cN++[x']).map EV.row:=by rw[ZV];rfl
 rw[hrow]at T6;rw[hrow];obtain⟨Tq,hse⟩:∃Tq,Tq=AV.slice (H++[an.cells x'.row true true]).length 0 ((V.cN++[x']).map EV.row).length 5:=⟨_,rfl⟩;rw[<-hse]at T6 ⊢;have XM:∀i,sB Tq=some i->H.length+1=i:=λi hi=>by rw[hse]at hi;cases hi;simp
 have ose:Tq.one=true:=by rw[hse];rfl
 have hk1':∀i,i<H.length->sB V.se≠some i->h1[i]? =H[i]? :=λi hi hne=>by rw[hk1 i (by simp;omega) hne,ZQ hi]
 have hbl:=oH.lt;have SK:sB V.se≠some b:=(dH.1 b rfl).1;have Ta:h1[b]? =some (.b [V.se,V.sc,V.sr]):=(hk1' b hbl SK).trans hb;have sb1:a8 1 (.ptr b 0) Tq (λz=>h1[z]?)=some (aA,.set b (.b [Tq,V.sc,V.sr])):=by
  rw[aN Ta];exact cD ose Si
 refine Rs (A2 t0 @sb1) ?_;have hb1l:b<h1.length:=(ZM.1 Ta).1;obtain⟨H1,XB⟩:∃H1,H1=h1.set b (.b [Tq,V.sc,V.sr]):=⟨_,rfl⟩;rw[<-XB];have k1:∀i,i<H.length->sB V.se≠some i->i≠b->H1[i]? =H[i]? :=λi hi n1 n2=>by rw[XB,Z4 (abe n2)];exact hk1' i hi n1
 have m1:H1[b]? =some (.b [Tq,V.sc,V.sr]):=by rw[XB,Z8 hb1l]
 have Yb:∀i,i<(B++g).length->some i∉V.ex b->H1[i]? =(B++g)[i]? :=λi hi hn=>by
  rw[k1 i (by rw[Wd];simp only[ZL]at hi ⊢;omega) (λe=>hn (by rw[<-e];simp[HV.ex])) (λe=>hn (by rw[e];simp[HV.ex]))];obtain⟨z,hz⟩:=hex;rw[hz,ZQ hi]
 have hB1:∃g',H1=B++g':=by
  have:=oH.hN;refine⟨H1.drop B.length,?_⟩;refine ab7 λi=>?_
  by_cases hi:i<B.length
  ·have e2:B.length<=H.length:=by rw[hHB];simp
   have n1:sB V.se≠some i:=λe=>by have:=(oH.oe.bB e).1;omega
   rw[k1 i Om n1 Om,hHB,ZQ hi,ZQ hi]
  ·exact z148
 have Yt:∀j,some j∈V.ex b->j<(B++g).length:=λj hj=>o.Dh hj
 have oxm:bj (fh (V.ex b) H) x':=oxH.fh (λj hj hm=>by have:=(lnn j (.inl hj)).1;have:=Yt j hm;omega) (λj hj hm=>by have:=(lnn j (.inr hj)).1;have:=Yt j hm;omega);have VW:cg B.length H1 b {V with cN:=V.cN++[x'],se:=Tq}:=oH.RZ k1 (T6.aB λi hi=>by rw[XB,Z4 (by have:=XM i hi;omega)]) m1 (λi hi=>by have:=XM i hi;omega) oxm;clear T6 hk1 hk1' sb1 hb1l;have owc:Ow B.length H1 V.sc 5 (V.fS.map EV.row):=VW.oc;have owr:Ow B.length H1 V.sr 7 (V.da.map RV.row):=VW.og;obtain⟨V1,Vm⟩:∃V1:HV,V1={V with cN:=V.cN++[x'],se:=Tq}:=⟨_,rfl⟩;rw[<-Vm]at VW;have eN:H1[N]? =some (.b x'.row):=(k1 N (by rw[Wd,hN];simp only[ZL,ZP];omega) (λe=>by have:=(o.oe.bB e).2;omega) (by have:=o.lt;omega)).trans eH
 have oxm1:bj (fh (V1.ex b) H1) x':=VW.ae x' (by rw[Vm];simp);have ox1:bj H1 x':=oxm1.sub (gZ.fh _ _);obtain⟨gH1,hB1⟩:=hB1;have lb1:=@fw _ _ _ m1;have le1:=@fw _ _ _ eN;have hkx:x'.ev.kind=x.ev.kind:=by rw[SA]
 have SE:pT x.ev=d:=by rw[pT,wx.kd];rfl
 by_cases h5:d=.fO
 ·have q5:decide (x.ev.kind=[117,110,100,111])=true:=ZR (by rw[bZ wx.kd,h5];rfl);refine Rs (A7 t0 @le1 @bC @hkx q5 @lb1 owc.aO.aL) ?_;have hne:V.fS≠[]:=λe=>by
   rw[eb,ke,SE,ZY h5,show V.bP.fS.getLast? =none by simp[HV.bP,e]]at h2;split at h2<;>exact absurd h2 De
  have hcp:0<V.fS.length:=aba.2 hne;have e2:IntKind.i64.wrap ((V.fS.length:Int)-1)=((V.fS.length-1:Nat):Int):=by rw[aZ Om Om];omega
  obtain⟨S9,c1,c2,c3⟩:=owc.cut (n:=V.fS.length-1) Si (k:=.i64);obtain⟨Ts,r1,r2,r3⟩:=owr.cut (n:=V.fS.length-1) (by simp;omega) (k:=.i64);refine Rs (A5 t0 e2 @lb1 @c1 @r1) ?_;have osc:S9.one=true:=c3.aO.one;have osr:Ts.one=true:=r3.aO.one;have sA:a8 1 (.ptr b 1) S9 (λz=>H1[z]?)=some (aA,.set b (.b [Tq,S9,V.sr])):=by
   rw[aN m1];exact cD osc Si
  have hbl1:b<H1.length:=VW.lt;have m2:(H1.set b (.b [Tq,S9,V.sr]))[b]? =some (.b [Tq,S9,V.sr]):=Z8 hbl1;have sB2:a8 1 (.ptr b 2) Ts (λz=>(H1.set b (.b [Tq,S9,V.sr]))[z]?)=some (aA,.set b (.b [Tq,S9,Ts])):=by
   rw[aN m2];exact cD osr Si
  refine Rs (A3 t0 @sA @sB2) ?_;rw[List.set_set];obtain⟨gz,hz⟩:=vR (X:=.b [Tq,S9,Ts]) VW.hN ⟨_,hB1⟩;have kz:∀i,i≠b->(H1.set b (.b [Tq,S9,Ts]))[i]? =H1[i]? :=λi hi=>Z4 (abe hi)
  have d1:=si.1 VW.di;have d2:=si.1 o.di;have hfr:∀i,i<(B++g).length->some i∉V.ex b->(B++gz)[i]? =(B++g)[i]? :=λi hi hn=>by
   rw[<-hz,kz i (λe=>hn (by rw[e];simp[HV.ex])),Yb i hi hn]
  refine⟨gz,{V1 with fS:=V1.fS.take (V.fS.length-1),da:=V1.da.take (V.fS.length-1),sc:=S9,sr:=Ts},hz,by rw[h2],?_,?_,hfr,λj hj=>?_⟩
  ·rw[<-hz];subst Vm;rw[<-List.map_take]at c3 r3;refine VW.RY (λi _ hi=>kz i hi) (c3.aB λi hi=>kz i λe=>?_) (r3.aB λi hi=>kz i λe=>?_) (Z8 hbl1) c2 r2
   ·rw[c2]at hi;exact(d2.1 b rfl).2.1 (by rw[hi,e])
   ·rw[r2]at hi;exact(d2.1 b rfl).2.2 (by rw[hi,e])
  ·rw[ZY h2,ka,SE,ZY h5,Vm];simp only[HV.bP,ZV,List.map_take,aaJ,abd,SA,List.dropLast_eq_take,ZU,Tz]
  ·subst Vm;simp only[HV.ex,aap,aaI,abm,aak]at hj ⊢;rcases hj with hj|hj|hj|hj
   ·exact .inl (.inl hj)
   ·have:=XM j hj.symm;exact .inr (by rw[Wd]at this;simp only[ZL]at this ⊢;omega)
   ·rw[c2]at hj;exact .inl (.inr (.inr (.inl hj)))
   ·rw[r2]at hj;exact .inl (.inr (.inr (.inr hj)))
 have q5:decide (x.ev.kind=[117,110,100,111])=false:=ZN λz=>h5 (by
  have:=wx.kd;rw[z]at this;exact(aaN ((mG .fO).symm.trans this)).symm)
 refine Rs (A5 t0 @le1 @bC @hkx q5) ?_;have hnow:V1.now=V.now:=by rw[Vm];rfl
 have rd1:=VW.rd;have wn:fQ V1.now.ao:=by rw[hnow,V.km];exact w.now
 refine WF.ce T.c79 (r79 T rd1 (by rw[Vm];show V.da.length<=1000;omega)) λg4=>?_
 refine Rs t0 ?_;refine WF.res T.c96 (r96 T (rd1.now.ext Xx) wn) ?_;rintro _ g5 ⟨VN,hVN,rfl,own⟩;have stN:∀{b':Nat}{a0 a1 a2 a3 a4 a5 a6:AV},kG 7 0 (.agg VN.row) b' (.b [a0,a1,a2,a3,a4,a5,a6])=some (aA,.set b' (.b VN.row)):=λ{_ _ _ _ _ _ _ _}=>own.ok.st
 repeat (first|simp (config:={maxSteps:=1000000}) only[aQ,aR,aX,aY,reduceAdd,reduceMul,reduceLeDiff,reduceEqDiff,bd,hlen,Z3,Z7,t0,stN]|simp (config:={maxSteps:=1000000}) (disch:=first|(simp only[ZL,ZP,ZT]<;>omega)|rfl|omega|fail) only[eD,aQ,aR,aX,aY,reduceAdd,reduceMul,reduceLeDiff,reduceEqDiff,bd,hlen,Z3,Z7,t0,stN])
 refine WF.res T.c90 (r90 T) ?_;rintro _ g6 ⟨vf,rfl,hk⟩;obtain⟨hx3,WN⟩:∃z,z=H1++g4++g5++[an.b VN.row]:=⟨_,rfl⟩;rw[<-WN]at hk ⊢;have lk:∀{z:AV},jj .s z false (.map hx3.length) (.str x.ev.kind) (λb=>(hx3++g6)[b]?)=lX z false ((ff x.ev.kind).map vf):=hk.look;rw[wx.kd]at lk;have Th:∀{z:AV},_=some (vf d,jv.ar):=@lk;obtain⟨rs,a,hv,hr,ha,hab⟩:=(hk.k d).ex;rw[hv]at Th;have e1x:Ext H1 (hx3++g6):=by rw[WN];exact Xx
 have le2:∀{k n a},Ext (hx3++g6) k->aq n (.ptr N a) (λz=>k[z]?)=dK n a (.b x'.row):=λ{_ _ _} e=>le1 (e1x.trans e)
 have cd:=l9 d;obtain⟨rb,XK⟩:∃rb,rb=(H1++g4++g5).length:=⟨_,rfl⟩;rw[<-XK];refine Rs (A8 t0 @le2 @bC @hkx @bX @Th @cd @bS) ?_;have Vg:jX V.bP.now x.ev d=0:=by
  rw[eb,ke,SE,ZW h5]at h2;split at h2
  ·exact absurd h2 De
  ·exact h2
 have TA:x.ev.num=(V.bP.cN.length:Int)+1:=by
  rw[eb,ke]at h2;split at h2
  ·exact absurd h2 De
  case isFalse hh=>exact abl.1 hh
 have hVR:VN.ao=V.bP.now:=by rw[hVN,hnow,V.km]
 have SC:¬bM x.ev 0<V.bP.now.tick:=λz=>by rw[jX,ZY z]at Vg;exact absurd Vg De
 have UM:lM d V.bP.now x.ev=0:=by
  rw[jX,ZW SC]at Vg;split at Vg
  case isTrue hh=>exact absurd Vg hh
  case isFalse hh=>exact abl.1 hh
 have Tp:bD V.bP.now x.ev d=0:=by rw[jX,ZW SC,ZW (by rw[UM];decide)]at Vg;exact Vg
 obtain⟨G,hG⟩:=e1x;have hGl:H1.length<=rb/\rb<(H1++G).length:=by
  rw[<-hG,WN,XK];simp only[ZL,ZP,ZT];omega
 have rbk:b9 H1.length (H1++G) rb VN:=by
  have:=(((own.app [an.b VN.row]).app g6).low (M:=H1.length) Si);rw[<-WN,hG]at this;refine⟨this,hGl.1,?_,λhb'=>?_⟩
  ·rw[<-hG,WN,XK];exact(Ext.app _ (Ext.refl _)).some ba
  ·have:=(own.eO hb').2;omega
 have glG:Gl (H1++G):=(gl.ext ⟨_,hB1⟩).ext ⟨_,rfl⟩;have cx:Cx (H1++G) VN x' d:=⟨rbk.o.ok,by rw[hVN];exact wn,ox1.ext ⟨_,rfl⟩,by rw[SA];exact wx,by rw[hVR,SA];exact zK UM⟩;rw[hG];refine Gz T h5 rbk cx (by rw[hVR,SA];exact Tp) glG ?_;rintro _ _ ⟨g7,V7,rfl,r7,hr7⟩;have e17:Ext H1 (H1++g7):=⟨_,rfl⟩;have le3:∀{k n a},Ext (H1++g7) k->aq n (.ptr N a) (λz=>k[z]?)=dK n a (.b x'.row):=λ{_ _ _} e=>le1 (e17.trans e)
 have Tf:0<x'.ev.bQ.length:=by rw[SA,wx.vl];cases d<;>first|exact absurd rfl h5|decide
 have lP:aV 1 x'.sv (.i 0)=some (cF x'.sv 1 0,.ar):=ox1.v.lP Tf;have ld0:∀{k':ah},Ext (H1++g7) k'->aq none (cF x'.sv 1 0) (λb=>k'[b]?)=some (.i (bM x.ev 0),.ar):=λ{k'} e=>by
  have ev0:bM x.ev 0=x'.ev.bQ[0]:=by rw[<-SA,bM,aar,ZS Tf];rfl
  rw[ev0];exact ox1.v.gR Tf rfl (e17.trans e)
 have s7:a8 1 (.ptr rb 0) (.i (bM x.ev 0)) (λz=>(H1++g7)[z]?)=some (aA,.set rb (.b (V7.row.set 0 (.i (bM x.ev 0))))):=jn r7.m rfl De;obtain⟨g8,hg8,r8⟩:=r7.tk (bM x.ev 0);refine Rs (A6 t0 @le3 @bg @lP @ld0 @s7) ?_;rw[hg8];obtain⟨V8,hV8⟩:∃V8:RV,V8={V7 with tick:=bM x.ev 0}:=⟨_,rfl⟩;rw[<-hV8]at r8;have hr8:V8.ao=sZ V.bP.now x.ev d:=by
  rw[hV8,sZ,<-hVR];have:dO VN.ao x.ev d=V7.ao:=by rw[hr7,SA]
  rw[this];rfl
 clear s7 le2 le3 ld0 Th lk hk;have oV2:cg B.length (H1++g8) b V1:=VW.app g8;have e18:Ext H1 (H1++g8):=⟨_,rfl⟩;have lb2:∀{k n a},Ext (H1++g8) k->aq n (.ptr b a) (λz=>k[z]?)=dK n a (.b [Tq,V.sc,V.sr]):=λ{_ _ _} e=>lb1 (e18.trans e)
 have le2:∀{k n a},Ext (H1++g8) k->aq n (.ptr N a) (λz=>k[z]?)=dK n a (.b x'.row):=λ{_ _ _} e=>le1 (e18.trans e)
 have lr2:=@fw _ _ _ r8.m;have bs1:=@bj.Du _ _ ox1;have bs2:=@aC.Du _ _ r8.o.ok;obtain⟨H2,Xf⟩:∃H2,H2=H1++g8:=⟨_,rfl⟩;have m2:H2[b]? =some (.b [Tq,V.sc,V.sr]):=by rw[Xf];exact e18.some m1
 have e2:H2[N]? =some (.b x'.row):=by rw[Xf];exact e18.some eN
 have r2m:H2[rb]? =some (.b V8.row):=by rw[Xf];exact r8.m
 have hB2:∃g',H2=B++g':=⟨_,by rw[Xf,hB1,ZO]⟩;rw[<-Xf]at r8 oV2 ⊢;have YW:Ow B.length H2 V.sc 5 (V.fS.map EV.row):=by have:=oV2.oc;rw[Vm]at this;exact this
 have XE:Ow B.length H2 V.sr 7 (V.da.map RV.row):=by have:=oV2.og;rw[Vm]at this;exact this
 have d1:=si.1 VW.di;have d1b:sB V.sc≠some b/\sB V.sr≠some b:=by have:=(d1.1 b rfl).2;rw[Vm]at this;exact this
 have d1c:∀i,sB V.sc=some i->sB V.sr≠some i:=by have:=d1.2.2;rw[Vm]at this;exact this
 have hBl:B.length<=H2.length:=by obtain⟨z,hz⟩:=hB2;rw[hz];simp
 refine pC (λh=>h[b]? =some (.b [Tq,V.sc,V.sr])/\h[N]? =some (.b x'.row)/\h[rb]? =some (.b V8.row)) ?_;have hS:(λh:ah=>h[b]? =some (.b [Tq,V.sc,V.sr])/\h[N]? =some (.b x'.row)/\h[rb]? =some (.b V8.row)) H2:=⟨m2,e2,r2m⟩;refine dD hS rfl rfl ?_;refine Rs t0 ?_;refine dD hS rfl rfl ?_;refine Rs t0 ?_;refine dD hS rfl rfl ?_;refine Rs t0 ?_;refine dD hS rfl rfl ?_;refine Rs t0 ?_;refine dD hS rfl rfl ?_;refine Rs t0 ?_;refine lK hS (v:=V.sc) (λg hg=>?_) ?_
 ·exact z107
 refine Rs t0 ?_;refine lK hS (v:=.agg x'.row) (λg hg=>?_) ?_
 ·simp only[aQ,aR,aX,aY,reduceAdd,reduceMul,reduceLeDiff,reduceEqDiff,bd,hlen,Z3,Z7,t0,az hg.2.1,bS]
 refine Rs t0 ?_;refine dD hS rfl rfl ?_;refine Rs (A2 t0 @bs1) ?_;have x3:Ext H2 (H2++[an.cells x'.row true true]):=⟨_,rfl⟩;have hS3:(λh:ah=>h[b]? =some (.b [Tq,V.sc,V.sr])/\h[N]? =some (.b x'.row)/\h[rb]? =some (.b V8.row)) (H2++[an.cells x'.row true true]):=⟨x3.some m2,x3.some e2,x3.some r2m⟩;refine dD hS3 rfl rfl ?_;refine Rs t0 ?_;refine WR.JF (N:=B.length) (cs:=V.fS.map EV.row) (ys:=[x'.row]) (YW.aB λi hi=>ZQ (YW.bB hi).2) (Fr.push (N:=0) (aam _) [x'.row] (by intro y hy;rw[Z9]at hy;rw[hy];rfl)).aO (by simp only[ZL];omega) De Si (by simp only[ZU,ZP,ZT];omega) ?_;intro h4 hl4 hs4 hk4
 have Yh:V.fS.map EV.row++[x'.row]=(V.fS++[x']).map EV.row:=by rw[ZV];rfl
 rw[Yh]at hs4;rw[Yh];obtain⟨S9,Yf⟩:∃S9,S9=AV.slice (H2++[an.cells x'.row true true]).length 0 ((V.fS++[x']).map EV.row).length 5:=⟨_,rfl⟩;rw[<-Yf]at hs4 ⊢;have hl4':h4.length=H2.length+2:=by rw[hl4];simp
 have XN:∀i,sB S9=some i->H2.length+1=i:=λi hi=>by rw[Yf]at hi;cases hi;simp
 have osc:S9.one=true:=by rw[Yf];rfl
 have k4:∀i,i<H2.length->sB V.sc≠some i->h4[i]? =H2[i]? :=λi hi hne=>by rw[hk4 i (by simp;omega) hne,ZQ hi]
 have hNl:N<H2.length:=(ZM.1 e2).1;have Tz:rb<H2.length:=(ZM.1 r2m).1;have hbl2:b<H2.length:=(ZM.1 m2).1;have X2:∀j,some j∈V.ex b->j<N:=λj hj=>by rw[hN];exact o.Dh hj
 have ncN:sB V.sc≠some N:=λe=>by have:=X2 N (by rw[<-e];simp[HV.ex]);omega
 have nrN:sB V.sr≠some N:=λe=>by have:=X2 N (by rw[<-e];simp[HV.ex]);omega
 have hNr:N<rb:=by have:=(ZM.1 eN).1;omega
 have ncr:sB V.sc≠some rb:=λe=>by have:=X2 rb (by rw[<-e];simp[HV.ex]);omega
 have nrr:sB V.sr≠some rb:=λe=>by have:=X2 rb (by rw[<-e];simp[HV.ex]);omega
 have X3:(λh:ah=>h[b]? =some (.b [Tq,V.sc,V.sr])/\h[N]? =some (.b x'.row)/\h[rb]? =some (.b V8.row)) h4:=⟨(k4 b hbl2 d1b.1).trans m2,(k4 N hNl ncN).trans e2,(k4 rb Tz ncr).trans r2m⟩;refine Rs t0 ?_;refine dD X3 rfl rfl ?_;refine Rs t0 ?_;refine dD X3 rfl rfl ?_;refine Rs t0 ?_;refine dD X3 rfl rfl ?_;refine Rs t0 ?_;refine lK X3 (v:=V.sr) (λg hg=>?_) ?_
 ·exact z107
 refine Rs t0 ?_;refine lK X3 (v:=.agg V8.row) (λg hg=>?_) ?_
 ·simp only[aQ,aR,aX,aY,reduceAdd,reduceMul,reduceLeDiff,reduceEqDiff,bd,hlen,Z3,Z7,t0,az hg.2.2,aE]
 refine Rs t0 ?_;refine dD X3 rfl rfl ?_;refine Rs (A2 t0 @bs2) ?_;have x5:Ext h4 (h4++[an.cells V8.row true true]):=⟨_,rfl⟩;have hS5:(λh:ah=>h[b]? =some (.b [Tq,V.sc,V.sr])/\h[N]? =some (.b x'.row)/\h[rb]? =some (.b V8.row)) (h4++[an.cells V8.row true true]):=⟨x5.some X3.1,x5.some X3.2.1,x5.some X3.2.2⟩;have owr4:Ow B.length (h4++[an.cells V8.row true true]) V.sr 7 (V.da.map RV.row):=XE.aB λi hi=>by
  have hil:=(XE.bB hi).2;rw[ZQ Om];exact k4 i hil λe=>d1c i e hi
 refine dD hS5 rfl rfl ?_;refine Rs t0 ?_;refine WR.JF (N:=B.length) (cs:=V.da.map RV.row) (ys:=[V8.row]) owr4 (Fr.push (N:=0) (aam _) [V8.row] (by intro y hy;rw[Z9]at hy;rw[hy];rfl)).aO (by simp only[ZL];omega) De Si (by simp only[ZU,ZP,ZT];omega) ?_;intro h6 hl6 hs6 hk6;have Yg:V.da.map RV.row++[V8.row]=(V.da++[V8]).map RV.row:=by rw[ZV];rfl
 rw[Yg]at hs6;rw[Yg];obtain⟨Ts,hsr⟩:∃Ts,Ts=AV.slice (h4++[an.cells V8.row true true]).length 0 ((V.da++[V8]).map RV.row).length 7:=⟨_,rfl⟩;rw[<-hsr]at hs6 ⊢;have hl6':h6.length=H2.length+4:=by rw[hl6];simp;omega
 have XL:∀i,sB Ts=some i->H2.length+3=i:=λi hi=>by rw[hsr]at hi;cases hi;simp;omega
 have osr:Ts.one=true:=by rw[hsr];rfl
 have k6:∀i,i<H2.length->sB V.sc≠some i->sB V.sr≠some i->h6[i]? =H2[i]? :=λi hi n1 n2=>by
  rw[hk6 i (by simp;omega) n2,ZQ Om];exact k4 i hi n1
 have hS6:(λh:ah=>h[b]? =some (.b [Tq,V.sc,V.sr])/\h[N]? =some (.b x'.row)/\h[rb]? =some (.b V8.row)) h6:=⟨(k6 b hbl2 d1b.1 d1b.2).trans m2,(k6 N hNl ncN nrN).trans e2,(k6 rb Tz ncr nrr).trans r2m⟩;refine Rs t0 ?_;refine pB hS6 rfl ?_;have m6:=hS6.1;have hb6:b<h6.length:=(ZM.1 m6).1;have sA:a8 1 (.ptr b 1) S9 (λz=>h6[z]?)=some (aA,.set b (.b [Tq,S9,V.sr])):=by
  rw[aN m6];exact cD osc Si
 have m7:(h6.set b (.b [Tq,S9,V.sr]))[b]? =some (.b [Tq,S9,V.sr]):=Z8 hb6;have sB2:a8 1 (.ptr b 2) Ts (λz=>(h6.set b (.b [Tq,S9,V.sr]))[z]?)=some (aA,.set b (.b [Tq,S9,Ts])):=by
  rw[aN m7];exact cD osr Si
 refine Rs (A3 t0 @sA @sB2) ?_;rw[List.set_set];obtain⟨gB2,hgB2⟩:=hB2;obtain⟨gz,hz⟩:=vR (X:=.b [Tq,S9,Ts]) oV2.hN (ET (B:=B) (h:=h6) Om λi hi=>by
  rw[k6 i Om (λe=>by have:=(YW.bB e).1;omega) (λe=>by have:=(XE.bB e).1;omega),hgB2,ZQ hi])
 have kz:∀i,i≠b->(h6.set b (.b [Tq,S9,Ts]))[i]? =h6[i]? :=λi hi=>Z4 (abe hi)
 have oxm2:bj (fh (V1.ex b) H2) x':=oV2.ae x' (by rw[Vm];simp);have oR2:aC (fh (V1.ex b) H2) V8:=r8.o.ok.fh λj hj hm=>by
  have h1:=(r8.o.eO hj).1;have h2:=VW.Dh hm;omega
 have hBH1:B.length<=H1.length:=by rw[hB1];simp
 have fin:cg B.length (h6.set b (.b [Tq,S9,Ts])) b {V1 with fS:=V1.fS++[x'],da:=V1.da++[V8],sc:=S9,sr:=Ts}:=by
  subst Vm;refine oV2.R0 (λi hi n1 n2 nb=>(kz i nb).trans (k6 i hi n1 n2)) (hs4.aB λi hi=>?_) (hs6.aB λi hi=>kz i ?_) (Z8 hb6) (λi hi=>by have:=XN i hi;omega) (λi hi=>by have:=XL i hi;omega) (λi h1 h2=>by have:=XN i h1;have:=XL i h2;omega) oxm2 oR2 (λj hj=>aaz hBH1 (r8.o.eO hj).1)
  ·have h1:=XN i hi;rw[kz i Om,hk6 i (by simp;omega) (λe=>by have:=(XE.bB e).2;omega),ZQ Om]
  ·have h1:=XL i hi;omega
 have hfr:∀i,i<(B++g).length->some i∉V.ex b->(B++gz)[i]? =(B++g)[i]? :=λi hi hn=>by
  have hi1:=Yb i hi hn;have hil:i<H1.length:=by
   rw[ZS hi]at hi1;exact(ZM.1 hi1).1
  rw[<-hz,kz i (λe=>hn (by rw[e];simp[HV.ex])),k6 i (by rw[Xf,ZL];omega) (λe=>hn (by rw[<-e];simp[HV.ex])) (λe=>hn (by rw[<-e];simp[HV.ex])),Xf,ZQ hil,hi1]
 have hlo:(B++g).length<=H.length:=by rw[Wd];simp only[ZL];omega
 have hlo2:H.length<=H2.length:=by rw[Xf,ZL,XB,aax,Xv];simp only[ZL];omega
 have hexn:∀j,some j∈HV.ex b {V1 with fS:=V1.fS++[x'],da:=V1.da++[V8],sc:=S9,sr:=Ts}->some j∈V.ex b\/(B++g).length<=j:=λj hj=>by
  subst Vm;simp only[HV.ex,aap,aaI,abm,aak]at hj ⊢;rcases hj with hj|hj|hj|hj
  ·exact .inl (.inl hj)
  ·have:=XM j hj.symm;exact .inr Om
  ·have:=XN j hj.symm;exact .inr Om
  ·have:=XL j hj.symm;exact .inr Om
 refine⟨gz,_,hz,by rw[h2],by rw[<-hz];exact fin,?_,hfr,hexn⟩;rw[ZY h2,ka,SE,ZW h5,Vm];simp only[HV.bP,ZV,aaJ,abd,SA,hr8]
end
def JJ{H e}(h:ke H e=0):e.num=(H.cN.length:Int)+1/\(pT e=.fO->H.fS≠[])/\(pT e≠.fO->jX H.now e (pT e)=0):=by
 unfold ke at h;split at h
 ·exact absurd h De
 case isFalse h1=>
 refine⟨abl.1 h1,λhk hn=>?_,λhk=>by rw[ZW hk]at h;exact h⟩;rw[ZY hk,hn]at h;exact absurd h De
def Jw{H e}(h:ez H e=0):dB e=0/\ke H e=0:=by
 unfold ez at h;split at h
 case isTrue h1=>exact absurd h h1
 case isFalse h1=>exact⟨abl.1 h1,h⟩
theorem kH.pT{e d}(w:kH e d):Go.Abs.pT e=d:=by rw[Go.Abs.pT,w.kd];rfl
def lJ.add{H e}(w:lJ H)(h:ez H e=0):lJ (ka H e):=by
 obtain⟨h1,h2⟩:=Jw h;obtain⟨d,we⟩:=uY h1;obtain⟨h3,h4,h5⟩:=JJ h2;have SE:=we.pT;unfold ka;split
 case isTrue hu=>
  have hl:=aba.2 (h4 hu);have e1:=w.ln;have e2:=w.le;refine⟨λR hR=>w.rg R ((List.dropLast_sublist _).mem hR),by simp[e1],?_,λx hx=>?_,λx hx=>w.cn x ((List.dropLast_sublist _).mem hx)⟩
  ·simp only[List.length_dropLast,ZL,Z6];omega
  ·exact z127
 case isFalse hu=>
  have e1:=w.ln;have e2:=w.le;have hs:=h5 hu;rw[SE]at hs hu;refine⟨λR hR=>?_,by simp[e1],by simp only[ZL,Z6];omega,λx hx=>?_,λx hx=>?_⟩
  ·rcases ZX.1 hR with hR|hR
   ·exact w.rg R hR
   ·rw[Z9]at hR;rw[hR,SE];exact w.now.step we hu hs
  ·exact z127
  ·rcases ZX.1 hx with hx|hx
   ·exact w.cn x hx
   ·rw[Z9]at hx;subst hx;exact⟨d,we⟩
def xW{H e}:(ka H e).cN.length=H.cN.length+1:=by
 unfold ka;split<;>simp
def Ka(h:ah)(l:List fi)(v:AV)(k:ah):Prop:=
 ∃p,v=.dz [p,.i (bF l).2.1,.i (bF l).2.2]/\((bF l).2.2≠0->p=.nilPtr)/\
  ((bF l).2.2=0->∃b V,p=.ptr b 0/\cg h.length k b V/\V.bP=(bF l).1/\lJ V.bP/\V.cN.length=l.length/\l.length<=1000)
structure x6(L:List EV):Prop where
 l:L.length<=2^30
 e:∀x∈L,x.ev.names.length<=2^30/\x.ev.bQ.length<=2^30
section
variable {P:Program}(T:fD P) {h:ah}
include T
def r78{L s}(o:eJ h L s)(sh:x6 L)(gl:Gl h):ay P 78 [s] h (Ka h (L.map EV.ev)):=by
 have TF:=sh.l;refine .jd 31 T.mix T.c78 ?_;intro ts hlen t0;unfold fn78 gA;by_cases h1:1000<L.length
 ·have q1:decide ((1000:Int)<(L.length:Int))=true:=ZR Om;refine Rs (A3 t0 o.sl.aL q1) ?_;have e:bF (L.map EV.ev)=(ju.zero,0,5):=by rw[bF,ZY (by simpa using h1)]
  unfold Ka;rw[e];exact⟨_,rfl,λ_=>rfl,λz=>absurd z De⟩
 have q1:decide ((1000:Int)<(L.length:Int))=false:=ZN Om;refine Rs (A3 t0 o.sl.aL q1) ?_;have e0:bF (L.map EV.ev)=ia ju.zero (L.map EV.ev) 0:=by rw[bF,ZW (by simpa using h1)]
 obtain⟨b,hb⟩:∃b,b=h.length:=⟨_,rfl⟩;rw[<-hb];refine WL.inv T.mix (λm ts h'=>∃(k:Nat) (g':ah) (V:HV),k<=L.length/\m=L.length-k/\h' =h++g'/\cg h.length (h++g') b V/\lJ V.bP/\V.cN.length=k/\bF (L.map EV.ev)=ia V.bP ((L.drop k).map EV.ev) k/\ts.length=31/\slot ts 5=.ptr b 0/\slot ts 14=s/\slot ts 15=.i L.length/\slot ts 16=.i k) L.length
  ⟨0,[an.b [AV.af,.af,.af]],⟨[],[],[],.af,.af,.af⟩,Om,rfl,rfl,⟨Om,by rw[hb];exact ba,.nil,.nil,.nil,si.2 ⟨λ_ _=>⟨by simp[sB],by simp[sB],by simp[sB]⟩,λ_ z=>by simp[sB]at z,λ_ z=>by simp[sB]at z⟩,(λx hx=>by cases hx),(λx hx=>by cases hx),(λx hx=>by cases hx),(λx hx=>by cases hx)⟩,lJ.zero,rfl,e0,Sn,Sw,(Sq t0),Sw,gf⟩ ?_
 rintro _ ts _ ⟨k,g',V,hk,rfl,rfl,oV,wV,hVl,SB,hlen,t5,t14,t15,t16⟩;by_cases hlt:k<L.length
 ·have e3:=eF hlt;have e5:=wrapN (n:=k) Om;have ix:=o.sl.dA (kk:=.i64) hlt;have ld:∀{k'},Ext (h++g') k'->aq (some 5) (cF s 5 k) (λb=>k'[b]?)=some (.agg (EV.row L[k]),.ar):=λ{k'} e=>o.sl.kR hlt (Ext.trans (Ext.app g' (Ext.refl h)) e)
  obtain⟨x,hx⟩:∃x,x=L[k]:=⟨_,rfl⟩;have hm:x∈L:=by rw[hx];exact ZZ _
  have hd:L.drop k=x::L.drop (k+1):=by rw[hx];simp
  rw[<-hx]at ld;have ox:bj (h++g') x:=(o.all x hm).ext ⟨_,rfl⟩;have st:∀{b':Nat}{a0 a1 a2 a3 a4:AV},kG 5 0 (.agg x.row) b' (.b [a0,a1,a2,a3,a4])=some (aA,.set b' (.b x.row)):=λ{_ _ _ _ _ _}=>ox.st
  refine Rs (A9 t5 t14 t15 t16 e3 ix @ld @st @bS) ?_;rw[ZO h g'];rw[hd,aaJ,ia]at SB;refine WF.gen T.c112 (M3 T (B:=h) (x:=x) (by rw[<-ZO];exact oV.app _) wV Om (by rw[<-ZO];exact ox.ext Xx) ⟨by have:=(sh.e x hm).1;omega,by have:=(sh.e x hm).2;omega⟩ gl) ?_;rintro _ _ ⟨g2,V2,rfl,rfl,o2,hV2,-,-⟩;by_cases h2:ez V.bP x.ev=0
  ·have q2:decide (ez V.bP x.ev≠0)=false:=ZN (λz=>z h2);rw[ZY h2]at hV2;rw[ZW (λz=>z h2)]at SB;refine Rs (A6 t5 t14 t15 t16 q2 e5) ?_;refine⟨_,Om,k+1,g2,V2,Om,rfl,rfl,o2,by rw[hV2];exact wV.add h2,?_,by rw[hV2];exact SB,rfl⟩;have:V2.bP.cN.length=V.bP.cN.length+1:=by rw[hV2];exact xW
   simpa [HV.bP,hVl]using this
  ·have q2:decide (ez V.bP x.ev≠0)=true:=ZR h2;rw[ZY h2]at SB;refine Rs (A6 t5 t14 t15 t16 q2 e5) ?_;unfold Ka;rw[SB];refine⟨_,?_,λ_=>rfl,λz=>absurd z h2⟩;simp
 ·have e3:=fq hlt;have e4:k=L.length:=Om
  have Vu:bF (L.map EV.ev)=(V.bP,0,0):=by rw[SB,e4,aaT];rfl
  refine Rs (A5 t5 t14 t15 t16 e3) ?_;unfold Ka;rw[Vu];exact⟨_,rfl,λz=>absurd rfl z,λ_=>⟨b,V,rfl,oV,rfl,wV,by simp;omega,by simp;omega⟩⟩
end
def ru(t:Int):Int:=bG t 0 999999999
def R9:decide ((0:Int)≠0)=false:=rfl
def kQ(l:List fi)(t:Nat)(n:By):hO×Int:=if(bF l).2.2≠0 then(hO.zero,(bF l).2.2)else((bF l).1.now,bW (!eo (bF l).1.now t n) 10)
def cg.II{N h b V}(o:cg N h b V):∀j,some j∈V.now.bl->N<=j:=by
 rw[HV.now,aa6];cases hx:V.da.getLast? with
 |none=>intro j hj;simp[RV.zero,RV.bl,sB]at hj
 |some R=>exact o.lo R (List.mem_of_getLast? hx)
def zV{h X:ah}{A C:an}{j:Nat}(hj:h.length+1<=j):(h++[A]++X)[j]? =(h++[C]++X)[j]? :=by
 exact Oc
section
variable {P:Program}(T:fD P) {h:ah}
include T
def r75(t:Int):ay P 75 [.i t] h (λv _=>v=.i (ru t)):=by
 refine .jd 5 T.mix T.c75 ?_;intro ts hlen t0;unfold fn75 gA;refine Rs t0 ?_;refine WF.ce T.c94 (r94 T _ _ _) λg1=>?_
 refine Rs t0 ?_;rfl
def Ig{l v k}(r:Ka h l v k)(he:(bF l).2.2≠0):v=.dz [.nilPtr,.i (bF l).2.1,.i (bF l).2.2]:=by
 have:=T.mix;obtain⟨p,rfl,h1,_⟩:=r;rw[h1 he]
def Cr{l v k}(r:Ka h l v k)(he:(bF l).2.2=0):∃b V,v=.dz [.ptr b 0,.i 0,.i 0]/\cg h.length k b V/\V.bP=(bF l).1/\lJ V.bP/\V.cN.length=l.length/\l.length<=1000/\V.da.length<=1000/\(bF l).2.1=0/\fQ V.now.ao/\V.now.ao=(bF l).1.now/\aC k V.now/\∀j,some j∈V.now.bl->h.length<=j:=by
 have:=T.mix;obtain⟨p,rfl,_,h2⟩:=r;obtain⟨b,V,rfl,h3,h4,h5,h6,h7⟩:=h2 he;have hz:(bF l).2.1=0:=by
  revert he
  unfold bF;split
  ·intro _;rfl
  ·have key:∀(l:List fi) (H:ju) (i:Nat),(ia H l i).2.2=0->(ia H l i).2.1=0:=by
    intro l
    induction l with
    |nil=>intro H i _;rfl
    |cons e l ih=>
     intro H i;rw[ia];split
     case isTrue hb=>intro hc;exact absurd hc hb
     case isFalse hb=>exact ih _ _
   exact key l _ _
 have hr:V.da.length<=1000:=by
  have e1:=h5.ln;have e2:=h5.le;exact Ld
 exact⟨b,V,by rw[hz,he],h3,h4,h5,h6,h7,hr,hz,by rw[V.km];exact h5.now,by rw[V.km,h4],h3.rd.now,h3.II⟩
def r73{L:List EV}{s:AV}(o:eJ h L s)(sh:x6 L)(gl:Gl h){t:Nat}(ht:t<6)(n:By):ay P 73 [s,.i t,.str n] h (λv k=>∃V:RV,v=.dz [.agg V.row,.i (kQ (L.map EV.ev) t n).2]/\V.ao=(kQ (L.map EV.ev) t n).1/\aC k V/\fQ V.ao):=by
 refine .nT 31 T.mix T.c73 ?_;intro ts hlen t0 t1 t2;unfold fn73 gA;refine Rs (A3 t0 t1 t2) ?_;refine WF.res T.c78 (r78 T (o.ext Xx) sh (gl.ext Xx)) ?_;intro v g hv;by_cases he:(bF (L.map EV.ev)).2.2=0
 ·obtain⟨b,V,rfl,oV,hV,wV,_,_,hr,_,wn,hn,on,lo⟩:=Cr T hv he;have st:=@aC.st _ _ on;refine Rs (A4 t0 t1 t2 @R9) ?_;refine WF.ce T.c79 (r79 T (oV.rd.ext Xx) hr) λg2=>?_
  refine Rs (A5 t0 t1 t2 @st @aE) ?_;refine WF.ce T.c86 (r86 T (on.ext Xx) wn.len ht _) λg3=>?_
  refine Rs (A4 t0 t1 t2 @aE) ?_;refine WF.ce T.c85 (r85 T _ _) λg4=>?_
  refine Rs (A5 t0 t1 t2 @st @aE) ?_;refine⟨V.now,?_,?_,?_,wn⟩
  ·rw[kQ,ZW (λz=>z he),hn]
  ·rw[kQ,ZW (λz=>z he),hn]
  ·refine(on.ar (k:=h++[an.b V.now.row]++g) λj hj=>zV (by have:=lo j hj;simpa using this)).ext Xx
 ·have Ul:=Ig T hv he;subst Ul;have q:decide ((bF (L.map EV.ev)).2.2≠0)=true:=ZR he;refine Rs (A4 t0 t1 t2 q) ?_;refine⟨RV.zero,?_,?_,aC.zero,fQ.zero⟩
  ·rw[kQ,ZY he];rfl
  ·rw[kQ,ZY he];rfl
def DT(l:List fi)(e:fi):Int:=
 if bn [(bF l).2.2,dB e,bW (decide (1000<=l.length)) 5]≠0 then bn [(bF l).2.2,dB e,bW (decide (1000<=l.length)) 5]else ke (bF l).1 e
end
def Iu{l t n}(h:(kQ l t n).2=0):(bF l).2.2=0/\(kQ l t n).1=(bF l).1.now/\n∈J3 (bF l).1.now t:=by
 unfold kQ at h ⊢;split at h
 case isTrue h1=>exact absurd h h1
 case isFalse h1=>
  rw[ZW h1];refine⟨abl.1 h1,rfl,?_⟩;by_cases hh:eo (bF l).1.now t n=true
  ·unfold eo at hh;exact aaQ hh
  ·have:eo (bF l).1.now t n=false:=by simpa using hh
   simp only[this,bW]at h;exact absurd h De
def wg(l:List fi)(n:By)(t:Int):Bool×Int:=
 if bn [(kQ l 2 n).2,ru t]≠0 then(false,bn [(kQ l 2 n).2,ru t])else(fU (kQ l 2 n).1 (nW (kQ l 2 n).1 n) t,0)
def qR(l:List fi)(t:Int):List (By)×Int:=
 if bn [(bF l).2.2,ru t]≠0 then([],bn [(bF l).2.2,ru t])else(jB (bF l).1.now t,0)
def Db{a b}(h:bn [a,b]=0):a=0/\b=0:=by
 simp only[bn]at h;split at h
 ·rename_i ha;split at h
  ·rename_i hb;exact⟨ha,hb⟩
  ·rename_i hb;exact absurd h hb
 ·rename_i ha;exact absurd h ha
section
variable {P:Program}(T:fD P) {h:ah}
include T
def r16{L s}(o:eJ h L s)(sh:x6 L)(gl:Gl h)(n:By)(t:Int):ay P 16 [s,.str n,.i t] h (λv _=>v=.dz [.bool (wg (L.map EV.ev) n t).1,.i (wg (L.map EV.ev) n t).2]):=by
 refine .nT 31 T.mix T.c16 ?_;intro ts hlen t0 t1 t2;unfold fn16 gA;refine Rs (A3 t0 t1 t2) ?_;refine WF.res T.c73 (r73 T (o.ext Xx) sh (gl.ext Xx) (t:=2) De n) ?_;rintro _ g ⟨V,rfl,hV,oV,wV⟩;have st:∀{b':Nat}{a0 a1 a2 a3 a4 a5 a6:AV},kG 7 0 (.agg V.row) b' (.b [a0,a1,a2,a3,a4,a5,a6])=some (aA,.set b' (.b V.row)):=λ{_ _ _ _ _ _ _ _}=>oV.st
 refine Rs (A5 t0 t1 t2 @st @aE) ?_;refine WF.ce T.c75 (r75 T t) λg1=>?_
 refine Rs (A3 t0 t1 t2) ?_;refine WF.ce T.c74 (r74 T (cH [_,_]) Si) λg2=>?_
 obtain⟨f,hf⟩:∃f,f=bn [(kQ (L.map EV.ev) 2 n).2,ru t]:=⟨_,rfl⟩;rw[<-hf,wg,<-hf];by_cases h0:f=0
 case neg=>
  have q:decide (f≠0)=true:=ZR h0;rw[ZY h0];exact Rs (A4 t0 t1 t2 q) Tv
 have q:decide (f≠0)=false:=ZN (λz=>z h0);rw[ZW (λz=>z h0)];rw[hf]at h0;obtain⟨he,hne,hm⟩:=Iu (Db h0).1;rw[<-hne,<-hV]at hm;refine Rs (A5 t0 t1 t2 q @aE) ?_;refine WF.res T.c77 (r77 T (oV.ext Xx) wV.len hm) ?_;rintro _ g3 ⟨x,hx,VG,rfl⟩;refine Rs (A3 t0 t1 t2) ?_;refine WF.ce T.c76 (r76 T (oV.ext Xx) wV.len ((oV.e2 x hx).ext Xx) (wV.yL.sh x hx).2 (wV.yL.sh x hx).1 t) λg4=>?_
 refine Rs (A3 t0 t1 t2) ?_;rw[VG,hV]
def r17{L s}(o:eJ h L s)(sh:x6 L)(gl:Gl h)(t:Int):ay P 17 [s,.i t] h (λv k=>∃s',v=.dz [s',.i (qR (L.map EV.ev) t).2]/\aI k s' 1 ((qR (L.map EV.ev) t).1.map ak)):=by
 refine .fo 28 T.mix T.c17 ?_;intro ts hlen t0 t1;unfold fn17 gA;refine Rs (A2 t0 t1) ?_;refine WF.res T.c78 (r78 T (o.ext Xx) sh (gl.ext Xx)) ?_;intro v g hv;obtain⟨p,hvp⟩:∃p,v=.dz [p,.i (bF (L.map EV.ev)).2.1,.i (bF (L.map EV.ev)).2.2]:=by obtain⟨p,h1,_⟩:=hv;exact⟨p,h1⟩
 rw[hvp];refine Rs (A2 t0 t1) ?_;refine WF.ce T.c75 (r75 T t) λg1=>?_
 refine Rs (A2 t0 t1) ?_;refine WF.ce T.c74 (r74 T (cH [_,_]) Si) λg2=>?_
 obtain⟨f,hf⟩:∃f,f=bn [(bF (L.map EV.ev)).2.2,ru t]:=⟨_,rfl⟩;rw[<-hf,qR,<-hf];by_cases h0:f=0
 case neg=>
  have q:decide (f≠0)=true:=ZR h0;rw[ZY h0];refine Rs (A3 t0 t1 q) ?_;exact⟨_,rfl,.nil⟩
 have q:decide (f≠0)=false:=ZN (λz=>z h0);rw[ZW (λz=>z h0)];rw[hf]at h0;obtain⟨b,V,hvb,oV,hV,wV,WZ,hle,hr,hz,wn,hn,on,lo⟩:=Cr T hv (Db h0).1;rw[hvp]at hvb;have hpb:p=.ptr b 0:=by injection hvb with h1;injection h1
 rw[hpb];refine Rs (A3 t0 t1 q) ?_;refine WF.ce T.c79 (r79 T (oV.rd.ext Xx) hr) λg3=>?_
 refine Rs (A2 t0 t1) ?_;refine WF.res T.c80 (r80 T (on.ext Xx) wn.len wn.yL t) ?_;rintro v4 g4 h4;refine Rs (A2 t0 t1) ?_;rw[hn]at h4;exact⟨_,rfl,h4⟩
def r219{x:j7×AV}(ox:x.2.one=true){S:List iH}{s:AV}(hs:aI h s 3 (S.map cC))(hl:S.length<2^63){b:Nat}(hb:h[b]? =some (.b [s])):
  ay P 219 [.agg (bt x),.ptr b 0] h (λv _=>v=.bool (decide (x.1.line∈S.map iH.name))):=by
 refine .fo 9 T.mix T.c219 ?_;intro ts hlen t0 t1;unfold fn219 gA;have lb:∀{k:ah}{n':Option Nat}{a:Nat},Ext h k->aq n' (.ptr b a) (λz=>k[z]?)=dK n' a (.b [s]):=λe=>az (e.some hb)
 unfold bt at t0;refine Rs (A4 t0 t1 @ox @lb) ?_;refine WF.ce T.c142 (r142 T (hs.ext Xx) hl _) λg1=>?_
 rw[show(λy:iH=>decide (y.name=x.1.line))=λy=>decide (iH.name y=x.1.line)from rfl];refine Rs (A2 t0 t1) ?_;rw[gk]
def r126{V:RV}(o:aC h V)(w:fQ V.ao){p:By}(hp:p∈j8 V.ao):ay P 126 [.agg V.row,.str p] h (λv h'=>aI h' v 1 ((qo V.ao p).map ak)):=by
 refine .fo 20 T.mix T.c126 ?_;intro ts hlen t0 t1;unfold fn126 gA;have Su:=@aC.box _ _ o;have l:=w.len;have Zj:=iC (f:=pI.name) (l:=V.ao.aK) (n:=p) (d:=Iz) hp;have hj:=(w.pc _ Zj).1;refine Rs (A4 t0 t1 @Su @aE) ?_;refine WF.ce T.c218 (r218 T (o.ext Xx) l hp) λg1=>?_
 have pj:(dG (iQ V.ao p))[1]? =some (.str (iQ V.ao p).zS):=rfl;unfold dG;refine Rs (A3 t0 t1 @aE) ?_;refine WF.res T.c124 (r124 T (o.ext Xx) l hj) ?_;rintro _ g2 ⟨x,hx,VG,rfl⟩;unfold bO;refine Rs (A3 t0 t1 @aE) ?_;have hin:∀x∈V.aD,x.1.bA.length<2^30:=λx hx=>by have:=(w.md x.1 (aah hx)).2.1;omega
 refine WF.res T.c122 (r122 T (o.ext Xx) l hin _) ?_;rintro v3 g3 h3;have ov:=h3.one;have hsl:(iT V.ao x.1.mod).length<2^30:=by
  have h1:(iT V.ao x.1.mod).length<=V.ao.lines.length:=by unfold iT;exact aav _ _
  have:=w.l0;omega
 have sn:∀{N:Nat},kG 1 0 v3 N (.b [.af])=some (aA,.set N (.b [v3])):=λ{_}=>cD ov Si
 refine Rs (A6 t0 t1 @gF @fG @ov @sn) ?_;refine WF.res T.c138 (r138 T (o.i2.ext Xx) o.jT.1 (by have:=l.l2;omega) (λy=>decide (y.1.line∈(iT V.ao x.1.mod).map iH.name)) (λy hy k e=>bH.of (a:=[]) T.c219 (r219 T (o.jT.1 y hy) (h3.ext (Ext.trans Xx e)) Om (e.some ba)))) ?_;rintro s4 g4 h4;have Tc:(V.aj.filter λy=>decide (y.1.line∈(iT V.ao x.1.mod).map iH.name)).length<=V.aj.length:=aav _ _;refine Rs (A2 t0 t1) ?_;refine WF.res T.c137 (r137 T h4.aO (λx hx=>o.jT.1 x ((aa3.1 hx).1)) (by have:=l.l2;omega) (λx=>x.1.name) (λx hx k e=>bH.of (a:=[]) (c:=[]) T.c140 (r140 T x (o.jT.1 x ((aa3.1 hx).1))))) ?_
 rintro s5 g5 h5;have:=h5.aO;refine Rs (A2 t0 t1) ?_;have e:qo V.ao p=(V.aj.filter λy=>decide (y.1.line∈(iT V.ao x.1.mod).map iH.name)).map λx=>x.1.name:=by
  rw[qo,<-VG];simp only[RV.ao,abQ,abt];rfl
 rw[e];exact this
def Fu(l:List Int):Int×Int:=
 if bn [bW (decide (l.length=0)) 12,bW (decide (32<l.length)) 5]≠0 then(0,bn [bW (decide (l.length=0)) 12,bW (decide (32<l.length)) 5])
 else if bn (l.map λn=>bG n 0 999999999)≠0 then(0,bn (l.map λn=>bG n 0 999999999))else(gT l,0)
def r93(n:Int):ay P 93 [.i n] h (λv _=>v=.i (bG n 0 999999999)):=by
 refine .jd 5 T.mix T.c93 ?_;intro ts hlen t0;unfold fn93 Lz;refine Rs t0 ?_;refine WF.ce T.c94 (r94 T _ _ _) λg1=>?_
 exact Rs t0 Tv
def r27{s l}(hs:aI h s 1 (l.map aJ))(hl:l.length<2^30):ay P 27 [s] h (λv _=>v=.dz [.i (Fu l).1,.i (Fu l).2]):=by
 refine .jd 27 T.mix T.c27 ?_;intro ts hlen t0;unfold fn27 gA;refine Rs (A2 t0 hs.aL) ?_;refine WF.ce T.c85 (r85 T _ _) λg1=>?_
 refine Rs (A2 t0 hs.aL) ?_;refine WF.ce T.c85 (r85 T _ _) λg2=>?_
 refine Rs t0 ?_;refine WF.ce T.c74 (r74 T (cH [_,_]) Si) λg3=>?_
 have e1:decide ((l.length:Int)=0)=decide (l.length=0):=abB.2 Om;have e2:decide ((32:Int)<(l.length:Int))=decide (32<l.length):=abB.2 Om;rw[e1,e2];obtain⟨f,hf⟩:∃f,f=bn [bW (decide (l.length=0)) 12,bW (decide (32<l.length)) 5]:=⟨_,rfl⟩;rw[<-hf,Fu,<-hf];by_cases h0:f=0
 case neg=>
  have q:decide (f≠0)=true:=ZR h0;rw[ZY h0];exact Rs (A2 t0 q) Tv
 have q:decide (f≠0)=false:=ZN (λz=>z h0);rw[ZW (λz=>z h0)];refine Rs (A2 t0 q) ?_;refine WF.res T.c92 (r92 T (hs.ext Xx) Om (λn=>bG n 0 999999999) (λn _ k _=>bH.of (a:=[]) (c:=[]) T.c93 (r93 T n))) ?_;rintro s4 g4 WX;refine Rs t0 ?_;refine WF.ce T.c74 (r74 T WX.aO (by simp;omega)) λg5=>?_
 by_cases h1:bn (l.map λn=>bG n 0 999999999)=0
 case neg=>
  have q:decide (bn (l.map λn=>bG n 0 999999999)≠0)=true:=ZR h1;rw[ZY h1];exact Rs (A2 t0 q) Tv
 have q1:decide (bn (l.map λn=>bG n 0 999999999)≠0)=false:=ZN (λz=>z h1);rw[ZW (λz=>z h1)];have hb:∀n∈l,-1<=n/\n<=999999999:=λn hn=>by
  rw[qC]at h1;split at h1
  ·exact absurd h1 De
  case isFalse hh=>
   have:=jg (n:=n) (lo:=0) (hi:=999999999) λz=>hh (abx.2 ⟨n,hn,by simpa using z⟩)
   omega
 refine Rs (A2 t0 q1) ?_;refine WF.ce T.c95 (r95 T (hs.ext Xx) hl hb) λg6=>?_
 exact Rs t0 Tv
end
def zL(l:List fi)(n:By):List (By)×Int:=if(kQ l 3 n).2≠0 then([],(kQ l 3 n).2)else((mY (kQ l 3 n).1 n).map jc.name,0)
def Fq{h X:ah}{A A' R R':an}{j:Nat}(hj:h.length+2<=j):(h++[A]++[R]++X)[j]? =(h++[A']++[R']++X)[j]? :=by
 exact Oc
def F7:ai:=((fn213).body.tl).hd
def Ns:ai:=F7.tl.IZ
def QK:ai:=(fn213).body.tl.tl
def Nr:(fn213).body=.seq ((fn213).body.hd) (.seq (.seq F7.hd (.block 0 (.gx (.t 6) [7] Ns.EL Ns.D6))) QK):=rfl
section
variable {P:Program}(T:fD P) {h:ah}
include T
def r213{f:FuncId}{A:au}(hA:bU P f=some A){a c:List AV}{L:List (jc×AV)}{pre:ah->Prop}(hi:IterM P f a c (L.map λx=>[.agg (bf x)]) pre)(ho:∀x∈L,x.2.one=true)(hl:L.length<=2^30)(hp:pre h)(hpe:∀k,Ext h k->pre k):
  ay P 213 [.af,.func (.func f) a c] h (λv k=>aI k v 4 (L.map bf)):=by
 refine .of T.mix T.c213 ?_;obtain⟨ts,Sv⟩:∃ts,ts=aU 13 [.af,.func (.func f) a c]:=⟨_,rfl⟩;have hlen:ts.length=13:=by rw[Sv];rfl
 have t0:slot ts 0=.af:=by rw[Sv];rfl
 have t1:slot ts 1=.func (.func f) a c:=by rw[Sv];rfl
 show WC P bL (fn213).body [] (aU 13 [.af,.func (.func f) a c]) h _;rw[<-Sv,Nr];clear Sv;obtain⟨RR,TC⟩:∃RR,RR=QK:=⟨_,rfl⟩;obtain⟨RA,Yx⟩:∃RA,RA=Ns.EL:=⟨_,rfl⟩;obtain⟨RB,Yw⟩:∃RB,RB=Ns.D6:=⟨_,rfl⟩;rw[<-TC,<-Yx,<-Yw];unfold F7 fn213 gA;simp only[ai.tl,ai.hd];refine Rs (A2 t0 t1) ?_;refine WC.iterM T.mix hA (a:=a) (c:=c) (Sq t0) hi (λy hy=>by obtain⟨z,_,rfl⟩:=aal.1 hy;rfl)
  (λmm i h' g=>∃sl:AV,h' =h++[an.b [sl]]/\h'.length+1<=mm/\mm<=h'.length+1+g.length/\i<=L.length/\∀R:an,Fr mm (h'++[R]++g) sl 4 ((L.take i).map bf)) (λ_ _ _=>False)
  (λg=>⟨.af,rfl,Om,Z0 _,aam _,λR=>.nil⟩)
  (λmm i h' g g' hI=>by
   obtain⟨sl,a1,a2,a3,a4,a5⟩:=hI;exact⟨sl,a1,a2,by rw[ZL];omega,a4,λR=>by rw[<-ZO];exact(a5 R).app _⟩)
  (λX=>hpe _ Xx) (λmm i h' g X SI hI=>by obtain⟨sl,rfl,_⟩:=hI;exact hpe _ Xx) (λmm i hi' h' g R B SI hI=>?_) (λe h' g SI hI=>?_)
 ·obtain⟨sl,rfl,Un,Xu,hi0,hfr⟩:=hI;have hiL:i<L.length:=by simpa using hi'
  rw[aaW,Yx,Yw];obtain⟨x,hx⟩:∃x,x=L[i]:=⟨_,rfl⟩;have ox:=ho x (by rw[hx];exact ZZ _);have SC:L.take (i+1)=L.take i++[x]:=by rw[hx,aay,ZS hiL];rfl
  rw[<-hx];unfold Ns F7 fn213 gA;simp only[ai.tl,ai.hd,ai.IZ,ai.EL,ai.D6,setArgs,bf];refine Rs (A3 t0 t1 @ox) ?_;refine⟨_,g++[an.b [AV.str x.1.name,.str x.1.gives,.str x.1.line,x.2]],by rw[<-ZO],SI,?_⟩;rw[<-ZO];have lb:∀{Z:ah}{n a},aq n (.ptr h.length a) (λz=>(h++[an.b [sl]]++[B]++g++Z)[z]?)=dK n a (.b [sl]):=λ{_ _ _}=>az th
  have lx:∀{n a},aq n (.ptr (h++[an.b [sl]]++[R]++g).length a) (λz=>(h++[an.b [sl]]++[B]++g++[an.b [AV.str x.1.name,.str x.1.gives,.str x.1.line,x.2]])[z]?)=dK n a (.b [AV.str x.1.name,.str x.1.gives,.str x.1.line,x.2]):=λ{_ _}=>by
   have:(h++[an.b [sl]]++[R]++g).length=(h++[an.b [sl]]++[B]++g).length:=Si
   rw[this];exact az ba
  refine Rs (A5 t0 t1 @ox @lb @lx) ?_;obtain⟨gt,VP⟩:∃gt,gt=g.take (mm-(h.length+2)):=⟨_,rfl⟩;have XO:h.length+2<=mm/\mm<=h.length+2+g.length:=by
   simp only[ZL,ZP,ZT]at Un Xu;omega
  have hgl:gt.length=mm-(h.length+2):=by rw[VP,aaw];omega
  have hgs:g=gt++g.drop (mm-(h.length+2)):=by rw[VP,aaL]
  have h0l:(h++[an.b [sl]]++[B]++gt).length=mm:=by
   exact KE
  have hfs:Fr (h++[an.b [sl]]++[B]++gt).length (h++[an.b [sl]]++[B]++g++[an.b [AV.str x.1.name,.str x.1.gives,.str x.1.line,x.2]]++[an.cells [AV.str x.1.name,.str x.1.gives,.str x.1.line,x.2] true true]) sl 4 ((L.take i).map bf):=by
   rw[h0l];exact((hfr B).app _).app _
  have hext:Ext (h++[an.b [sl]]++[B]++gt) (h++[an.b [sl]]++[B]++g++[an.b [AV.str x.1.name,.str x.1.gives,.str x.1.line,x.2]]++[an.cells [AV.str x.1.name,.str x.1.gives,.str x.1.line,x.2] true true]):=by
   refine⟨g.drop (mm-(h.length+2))++[an.b [AV.str x.1.name,.str x.1.gives,.str x.1.line,x.2]]++[an.cells [AV.str x.1.name,.str x.1.gives,.str x.1.line,x.2] true true],?_⟩
   conv=>lhs;rw[hgs]
   simp only[ZO]
  refine WR.fP (h0:=h++[an.b [sl]]++[B]++gt) (cs:=(L.take i).map bf) (ys:=[bf x]) hfs (Fr.push (N:=0) (aam _) [bf x] (by simp[bf])).aO De Si (by simp only[ZU,aaw,ZP,ZT];omega) hext ?_;intro g' hlg hff hkp;have hrow:(L.take i).map bf++[bf x]=(L.take (i+1)).map bf:=by rw[SC,ZV];rfl
  rw[hrow]at hff;rw[hrow];obtain⟨sn,SY⟩:∃sn,sn=AV.slice (h++[an.b [sl]]++[B]++g++[an.b [AV.str x.1.name,.str x.1.gives,.str x.1.line,x.2]]++[an.cells [AV.str x.1.name,.str x.1.gives,.str x.1.line,x.2] true true]).length 0 ((L.take (i+1)).map bf).length 4:=⟨_,rfl⟩;rw[<-SY]at hff ⊢;have osn:sn.one=true:=by rw[SY];rfl
  have st:a8 1 (.ptr h.length 0) sn (λz=>(h++[an.b [sl]]++[B]++gt++g')[z]?)=some (aA,.set h.length (.b [sn])):=by
   have:(h++[an.b [sl]]++[B]++gt++g')[h.length]? =some (.b [sl]):=th;rw[aN this];exact cD osn Si
  refine Rs (A3 t0 t1 @st) ?_;refine⟨h++[an.b [sn]],gt++g',by simp only[ZO],Si,λy hy=>?_,sn,rfl,by simp only[ZL,ZP,ZT];omega,?_,Om,λR'=>?_⟩
  ·have Uk:y<gt.length:=by
    simp only[ZL,ZP,ZT]at hy;omega
   rw[ZQ Uk]
   conv=>rhs;rw[hgs]
   rw[ZQ Uk]
  ·exact KE
  ·rw[<-h0l];refine hff.aB λb hb=>?_
   have hbb:=(hff.bB hb).1;rw[h0l]at hbb;rw[ZO _ gt];exact Fq Om
 ·by_cases Ti:e=.normal
  case neg=>rw[ZW Ti]at hI;exact hI.elim
  subst Ti;rw[ZY rfl]at hI;obtain⟨mm,sl,rfl,_,_,_,hfr⟩:=hI;rw[ZU,aaj]at hfr;rw[TC];have hf:=(hfr an.dead).aO;have lb:∀{n a},aq n (.ptr h.length a) (λz=>(h++[an.b [sl]]++[an.dead]++g)[z]?)=dK n a (.b [sl]):=λ{_ _}=>az Bo
  unfold QK fn213 gA;simp only[ai.tl,ai.hd];refine Rs (A3 t0 t1 @lb) ?_;exact hf
def r118{f:FuncId}{A:au}(hA:bU P f=some A){a c:List AV}{L:List (jc×AV)}{pre:ah->Prop}(hi:IterM P f a c (L.map λx=>[.agg (bf x)]) pre)(ho:∀x∈L,x.2.one=true)(hl:L.length<=2^30)(hp:pre h)(hpe:∀k,Ext h k->pre k):
  ay P 118 [.func (.func f) a c] h (λv k=>aI k v 4 (L.map bf)):=by
 refine .jd 5 T.mix T.c118 ?_;intro ts hlen t0;unfold fn118 gA;refine Rs t0 ?_;refine WF.res T.c213 (r213 T hA hi ho hl hp hpe) ?_;rintro v g1 h1;refine Rs t0 ?_;exact h1
def r51{L:List EV}{s:AV}(o:eJ h L s)(sh:x6 L)(gl:Gl h)(n:By):ay P 51 [s,.str n] h (λv k=>∃s',v=.dz [s',.i (zL (L.map EV.ev) n).2]/\aI k s' 1 ((zL (L.map EV.ev) n).1.map ak)):=by
 refine .fo 22 T.mix T.c51 ?_;intro ts hlen t0 t1;unfold fn51 gA;refine Rs (A2 t0 t1) ?_;refine WF.res T.c73 (r73 T (o.ext Xx) sh (gl.ext Xx) (t:=3) De n) ?_;rintro _ g ⟨V,rfl,hV,oV,wV⟩;have st:∀{b':Nat}{a0 a1 a2 a3 a4 a5 a6:AV},kG 7 0 (.agg V.row) b' (.b [a0,a1,a2,a3,a4,a5,a6])=some (aA,.set b' (.b V.row)):=λ{_ _ _ _ _ _ _ _}=>oV.st
 rw[zL];by_cases h0:(kQ (L.map EV.ev) 3 n).2=0
 case neg=>
  have q:decide ((kQ (L.map EV.ev) 3 n).2≠0)=true:=ZR h0;rw[ZY h0];refine Rs (A4 t0 t1 @st q) ?_;exact⟨_,rfl,.nil⟩
 have q:decide ((kQ (L.map EV.ev) 3 n).2≠0)=false:=ZN (λz=>z h0);rw[ZW (λz=>z h0)];refine Rs (A5 t0 t1 @st q @aE) ?_;have hin:∀x∈V.aD,x.1.bA.length<2^30:=λx hx=>by have:=(wV.md x.1 (aah hx)).2.1;omega
 have ov1:∀x∈jw V n,x.2.one=true:=λx hx=>oV.jT.2.1 x (aa3.1 hx).1
 have hnl:(jw V n).length<=2^30:=by
  have h1:(jw V n).length<=V.aD.length:=by unfold jw;exact aav _ _
  have:=wV.len.l3;omega
 refine WF.res T.c119 (r119 T (oV.ext Xx) n) ?_;rintro _ g1 ⟨rfl,hp⟩;refine Rs (A2 t0 t1) ?_;refine WF.res T.c118 (r118 T T.c214 (a:=[]) (rW T wV.len hin n _ _) ov1 hnl hp (λk e=>qL.ext hp e)) ?_;rintro v2 g2 h2;refine Rs (A2 t0 t1) ?_;refine WF.res T.c117 (r117 T h2 ov1 Om (λx=>x.1.name) (λx hx k _=>bH.of (a:=[]) (c:=[]) T.c120 (r120 T x (ov1 x hx)))) ?_;rintro v3 g3 h3;refine Rs (A2 t0 t1) ?_;refine⟨_,rfl,?_⟩;have:=h3.aO;rw[<-hV,<-pQ,abt (g:=jc.name)];exact this
end
structure As(N:Nat)(h:ah)(out:AV)(x:EV):Prop where
 n:Fr N h x.sn 1 (x.ev.names.map ak)
 v:Fr N h x.sv 1 (x.ev.bQ.map aJ)
 dn:∀j,sB x.sn=some j->sB out≠some j
 dv:∀j,sB x.sv=some j->sB out≠some j
def As.ok{N h out x}(o:As N h out x):bj h x:=⟨o.n.aO,o.v.aO⟩
theorem As.app{N h out x}(o:As N h out x)(g:ah):As N (h++g) out x:=⟨o.n.app g,o.v.app g,o.dn,o.dv⟩
def qb(n:By)(e:fi):Bool:=
 match Fb (pT e)with
 |none=>false
 |some 3=>true
 |some i=>decide (aS e i=n)
def L0(l:List fi):List fi:=l.mapIdx λi e=>{e with num:=(i:Int)+1}
def nv(l:List fi)(n:By):List fi×Int:=
 if bn [(bF l).2.2,bW (decide ((bF l).2.2=0) && !eo (bF l).1.now 0 n) 10]≠0 then([],bn [(bF l).2.2,bW (decide ((bF l).2.2=0) && !eo (bF l).1.now 0 n) 10])
 else(L0 ((bF l).1.fS.filter (qb n)),0)
section
variable {P:Program}(T:fD P) {h:ah}
include T
def r87{L s}(hs:eJ h L s)(hl:L.length<=2^30)(hle:∀x∈L,x.ev.names.length<=2^30/\x.ev.bQ.length<=2^30):
  ay P 87 [s,.func (.func 91) [] []] h (λv h'=>∃L':List EV,L'.map EV.ev=L.map EV.ev/\Fr h.length h' v 5 (L'.map EV.row)/\∀x∈L',As h.length h' v x):=by
 refine .fo 22 T.mix T.c87 ?_;intro ts hlen t0 t1;unfold fn87;refine Rs (A3 t0 t1 hs.sl.aL) ?_;refine WL.inv T.mix (λn ts h'=>∃(k:Nat) (out:AV) (L':List EV) (g:ah),k<=L.length/\n=L.length-k/\h' =h++g/\L'.map EV.ev=(L.take k).map EV.ev/\Fr h.length (h++g) out 5 (L'.map EV.row)/\(∀x∈L',As h.length (h++g) out x)/\
   ts.length=22/\slot ts 1=.func (.func 91) [] []/\slot ts 5=out/\slot ts 8=s/\slot ts 9=.i L.length/\slot ts 10=.i k) L.length
  ⟨0,.af,[],[],Om,rfl,Si,rfl,.nil,(λx hx=>by cases hx),Sn,(Sq t1),Sw,(Sq t0),Sw,gf⟩ ?_
 rintro _ ts _ ⟨k,out,L',g,hk,rfl,rfl,hm,hfr,hin,hlen,t1,t5,t8,t9,t10⟩;have VC:L'.length=k:=by have:=aan List.length hm;simp at this;omega
 by_cases hlt:k<L.length
 ·have e3:=eF hlt;have e5:=wrapN (n:=k) Om;have ix:=hs.sl.dA (kk:=.i64) hlt;have ld:∀{k'},Ext (h++g) k'->aq (some 5) (cF s 5 k) (λb=>k'[b]?)=some (.agg (EV.row L[k]),.ar):=λ{k'} e=>hs.sl.kR hlt (Ext.trans Xx e)
  obtain⟨x,hx⟩:∃x,x=L[k]:=⟨_,rfl⟩;have Un:x∈L:=by rw[hx];exact ZZ _
  have SC:L.take (k+1)=L.take k++[x]:=by rw[hx,aay,ZS hlt];rfl
  rw[<-hx]at ld;have ox:=hs.all x Un;have st:∀{b':Nat}{a0 a1 a2 a3 a4:AV},kG 5 0 (.agg x.row) b' (.b [a0,a1,a2,a3,a4])=some (aA,.set b' (.b x.row)):=λ{_ _ _ _ _ _}=>ox.st
  refine Rs (kJ t1 t5 t8 t9 t10 e3 ix @ld @st @bS) ?_;refine WF.res T.c91 (r91 T x (ox.ext Xx) ⟨by have:=(hle x Un).1;omega,by have:=(hle x Un).2;omega⟩) ?_;rintro _ g1 ⟨x',SA,rfl,fn,fv⟩;have Vr:bj (h++g++[an.b x.row]++g1) x':=⟨by rw[SA];exact fn.aO,by rw[SA];exact fv.aO⟩;have bs:=@bj.Du _ _ Vr;refine Rs (A6 t1 t5 t8 t9 t10 @bs) ?_;refine WR.fP (h0:=h) (cs:=L'.map EV.row) (ys:=[x'.row]) (((hfr.app _).app _).app _) (Fr.push (N:=0) (aam _) [x'.row] (by intro y hy;rw[Z9]at hy;rw[hy];rfl)).aO De Si (by simp only[ZU,ZP,ZT];omega) Xx ?_;intro g' SI hff hkp;have hrow:L'.map EV.row++[x'.row]=(L'++[x']).map EV.row:=by rw[ZV];rfl
  rw[hrow]at hff;rw[hrow];obtain⟨sn,SY⟩:∃sn,sn=AV.slice (h++g++[an.b x.row]++g1++[an.cells x'.row true true]).length 0 ((L'++[x']).map EV.row).length 5:=⟨_,rfl⟩;rw[<-SY]at hff ⊢;have Um:∀i,sB sn=some i->(h++g++[an.b x.row]++g1).length+1=i:=λi hi=>by rw[SY]at hi;cases hi;simp;omega
  have hout:∀b,sB out=some b->b<(h++g).length:=λb hb=>(hfr.bB hb).2
  have kp:∀i,i<(h++g++[an.b x.row]++g1).length->sB out≠some i->(h++g')[i]? =(h++g++[an.b x.row]++g1)[i]? :=λi hi hne=>by
   rw[hkp i (by rw[ZL];omega) (λb0 o n e he zz=>hne (by rw[he,zz];rfl)),ZQ hi]
  refine Rs (A6 t1 t5 t8 t9 t10 e5) ?_;refine⟨_,Om,k+1,sn,L'++[x'],g',Om,rfl,rfl,?_,hff,λy hy=>?_,rfl,rfl⟩
  ·rw[ZV,hm,SC,ZV];simp[SA]
  ·rcases ZX.1 hy with hy|hy
   ·have oy:=hin y hy;have ln:=λj (hj:sB y.sn=some j)=>(oy.n.bB hj).2
    have lv:=λj (hj:sB y.sv=some j)=>(oy.v.bB hj).2
    refine⟨((oy.n.app [an.b x.row]).app g1).aB λj hj=>kp j (by have:=ln j hj;simp only[ZL]at this ⊢;omega) (oy.dn j hj),((oy.v.app [an.b x.row]).app g1).aB λj hj=>kp j (by have:=lv j hj;simp only[ZL]at this ⊢;omega) (oy.dv j hj),λj hj e=>?_,λj hj e=>?_⟩
    ·have h1:=ln j hj;have h2:=Um j e;simp only[ZL]at h1 h2;omega
    ·have h1:=lv j hj;have h2:=Um j e;simp only[ZL]at h1 h2;omega
   ·rw[Z9]at hy;subst hy;have ln:=λj (hj:sB y.sn=some j)=>fn.bB hj
    have lv:=λj (hj:sB y.sv=some j)=>fv.bB hj
    have en:(h++g++[an.b x.row]).length=(h++g).length+1:=by rw[ZL];rfl
    rw[<-SA]at fn fv;exact Oo
 ·have e3:=fq hlt;have e4:k=L.length:=Om
  refine Rs (A6 t1 t5 t8 t9 t10 e3) ?_;rw[e4,aaj]at hm;exact⟨L',hm,hfr,hin⟩
def r240{x}(ox:bj h x){b i:Nat}(hb:h[b]? =some (.b [.i (i:Int)]))(hi:i<x.ev.names.length)(n:By):ay P 240 [.agg x.row,.str n,.ptr b 0] h (λv _=>v=.bool (decide (aS x.ev i=n))):=by
 refine .nT 13 T.mix T.c240 ?_;intro ts hlen t0 t1 t2;unfold fn240 gA;have Su:=@bj.box _ _ ox;have lb:∀{k:ah}{n':Option Nat}{a:Nat},Ext h k->aq n' (.ptr b a) (λz=>k[z]?)=dK n' a (.b [.i (i:Int)]):=λe=>az (e.some hb)
 have ix:=ox.n.dA (kk:=.i64) hi;have ev:aS x.ev i=x.ev.names[i]:=by rw[aS,aar,ZS hi];rfl
 have ld:∀{k':ah},Ext h k'->aq none (cF x.sn 1 i) (λb=>k'[b]?)=some (.str (aS x.ev i),.ar):=λ{k'} e=>by
  rw[ev];exact ox.n.gR hi rfl e
 exact Rs (A8 t0 t1 t2 @Su @lb @aP ix @ld) Tv
def r153{x}(ox:bj h x)(n:By):ay P 153 [.agg x.row,.str n] h (λv _=>v=.bool true):=by
 refine .fo 5 T.mix T.c153 ?_;intro ts hlen t0 t1;unfold fn153 gA;have Su:=@bj.box _ _ ox;exact Rs (A3 t0 t1 @Su) Tv
def r89{x d}(ox:bj h x)(wx:kH x.ev d){b n}(hb:h[b]? =some (.b [.str n])):ay P 89 [.agg x.row,.ptr b 0] h (λv _=>v=.bool (qb n x.ev)):=by
 refine .fo 18 T.mix T.c89 ?_;intro ts hlen t0 t1;unfold fn89 gA;have Su:=@bj.box _ _ ox;have lb:∀{k:ah}{n':Option Nat}{a:Nat},Ext h k->aq n' (.ptr b a) (λz=>k[z]?)=dK n' a (.b [.str n]):=λe=>az (e.some hb)
 refine Rs (A3 t0 t1 @Su) ?_;refine WF.res T.c90 (r90 T) ?_;rintro _ g2 ⟨vf,rfl,hk⟩;have lk:∀{z:AV},jj .s z false (.map (h++[an.b x.row]).length) (.str x.ev.kind) (λb=>(h++[an.b x.row]++g2)[b]?)=lX z false ((ff x.ev.kind).map vf):=hk.look;rw[wx.kd]at lk;have Th:∀{z:AV},_=some (vf d,jv.ar):=@lk;obtain⟨rs,a,hv,hr,ha,hab⟩:=(hk.k d).ex;rw[hv]at Th;unfold qb;rw[wx.pT];unfold y9 at hab;have hnl:=wx.nl;cases SE:Fb d with
 |none=>
  rw[SE]at hab;have hab:a=.nilFunc:=hab;subst hab;have en:uW true (mS .qP .nilFunc .nilFunc)=some (.bool false):=rfl;exact Rs (A6 t0 t1 @bC @bX @Th @en) Tv
 |some i=>
  rw[SE]at hab;by_cases h3:i=3
  ·subst h3;have hab:a=.func (.func 153) [] []:=hab;subst hab;have en:∀{A C:List AV},uW true (mS .qP (.func (.func 153) A C) .nilFunc)=some (.bool true):=rfl;refine Rs (A8 t0 t1 @bC @bX @Th @en @bS @lb) ?_;refine WF.ce T.c153 (r153 T (ox.ext Xx) n) λg3=>?_
   exact Rs t0 Tv
  ·obtain⟨b3,rfl,VS⟩:∃b',a=.func (.func 240) [] [.ptr b' 0]/\(h++[an.b x.row]++g2)[b']? =some (.b [.i (i:Int)]):=by
    split at hab
    ·rename_i hz;cases hz
    ·rename_i hz;cases hz;exact absurd rfl h3
    ·rename_i hz;cases hz;exact hab
   have hil:i<x.ev.names.length:=by
    rw[hnl];cases d<;>simp[Fb]at SE<;>first|(subst SE;decide)|exact absurd SE.symm h3
   have en:∀{A C:List AV},uW true (mS .qP (.func (.func 240) A C) .nilFunc)=some (.bool true):=rfl;refine Rs (A8 t0 t1 @bC @bX @Th @en @bS @lb) ?_;refine WF.ce T.c240 (a:=[]) (c:=[.ptr b3 0]) (r240 T (ox.ext Xx) (Ext.some Xx VS) hil n) λg3=>?_
   exact Rs t0 Tv
def r26{L s}(o:eJ h L s)(sh:x6 L)(gl:Gl h)(n:By):ay P 26 [s,.str n] h (λv k=>∃s' L',v=.dz [s',.i (nv (L.map EV.ev) n).2]/\eJ k L' s'/\L'.map EV.ev=(nv (L.map EV.ev) n).1):=by
 refine .fo 54 T.mix T.c26 ?_;intro ts hlen t0 t1;unfold fn26 gA;refine Rs (A2 t0 t1) ?_;refine WF.res T.c78 (r78 T (o.ext Xx) sh (gl.ext Xx)) ?_;intro v g hv;obtain⟨p,hvp⟩:∃p,v=.dz [p,.i (bF (L.map EV.ev)).2.1,.i (bF (L.map EV.ev)).2.2]:=by obtain⟨p,h1,_⟩:=hv;exact⟨p,h1⟩
 rw[hvp];by_cases he:(bF (L.map EV.ev)).2.2=0
 case neg=>
  have q:decide ((bF (L.map EV.ev)).2.2=0)=false:=ZN he;refine Rs (A3 t0 t1 q) ?_;refine WF.ce T.c85 (r85 T _ _) λg1=>?_
  refine Rs (A2 t0 t1) ?_;refine WF.ce T.c74 (r74 T (cH [_,_]) Si) λg2=>?_
  have e1:bn [(bF (L.map EV.ev)).2.2,bW false 10]=(bF (L.map EV.ev)).2.2:=by rw[bn,ZW he]
  have q2:decide ((bF (L.map EV.ev)).2.2≠0)=true:=ZR he;rw[e1];refine Rs (A3 t0 t1 q2) ?_;have e2:nv (L.map EV.ev) n=([],(bF (L.map EV.ev)).2.2):=by
   rw[nv,q,Bool.false_and,e1,ZY he]
  rw[e2];exact z213
 obtain⟨b,V,hvb,oV,hV,wV,WZ,hle,hr,hz,wn,hn,on,lo⟩:=Cr T hv he;rw[hvp]at hvb;have hpb:p=.ptr b 0:=by injection hvb with h1;injection h1
 rw[hpb];have q:decide ((bF (L.map EV.ev)).2.2=0)=true:=ZR he;refine Rs (A3 t0 t1 q) ?_;refine WF.ce T.c79 (r79 T (oV.rd.ext Xx) hr) λg1=>?_
 refine Rs (A3 t0 t1 @aE) ?_;refine WF.ce T.c86 (r86 T (on.ext Xx) wn.len (t:=0) De _) λg2=>?_
 refine Rs (A2 t0 t1) ?_;refine WF.ce T.c85 (r85 T _ _) λg3=>?_
 refine Rs (A2 t0 t1) ?_;refine WF.ce T.c74 (r74 T (cH [_,_]) Si) λg4=>?_
 rw[hn];rw[nv,q,abJ];obtain⟨f,hf⟩:∃f,f=bn [(bF (L.map EV.ev)).2.2,bW (!eo (bF (L.map EV.ev)).1.now 0 n) 10]:=⟨_,rfl⟩;rw[<-hf];by_cases h0:f=0
 case neg=>
  have q:decide (f≠0)=true:=ZR h0;rw[ZY h0];refine Rs (A3 t0 t1 q) ?_;exact z213
 have q2:decide (f≠0)=false:=ZN (λz=>z h0);rw[ZW (λz=>z h0)];obtain⟨Hs,ZG⟩:∃Hs,Hs=h++[an.b [AV.str n]]++g++g1++g2++g3++[an.cells [AV.i (bF (L.map EV.ev)).2.2,.i (bW (!eo (bF (L.map EV.ev)).1.now 0 n) 10)] true true]++g4:=⟨_,rfl⟩;have oH:Ar Hs b V:=by rw[ZG];exact oV.rd.ext Xx
 have mn:Hs[h.length]? =some (.b [.str n]):=by rw[ZG];exact(show Ext (h++[an.b [AV.str n]]) _ from Xx).some ba
 rw[<-ZG];have hb:=oH.hb;have lb:=@fw _ _ _ hb;have hcl:V.fS.length<=1000:=by
  have e1:=wV.le;have e2:V.bP.fS.length=V.fS.length:=by simp[HV.bP]
  have e3:V.bP.cN.length=V.cN.length:=by simp[HV.bP]
  have e4:(L.map EV.ev).length<=1000:=hle;omega
 have wc:∀x∈V.fS,∃d,kH x.ev d:=λx hx=>wV.cn x.ev (aah hx)
 have oone:∀x∈V.fS,x.sn.one=true/\x.sv.one=true:=λx hx=>⟨(oH.ac x hx).n.one,(oH.ac x hx).v.one⟩
 refine Rs (A4 t0 t1 q2 @lb) ?_;refine WF.res T.c88 (r88 T oH.ic oone Om (λx=>qb n x.ev) (λx hx k e=>by
  obtain⟨d,wx⟩:=wc x hx;exact bH.of (a:=[]) T.c89 (r89 T ((oH.ac x hx).ext e) wx (e.some mn)))) ?_
 rintro s5 g5 h5;refine Rs (A2 t0 t1) ?_;obtain⟨F,hF⟩:∃F,F=V.fS.filter λx=>qb n x.ev:=⟨_,rfl⟩
 rw[<-hF]at h5;have hFm:∀x∈F,x∈V.fS:=λx hx=>by rw[hF]at hx;exact(aa3.1 hx).1
 have hFl:F.length<=1000:=by have:F.length<=V.fS.length:=by(rw[hF];exact aav _ _)
                             omega
 have oF:eJ (Hs++g5) F s5:=⟨h5.aO,λx hx=>(oH.ac x (hFm x hx)).ext Xx⟩;refine WF.res T.c87 (r87 T oF Om (λx hx=>by
  obtain⟨d,wx⟩:=wc x (hFm x hx);have h1:=wx.nl;have h2:=wx.vl;have h3:(aM d).length<=3/\bK d<=3:=by cases d<;>decide
  omega)) ?_
 rintro s6 g6 ⟨L6,Yy,f6,i6⟩;obtain⟨Hb,hHb⟩:∃Hb,Hb=Hs++g5:=⟨_,rfl⟩;rw[<-hHb]at f6 i6 ⊢;have hl6:L6.length=F.length:=by have:=aan List.length Yy;simpa using this
 refine Rs (A3 t0 t1 f6.aO.aL) ?_;refine WL.inv T.mix (λm ts h'=>∃(k:Nat) (g':ah) (L':List EV),k<=L6.length/\m=L6.length-k/\h' =Hb++g'/\L'.length=L6.length/\(∀i (h1:i<L'.length) (h2:i<L6.length),(L'[i]).ev=if i<k then { (L6[i]).ev with num:=(i:Int)+1} else(L6[i]).ev)/\Fr Hb.length (Hb++g') s6 5 (L'.map EV.row)/\(∀x∈L',As Hb.length (Hb++g') s6 x)/\
   ts.length=54/\slot ts 10=s6/\slot ts 41=s6/\slot ts 42=.i L6.length/\slot ts 43=.i k) L6.length
  ⟨0,g6,L6,Om,rfl,rfl,rfl,λi _ _=>by rw[ZW Om],f6,i6,Sn,Sw,Sw,Sw,gf⟩ ?_
 clear t0 t1 hlen lb;clear ts;rintro _ ts _ ⟨k,g',L',hk,rfl,rfl,hlL,hev,hfr,hin,hlen,t10,t41,t42,t43⟩;by_cases hlt:k<L6.length
 ·have e3:=eF hlt;have e5:=wrapN (n:=k) Om;have SW:k<L'.length:=Om
  have ix:=hfr.aO.dA (kk:=.i64) SW;refine Rs (A7 t10 t41 t42 t43 e3 e5 ix) ?_;obtain⟨x,hx⟩:∃x,x=L'[k]:=⟨_,rfl⟩;have Ty:x∈L':=by rw[hx];exact ZZ _
  refine WR.sW (h0:=Hb) (x':={x with ev:={x.ev with num:=((k+1:Nat):Int) } }) hfr SW De rfl (by rw[<-hx];rfl) ?_;intro g2 hlg hff hkp;have kp:∀j,sB s6≠some j->(Hb++g2)[j]? =(Hb++g')[j]? :=λj hj=>hkp j λb0 o n e he zz=>hj (by rw[he,zz];rfl)
  have Ya:∀y:EV,As Hb.length (Hb++g') s6 y->As Hb.length (Hb++g2) s6 y:=λy oy=>⟨oy.n.aB λj hj=>kp j (oy.dn j hj),oy.v.aB λj hj=>kp j (oy.dv j hj),oy.dn,oy.dv⟩
  refine Rs (A5 t10 t41 t42 t43 e5) ?_;refine⟨_,Om,k+1,g2,L'.set k {x with ev:={x.ev with num:=((k+1:Nat):Int) } },Om,rfl,rfl,by rw[aax];exact hlL,λi h1 h2=>?_,hff,λy hy=>?_,rfl⟩
  ·by_cases UB:i=k
   ·subst UB;simp only[abL];rw[ZY Om];have:=hev i SW h2;rw[ZW Om]at this;rw[hx,this];rfl
   ·simp only[acd (abe UB)];rw[hev i (by simpa using h1) h2];by_cases hil:i<k
    ·rw[ZY hil,ZY Om]
    ·rw[ZW hil,ZW Om]
  ·rcases abz hy with hy|hy
   ·exact Ya y (hin y hy)
   ·rw[hy];have:=Ya x (hin x Ty);exact⟨this.n,this.v,this.dn,this.dv⟩
 ·have e3:=fq hlt;have e4:k=L6.length:=Om
  refine Rs (A5 t10 t41 t42 t43 e3) ?_;refine⟨by rw[hHb,ZG];exact Xx,s6,L',rfl,⟨hfr.aO,λx hx=>(hin x hx).ok⟩,?_⟩;have e6:(bF (L.map EV.ev)).1.fS.filter (qb n)=L6.map EV.ev:=by
   rw[Yy,hF,<-hV];show List.filter _ (V.fS.map EV.ev)=_;rw[abQ];rfl
  rw[e6,L0];refine List.ext_getElem (by simp[hlL]) λi h1 h2=>?_
  have h1':i<L'.length:=by simpa using h1
  rw[aaW,hev i h1' Om,ZY Om,List.getElem_mapIdx,aaW]
end
end Go.Abs
