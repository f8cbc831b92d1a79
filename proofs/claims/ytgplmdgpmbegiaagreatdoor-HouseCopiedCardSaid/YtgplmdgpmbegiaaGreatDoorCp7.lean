/- A part of the proof that HouseCopied holds. No condition. -/
import Derived.Test.YtgplmdgpmbegiaaGreatDoorCp6
import Derived.Test.YtgplmdgpmbegiaaGreatDoorCp0
set_option maxHeartbeats 4000000
set_option linter.all false
open Nat (reduceAdd reduceMul reduceLeDiff reduceEqDiff)
namespace Go.Abs
theorem bw.row{h x}(o:bw h x):x.row.all AV.one=true:=by
 simp only[EV.row,C4,C3,B2,Gh,o.n.one,o.v.one,Bool.and_self]
def bw.box{h x}(o:bw h x){N}:pD (.agg x.row) N=some (.ptr N 0,.push (.b x.row)):=by
 have:(AV.agg x.row).cells=x.row:=rfl;simp only[pD,this,o.row,Zi]
def nw{x:EV}:x.row[0]? =some (.i x.ev.num):=rfl
def bj{x:EV}:x.row[1]? =some (.str x.ev.kind):=rfl
def aI{x:EV}:x.row[2]? =some x.sn:=rfl
def aY{x:EV}:x.row[3]? =some x.sv:=rfl
def x9{x:EV}:x.row[4]? =some (.str x.ev.text):=rfl
def cp{x:EV}{mu tl:Bool}:dE (some 5) 0 (.cells x.row mu tl)=some (.agg x.row,.au):=rfl
def mg(d:Kd):(j7 d).one=true:=by cases d<;>rfl
def lJ(d:Kd):(pv d).one=true:=by cases d<;>rfl
def xZ{l:List (By)}:aZ (l.map λs=>bZ (!dX s) 8)=if l.any (λs=>!dX s)then 8 else 0:=by
 induction l with
 |nil=>rfl
 |cons a l ih=>
  rw[ZP,aZ,ih,abf,bZ];cases h:dX a<;>simp
def p9{l:List Int}:aZ (l.map λn=>bg n 0 999999999)=if l.any (λn=>decide (bg n 0 999999999≠0))then 3 else 0:=by
 induction l with
 |nil=>rfl
 |cons a l ih=>
  rw[ZP,aZ,ih,abf];by_cases h:bg a 0 999999999=0
  ·simp[h]
  ·have h3:bg a 0 999999999=3:=by unfold bg at h ⊢;split<;>simp_all
   simp[h3]
def tW{n lo hi}(h:bg n lo hi≠0):bg n lo hi=3:=by unfold bg at h ⊢;split<;>simp_all
set_option maxRecDepth 10000
attribute [local irreducible] WP WC WE WB WR WF WL WG fU
section
variable {P:Program}(T:fp P) {h:ah}
include T
def r131(s:By):ay P 131 [.str s] h (λv _=>v=.i (bZ (!dX s) 8)):=by
 refine .of T.mix T.c131 ?_;unfold fn131 gA;refine Wn ?_;refine WF.ce T.c132 (r132 T s) λg1=>?_
 refine Wn ?_;refine WF.ce T.c85 (r85 T _ _) λg2=>?_
 exact Wn Tv
def r133(n:Int):ay P 133 [.i n] h (λv _=>v=.i (bg n 0 999999999)):=by
 refine .of T.mix T.c133 ?_;unfold fn133 gA;refine Wn ?_;refine WF.ce T.c94 (r94 T _ _ _) λg1=>?_
 exact Wn Tv
def r67{x:EV}(o:bw h x)(hl:x.ev.names.length<=2^40/\x.ev.cB.length<=2^40):ay P 67 [.agg x.row] h (λv _=>v=.i (gV x.ev)):=by
 refine .kU 53 T.mix T.c67 ?_;intro ts hlen t0;unfold fn67 gA;have RF:=@bw.box _ _ o;refine Rs (A3 t0 @RF @nw) ?_;refine WF.ce T.c94 (r94 T _ _ _) λg1=>?_
 by_cases h0:bg x.ev.num 1 1000=0
 case neg=>
  have e0:decide (bg x.ev.num 1 1000≠0)=true:=YW h0;refine Rs (A2 t0 e0) ?_;rw[gV,Zb h0];exact Zz (AV.int .i64) (tW h0)
 have e0:decide (bg x.ev.num 1 1000≠0)=false:=YS (λz=>z h0);refine Rs (A2 t0 e0) ?_;refine WF.res T.c90 (r90 T) ?_;rintro _ g2 ⟨vf,rfl,hk⟩;have lk:∀{z:AV},gX .s z true (.map (h++[ak.b x.row]++g1).length) (.str x.ev.kind) (λb=>(h++[ak.b x.row]++g1++g2)[b]?)=lH z true ((gT x.ev.kind).map vf):=hk.look;cases hd:gT x.ev.kind with
 |none=>
  rw[hd]at lk;have Sl:∀{z:AV},_=some (AV.dM [z,.bool false],iT.au):=@lk;refine Rs (A6 t0 @bj @bS @Sl @iR @Zq) ?_;rw[gV,Y6 (by simpa using h0),hd]
 |some d=>
  rw[hd]at lk;have Sl:∀{z:AV},_=some (AV.dM [vf d,.bool true],iT.au):=@lk;obtain⟨rs,a,hv,hr,ha,hab⟩:=(hk.k d).ex;rw[hv]at Sl;have hlr:=hr.aJ;have c1:=mg d;have c2:=lJ d;have c3:=hr.one;refine Rs (wP t0 @bj @aI @aY @bS @Sl @Zg @c1 @c2 @c3 @ha @hlr o.n.aJ o.v.aJ) ?_;have esh:gV x.ev=if x.ev.names.length≠(bK d).length\/x.ev.cB.length≠cC d then 2 else aZ [aZ (x.ev.names.map λs=>bZ (!dX s) 8),aZ (x.ev.cB.map λn=>bg n 0 999999999),bZ (decide (x.ev.text≠[])) 1]:=by
   rw[gV,Y6 (by simpa using h0),hd,xZ,p9];simp only;split
   ·rfl
   cases x.ev.names.any (λs=>!dX s)with
   |true=>rfl
   |false=>
    cases x.ev.cB.any (λn=>decide (bg n 0 999999999≠0))with
    |true=>rfl
    |false=>by_cases ht:x.ev.text=[]<;>simp[aZ,bZ,ht]
  rw[esh];by_cases h1:x.ev.names.length=(bK d).length/\x.ev.cB.length=cC d
  case neg=>
   have e1:(!(decide ((x.ev.names.length:Int)=((bK d).length:Int))&&(decide ((x.ev.cB.length:Int)=(cC d:Int))&&true)))=true:=by
    by_cases q1:x.ev.names.length=(bK d).length
    ·have q2:¬x.ev.cB.length=cC d:=λz=>h1 ⟨q1,z⟩
     have q3:¬(x.ev.cB.length:Int)=(cC d:Int):=Om
     simp[q3]
    ·have q3:¬(x.ev.names.length:Int)=((bK d).length:Int):=Om
     simp[q3]
   rw[e1,Zb Om];exact Rs t0 Tv
  have e1:(!(decide ((x.ev.names.length:Int)=((bK d).length:Int))&&(decide ((x.ev.cB.length:Int)=(cC d:Int))&&true)))=false:=by
   rw[h1.1,h1.2];simp
  rw[e1,Y6 Om];refine Rs (A3 t0 @aI @aY) ?_;refine WF.res T.c130 (r130 T (o.n.ext Xx) hl.1 (λs=>bZ (!dX s) 8) (λs _ k _=>bF.of (a:=[]) (c:=[]) T.c131 (r131 T s))) ?_;rintro s6 g6 hf6;refine Rs (A3 t0 @aI @aY) ?_;refine WF.res T.c92 (r92 T (o.v.ext Xx) hl.2 (λn=>bg n 0 999999999) (λn _ k _=>bF.of (a:=[]) (c:=[]) T.c133 (r133 T n))) ?_;rintro s7 g7 hf7;refine Rs (A3 t0 @aI @aY) ?_;refine WF.ce T.c74 (r74 T (hf6.ba.ext Xx) (by simp;omega)) λg8=>?_
  refine Rs t0 ?_;refine WF.ce T.c74 (r74 T (hf7.ba.ext Xx) (by simp;omega)) λg9=>?_
  refine Rs (A2 t0 @x9) ?_;refine WF.ce T.c85 (r85 T _ _) λg10=>?_
  refine Rs t0 ?_;refine WF.ce T.c74 (r74 T (cj [_,_,_]) Si) λg11=>?_
  refine Rs t0 ?_;exact⟨Xx,trivial⟩
end
def Q3:List AV:=[.str dQ,.str dQ,.str dQ,.str mh,.str mh,.str n9,.str n9,.str n9]
def Gl(h:ah):Prop:=∃mu tl,h[0]? =some (.cells Q3 mu tl)
def Gl.ext{h k}(o:Gl h)(e:Ext h k):Gl k:=by obtain⟨mu,tl,h1⟩:=o;exact⟨mu,tl,e.some h1⟩
structure Cx(h:ah)(V:RV)(x:EV)(d:Kd):Prop where
 o:aC h V
 w:eJ V.an
 e:bw h x
 we:ko x.ev d
 nk:sI V.an x.ev d
def Cx.nm{h V x d}(c:Cx h V x d){i:Nat}(hi:i<(bK d).length):aS 1 x.sn (.i (i:Int))=some (cN x.sn 1 i,.au)/\∀{k},Ext h k->aq none (cN x.sn 1 i) (λb=>k[b]?)=some (.str (aM x.ev i),.au):=by
 have hi':i<x.ev.names.length:=by rw[c.we.nl];exact hi
 refine⟨c.e.n.dG hi',λ{k} e=>?_⟩;have:aM x.ev i=x.ev.names[i]:=by rw[aM,ZH,YU hi'];rfl
 rw[this];exact c.e.n.kY hi' rfl e
theorem Cx.vl{h V x d}(c:Cx h V x d){i:Nat}(hi:i<cC d):aS 1 x.sv (.i (i:Int))=some (cN x.sv 1 i,.au)/\(∀{k},Ext h k->aq none (cN x.sv 1 i) (λb=>k[b]?)=some (.i (bH x.ev i),.au))/\0<=bH x.ev i/\bH x.ev i<=999999999:=by
 have hi':i<x.ev.cB.length:=by rw[c.we.vl];exact hi
 have:bH x.ev i=x.ev.cB[i]:=by rw[bH,ZH,YU hi'];rfl
 refine⟨c.e.v.dG hi',λ{k} e=>?_,c.we.vr _ (nF hi')⟩;rw[this];exact c.e.v.kY hi' rfl e
theorem Cx.ext{h k V x d}(c:Cx h V x d)(e:Ext h k):Cx k V x d:=⟨c.o.ext e,c.w,c.e.ext e,c.we,c.nk⟩
def dO{c e l}(he:e≠0):aZ (bZ c e::l)=if c=true then e else aZ l:=by
 cases c<;>simp[aZ,bZ,he]
def ui{a b c l}:aZ (bg a b c::l)=if bg a b c≠0 then 3 else aZ l:=by
 by_cases h:bg a b c=0
 ·simp[aZ,h]
 ·simp[aZ,h,tW h]
section
variable {P:Program}(T:fp P) {h:ah}
include T
def r148{V x}(c:Cx h V x .line):ay P 148 [.agg V.row,.agg x.row] h (λv _=>v=.i (bC V.an x.ev .line)):=by
 refine .eP 17 T.mix T.c148 ?_;intro ts hlen t0 t1;unfold fn148 gA;have RF:=@aC.box _ _ c.o;have hex:=@bw.box _ _ c.e;have i1:aS 1 x.sv (.i 1)=_:=(c.vl (i:=1) De).1;have d1:=@(c.vl (i:=1) De).2.1;refine Rs (A7 t0 t1 @RF @hex @aY @i1 @d1) ?_;refine WF.ce T.c94 (r94 T _ _ _) λg1=>?_
 refine Rs (A4 t0 t1 @fI c.o.i0.aJ) ?_;refine WF.ce T.c85 (r85 T _ _) λg2=>?_
 refine Rs (A2 t0 t1) ?_;refine WF.ce T.c74 (r74 T (cj [_,_]) Si) λg3=>?_
 refine Rs (A2 t0 t1) ?_;rw[ui,dO De,bC];congr 2;simp only[ZJ,aZ];congr 1;exact propext ⟨λz=>(by have:V.an.lines.length=V.lines.length:=rfl;omega),λz=>(by have:V.an.lines.length=V.lines.length:=rfl;omega)⟩
def r151{V x}(c:Cx h V x .tape):ay P 151 [.agg V.row,.agg x.row] h (λv _=>v=.i (bC V.an x.ev .tape)):=by
 refine .eP 23 T.mix T.c151 ?_;intro ts hlen t0 t1;unfold fn151;have RF:=@aC.box _ _ c.o;have hex:=@bw.box _ _ c.e;have i0:aS 1 x.sv (.i 0)=_:=(c.vl (i:=0) De).1;have d0:=@(c.vl (i:=0) De).2.1;have i1:aS 1 x.sv (.i 1)=_:=(c.vl (i:=1) De).1;have d1:=@(c.vl (i:=1) De).2.1;have q0:=(c.vl (i:=0) De).2.2;have q1:=(c.vl (i:=1) De).2.2;have hw:IntKind.i64.wrap (bH x.ev 0+bH x.ev 1)=bH x.ev 0+bH x.ev 1:=bu Om Om;refine Rs (lQ t0 t1 @RF @hex @aY @i0 @d0 @i1 @d1 @hw) ?_;refine WF.ce T.c85 (r85 T _ _) λg1=>?_
 refine Rs (A4 t0 t1 @jX c.o.i1.aJ) ?_;refine WF.ce T.c85 (r85 T _ _) λg2=>?_
 refine Rs (A2 t0 t1) ?_;refine WF.ce T.c74 (r74 T (cj [_,_]) Si) λg3=>?_
 refine Rs (A2 t0 t1) ?_;rw[dO De,dO De,bC];congr 1;simp only[ZJ,aZ];have e:((16:Int)<=(V.aB.length:Int))=(16<=V.an.aB.length):=propext ⟨λz=>(by have:V.an.aB.length=V.aB.length:=rfl;omega),λz=>(by have:V.an.aB.length=V.aB.length:=rfl;omega)⟩;simp only[e]
def r241{V x n d}(c:Cx h V x d)(hd:0<cC d)(hn:n∈jG V.an):ay P 241 [.agg V.row,.agg x.row,.str n] h (λv _=>v=.i (bZ (!fR V.an (bH x.ev 0) n) 30)):=by
 refine .nM 17 T.mix T.c241 ?_;intro ts hlen t0 t1 t2;unfold fn241 gA;have RF:=@aC.box _ _ c.o;have hex:=@bw.box _ _ c.e;have i0:aS 1 x.sv (.i 0)=_:=(c.vl (i:=0) hd).1;have d0:=@(c.vl (i:=0) hd).2.1;refine Rs (A6 t0 t1 t2 @RF @hex @aF) ?_;refine WF.ce T.c134 (r134 T (c.o.ext Xx) c.w.len hn) λg1=>?_
 refine Rs (A6 t0 t1 t2 @aY @i0 @d0) ?_;refine WF.ce T.c135 (r135 T _ _) λg2=>?_
 refine Rs (A3 t0 t1 t2) ?_;refine WF.ce T.c85 (r85 T _ _) λg3=>?_
 refine Rs (A3 t0 t1 t2) ?_;rfl
def r155{V x}(c:Cx h V x .gx):ay P 155 [.agg V.row,.agg x.row] h (λv _=>v=.i (bC V.an x.ev .gx)):=by
 refine .eP 27 T.mix T.c155 ?_;intro ts hlen t0 t1;unfold fn155;have RF:=@aC.box _ _ c.o;have hex:=@bw.box _ _ c.e;have i1:aS 1 x.sn (.i 1)=_:=(c.nm (i:=1) De).1;have d1:=@(c.nm (i:=1) De).2;have i2:aS 1 x.sn (.i 2)=_:=(c.nm (i:=2) De).1;have d2:=@(c.nm (i:=2) De).2;have k1:aM x.ev 1∈gP V.an:=c.nk.kn 1 0 rfl;have k2:aM x.ev 2∈jG V.an:=c.nk.kn 2 1 rfl;refine Rs (A8 t0 t1 @RF @hex @aF @aI @i1 @d1) ?_;refine WF.ce T.c205 (r205 T (c.o.ext Xx) c.w.len k1) λg1=>?_
 unfold bV;refine Rs (A2 t0 t1) ?_;refine WF.ce T.c85 (r85 T _ _) λg2=>?_
 refine Rs (A7 t0 t1 @aF @cp @aI @i2 @d2) ?_;refine WF.ce T.c241 (r241 T (c.ext Xx) De k2) λg3=>?_
 refine Rs (A4 t0 t1 @dy c.o.i2.aJ) ?_;refine WF.ce T.c85 (r85 T _ _) λg4=>?_
 refine Rs (A2 t0 t1) ?_;refine WF.ce T.c74 (r74 T (cj [_,_,_]) Si) λg5=>?_
 refine Rs (A2 t0 t1) ?_;rw[dO De,dO De,dO De,bC];simp only[ZJ,aZ];have e:((64:Int)<=(V.aj.length:Int))=(64<=V.an.aj.length):=by
  have:V.an.aj.length=V.aj.length:=by simp[RV.an]
  exact G5
 simp only[e]
end
def Bl{R a b}(ha:a∈jG R)(hb:b∈jG R):(decide ((gu R a).name=(gu R b).name)&&(decide ((gu R a).last=(gu R b).last)&&true))=decide (a=b):=by
 have e1:(gu R a).name=a:=gk ha;have e2:(gu R b).name=b:=gk hb;by_cases h:a=b
 ·subst h;simp
 ·rw[e1,e2];simp[h]
section
variable {P:Program}(T:fp P) {h:ah}
include T
def r157{V x}(c:Cx h V x .copy):ay P 157 [.agg V.row,.agg x.row] h (λv _=>v=.i (bC V.an x.ev .copy)):=by
 refine .eP 35 T.mix T.c157 ?_;intro ts hlen t0 t1;unfold fn157;have RF:=@aC.box _ _ c.o;have hex:=@bw.box _ _ c.e;have i0:aS 1 x.sn (.i 0)=_:=(c.nm (i:=0) De).1;have d0:=@(c.nm (i:=0) De).2;have i1:aS 1 x.sn (.i 1)=_:=(c.nm (i:=1) De).1;have d1:=@(c.nm (i:=1) De).2;have k0:aM x.ev 0∈jG V.an:=c.nk.kn 0 1 rfl;have k1:aM x.ev 1∈jG V.an:=c.nk.kn 1 1 rfl;refine Rs (A8 t0 t1 @RF @hex @aF @aI @i0 @d0) ?_;refine WF.ce T.c134 (r134 T (c.o.ext Xx) c.w.len k0) λg1=>?_
 refine Rs (A6 t0 t1 @aF @aI @i1 @d1) ?_;refine WF.ce T.c134 (r134 T (c.o.ext Xx) c.w.len k1) λg2=>?_
 unfold dt;refine Rs (A2 t0 t1) ?_;refine WF.ce T.c85 (r85 T _ _) λg3=>?_
 rw[Bl k0 k1];have n0:(gu V.an (aM x.ev 0)).name=aM x.ev 0:=gk k0;have n1:(gu V.an (aM x.ev 1)).name=aM x.ev 1:=gk k1;refine Rs (A6 t0 t1 @aF @cp @n0 @n1) ?_;refine WF.ce T.c241 (r241 T (c.ext Xx) De k0) λg4=>?_
 refine Rs (A6 t0 t1 @aF @cp @n0 @n1) ?_;refine WF.ce T.c241 (r241 T (c.ext Xx) De k1) λg5=>?_
 refine Rs (A2 t0 t1) ?_;refine WF.ce T.c74 (r74 T (cj [_,_,_]) Si) λg6=>?_
 refine Rs (A2 t0 t1) ?_;rw[dO De,dO De,dO De,bC];simp only[ZJ,aZ];exact⟨Xx,trivial⟩
def r161{V x}(o:aC h V)(e:bw h x):ay P 161 [.agg V.row,.agg x.row] h (λv _=>v=.i (bZ (decide (32<=V.an.aE.length)) 5)):=by
 refine .eP 10 T.mix T.c161 ?_;intro ts hlen t0 t1;unfold fn161 gA;have RF:=@aC.box _ _ o;have hex:=@bw.box _ _ e;refine Rs (A6 t0 t1 @RF @hex @fP o.i3.aJ) ?_;refine WF.ce T.c85 (r85 T _ _) λg1=>?_
 refine Rs (A2 t0 t1) ?_;have e:decide ((32:Int)<=(V.aE.length:Int))=decide (32<=V.an.aE.length):=by
  have:V.an.aE.length=V.aE.length:=by simp[RV.an]
  rw[aaI];omega
 rw[e]
def r244{V x d}(c:Cx h V x d)(hd:0<cC d){y}(hm:y∈V.aj){b b'}(hb:h[b]? =some (.b V.row))(hb':h[b']? =some (.b x.row)):
  ay P 244 [.agg (aX y),.ptr b 0,.ptr b' 0] h (λv _=>v=.bool (!cG V.an y.1 (bH x.ev 0))):=by
 refine .nM 13 T.mix T.c244 ?_;intro ts hlen t0 t1 t2;unfold fn244 gA;have oy:=(c.o.e2 y hm).one;have lb:∀{k:ah}{n:Option Nat}{a:Nat},Ext h k->aq n (.ptr b a) (λz=>k[z]?)=dE n a (.b V.row):=λe=>aA (e.some hb)
 have lc:∀{k:ah}{n:Option Nat}{a:Nat},Ext h k->aq n (.ptr b' a) (λz=>k[z]?)=dE n a (.b x.row):=λe=>aA (e.some hb')
 have i0:aS 1 x.sv (.i 0)=_:=(c.vl (i:=0) hd).1;have d0:=@(c.vl (i:=0) hd).2.1;have hsf:=λ(k:ah) (e:Ext h k)=>r76 T (c.o.ext e) c.w.len ((c.o.e2 y hm).ext e) (c.w.ue.sh y hm).2 (c.w.ue.sh y hm).1 (bH x.ev 0)
 unfold aX at t0 hsf;refine Rs (lQ t0 t1 t2 @oy @lb @lc @aF @aY @i0 @d0) ?_;refine WF.ce T.c76 (hsf _ Xx) λg1=>?_
 exact F3
def r159{V x}(c:Cx h V x .accept):ay P 159 [.agg V.row,.agg x.row] h (λv _=>v=.i (bC V.an x.ev .accept)):=by
 refine .eP 36 T.mix T.c159 ?_;intro ts hlen t0 t1;unfold fn159;have RF:=@aC.box _ _ c.o;have hex:=@bw.box _ _ c.e;have i0:aS 1 x.sn (.i 0)=_:=(c.nm (i:=0) De).1;have d0:=@(c.nm (i:=0) De).2;have k0:aM x.ev 0∈gP V.an:=c.nk.kn 0 0 rfl;refine Rs (A8 t0 t1 @RF @hex @aF @aI @i0 @d0) ?_;refine WF.ce T.c205 (r205 T (c.o.ext Xx) c.w.len k0) λg1=>?_
 unfold bV;refine Rs (A6 t0 t1 @aF @aI @i0 @d0) ?_;refine WF.res T.c206 (r206 T (c.o.ext Xx) c.w.len _) ?_;rintro s2 g2 Se;refine Rs (A2 t0 t1) ?_;have hin:∀y∈V.aj.filter (λy=>decide (y.1.line=aM x.ev 0)),y∈V.aj:=λy hy=>(aaa.1 hy).1
 have Sg:(V.aj.filter (λy=>decide (y.1.line=aM x.ev 0))).length<=V.aj.length:=ZD _ _;have T3:=c.w.len.l2;refine WF.res T.c243 (r243 T (Se.ext Xx) Om (λy=>!cG V.an y.1 (bH x.ev 0)) (λy hy k e=>bF.of (a:=[]) (c:=[.ptr h.length 0,.ptr (h++[ak.b V.row]).length 0]) T.c244 (r244 T (c.ext (Ext.trans Xx e)) De (hin y hy) (e.some ?_) (e.some ?_)))) ?_
 ·exact sF
 ·exact sG
 rintro _ g3 rfl;refine Rs (A2 t0 t1) ?_;refine WF.ce T.c85 (r85 T _ _) λg4=>?_
 have hl2:=Se.aJ;refine Rs (A3 t0 t1 @hl2) ?_;refine WF.ce T.c85 (r85 T _ _) λg5=>?_
 refine Rs (A2 t0 t1) ?_;refine WF.ce T.c85 (r85 T _ _) λg6=>?_
 refine Rs (A2 t0 t1) ?_;refine WF.ce T.c74 (r74 T (cj [_,_,_]) Si) λg7=>?_
 refine Rs (A2 t0 t1) ?_;rw[dO De,dO De,dO De,bC];have e1:(tZ V.an (aM x.ev 0))=(V.aj.filter (λy=>decide (y.1.line=aM x.ev 0))).map Prod.fst:=by
  show List.filter _ (List.map Prod.fst V.aj)=_;rw[aaM];rfl
 rw[e1,YY,List.any_map];simp only[ZJ,aZ];refine⟨Xx,?_⟩;rfl
def r163{V x}(c:Cx h V x .fW)(gl:Gl h):ay P 163 [.agg V.row,.agg x.row] h (λv _=>v=.i (bC V.an x.ev .fW)):=by
 refine .eP 35 T.mix T.c163 ?_;intro ts hlen t0 t1;unfold fn163;have RF:=@aC.box _ _ c.o;have hex:=@bw.box _ _ c.e;have i1:aS 1 x.sn (.i 1)=_:=(c.nm (i:=1) De).1;have d1:=@(c.nm (i:=1) De).2;have j1:aS 1 x.sv (.i 1)=_:=(c.vl (i:=1) De).1;have f1:=@(c.vl (i:=1) De).2.1;have k1:aM x.ev 1∈iC V.an:=c.nk.kn 1 3 rfl;obtain⟨gmu,gtl,hg0⟩:=gl;rw[bC];by_cases hn:1<=bH x.ev 1/\bH x.ev 1<=4
 case neg=>
  have hr:bg (bH x.ev 1) 1 4≠0:=by unfold bg;rw[Zb Om];decide
  rw[Zb hr];by_cases ha:bH x.ev 1<1
  ·have q1:decide (bH x.ev 1<1)=true:=YW ha;exact Rs (A8 t0 t1 @RF @hex @aY @j1 @f1 q1) Tv
  ·have q1:decide (bH x.ev 1<1)=false:=YS ha;have q2:decide (4<bH x.ev 1)=true:=YW Om;exact Rs (A9 t0 t1 @RF @hex @aY @j1 @f1 q1 q2) Tv
 have hr:¬bg (bH x.ev 1) 1 4≠0:=by unfold bg;rw[Y6 Om];decide
 rw[Y6 hr];have q1:decide (bH x.ev 1<1)=false:=YS Om;have q2:decide (4<bH x.ev 1)=false:=YS Om;have hw:IntKind.i64.wrap (bH x.ev 1-1)=bH x.ev 1-1:=bu Om Om;have a1:mL 4 2 (.ptr 0 0) (.i (bH x.ev 1-1))=some (.ptr 0 ((bH x.ev 1-1).toNat*2)):=by simp only[mL];rw[Zb Om,ZN]
 have a2:mL 2 1 (.ptr 0 ((bH x.ev 1-1).toNat*2)) (.i 0)=some (.ptr 0 ((bH x.ev 1-1).toNat*2)):=by simp[mL]
 have lg:∀{k:ah},Ext h k->aq none (.ptr 0 ((bH x.ev 1-1).toNat*2)) (λb=>k[b]?)=some (.str (mT (bH x.ev 1)),.au):=by
  intro k e;exact Qx
 refine Rs (Dk t0 t1 @RF @hex @aI @aY @j1 @f1 q1 q2 @aF @i1 @d1) ?_;refine WF.res T.c245 (r245 T (c.o.ext Xx) c.w.len k1) ?_;rintro _ g1 ⟨y,hy,Vj,rfl⟩;unfold aV;refine Rs (A6 t0 t1 @hw @a1 @a2 @lg) ?_;refine WF.ce T.c85 (r85 T _ _) λg2=>?_
 refine Rs (A4 t0 t1 @aF @cp) ?_;refine WF.ce T.c161 (r161 T (c.o.ext Xx) (c.e.ext Xx)) λg3=>?_
 refine Rs (A2 t0 t1) ?_;refine WF.ce T.c74 (r74 T (cj [_,_]) Si) λg4=>?_
 refine Rs (A2 t0 t1) ?_;rw[dO De,dO De,Vj];simp only[ZJ,aZ]
def r165{V x}(c:Cx h V x .merge):ay P 165 [.agg V.row,.agg x.row] h (λv _=>v=.i (bC V.an x.ev .merge)):=by
 refine .eP 36 T.mix T.c165 ?_;intro ts hlen t0 t1;unfold fn165;have RF:=@aC.box _ _ c.o;have hex:=@bw.box _ _ c.e;have i1:aS 1 x.sn (.i 1)=_:=(c.nm (i:=1) De).1;have d1:=@(c.nm (i:=1) De).2;have i2:aS 1 x.sn (.i 2)=_:=(c.nm (i:=2) De).1;have d2:=@(c.nm (i:=2) De).2;have k1:aM x.ev 1∈iC V.an:=c.nk.kn 1 3 rfl;have k2:aM x.ev 2∈iC V.an:=c.nk.kn 2 3 rfl;refine Rs (A9 t0 t1 @RF @hex @aI @i1 @d1 @i2 @d2) ?_;refine WF.ce T.c85 (r85 T _ _) λg1=>?_
 refine Rs (A6 t0 t1 @aF @aI @i1 @d1) ?_;refine WF.res T.c245 (r245 T (c.o.ext Xx) c.w.len k1) ?_;rintro _ g2 ⟨y,hy,Vj,rfl⟩;unfold aV;refine Rs (A6 t0 t1 @aF @aI @i2 @d2) ?_;refine WF.res T.c245 (r245 T (c.o.ext Xx) c.w.len k2) ?_;rintro _ g3 ⟨z,hz,hz1,rfl⟩;unfold aV;refine Rs (A2 t0 t1) ?_;refine WF.ce T.c85 (r85 T _ _) λg4=>?_
 refine Rs (A4 t0 t1 @aF @cp) ?_;refine WF.ce T.c161 (r161 T (c.o.ext Xx) (c.e.ext Xx)) λg5=>?_
 refine Rs (A2 t0 t1) ?_;refine WF.ce T.c74 (r74 T (cj [_,_,_]) Si) λg6=>?_
 refine Rs (A2 t0 t1) ?_;rw[dO De,dO De,dO De,bC,Vj,hz1];simp only[ZJ,aZ]
def r247(y:gZ):ay P 247 [.agg (bV y)] h (λv _=>v=.bool (!y.acc)):=by
 refine .of T.mix T.c247 ?_;unfold fn247 gA bV;exact Wn Tv
def r167{V x}(c:Cx h V x .run):ay P 167 [.agg V.row,.agg x.row] h (λv _=>v=.i (bC V.an x.ev .run)):=by
 refine .eP 27 T.mix T.c167 ?_;intro ts hlen t0 t1;unfold fn167 gA;have RF:=@aC.box _ _ c.o;have hex:=@bw.box _ _ c.e;have i1:aS 1 x.sn (.i 1)=_:=(c.nm (i:=1) De).1;have d1:=@(c.nm (i:=1) De).2;have j1:aS 1 x.sv (.i 1)=_:=(c.vl (i:=1) De).1;have f1:=@(c.vl (i:=1) De).2.1;have hin:∀y∈V.aE,y.1.bA.length<2^30:=λy hy=>by have:=(c.w.md y.1 (Zo hy)).2.1;omega
 refine Rs (A8 t0 t1 @RF @hex @aF @aI @i1 @d1) ?_;refine WF.res T.c122 (r122 T (c.o.ext Xx) c.w.len hin _) ?_;rintro s1 g1 TD;have hsl:(jd V.an (aM x.ev 1)).length<=V.lines.length:=ZD _ _;have T3:=c.w.len.l0;refine Rs (A2 t0 t1) ?_;refine WF.ce T.c246 (r246 T TD Om (λy=>!y.acc) (λy hy k e=>bF.of (a:=[]) (c:=[]) T.c247 (r247 T y))) λg2=>?_
 refine Rs (A2 t0 t1) ?_;refine WF.ce T.c85 (r85 T _ _) λg3=>?_
 refine Rs (A5 t0 t1 @aY @j1 @f1) ?_;refine WF.ce T.c94 (r94 T _ _ _) λg4=>?_
 refine Rs (A4 t0 t1 @gh c.o.i4.aJ) ?_;refine WF.ce T.c85 (r85 T _ _) λg5=>?_
 refine Rs (A2 t0 t1) ?_;refine WF.ce T.c74 (r74 T (cj [_,_,_]) Si) λg6=>?_
 refine Rs (A2 t0 t1) ?_;rw[dO De,ui,dO De,bC];simp only[ZJ,aZ];have e:((16:Int)<=(V.aG.length:Int))=(16<=V.an.aG.length):=by
  have:V.an.aG.length=V.aG.length:=by simp[RV.an]
  exact G5
 simp only[e]
end
theorem tn:∀{l m}{i},cW (l++m) i=cW l i++cW m (i+l.length)
 |[],m,i=>by simp[cW]
 |x::l,m,i=>by
  have e:i+1+l.length=i+(x::l).length:=by simp;omega
  rw[Z5,cW,cW,tn,e];split<;>simp
theorem j6:∀{l}{i},(cW l i).length<=l.length
 |[],i=>by simp[cW]
 |x::l,i=>by
  have:=j6 (l:=l) (i:=i+1);rw[cW];split<;>simp<;>omega
section
variable {P:Program}(T:fp P) {h:ah}
include T
def r125{x}(hx:aH h x.2 1 (x.1.bB.map aK))(hl:x.1.bB.length<2^30)(hs:∀s∈x.1.bB,-1<=s):ay P 125 [.agg (bO x)] h (λv h'=>aH h' v 1 ((cW x.1.bB 0).map aK)):=by
 refine .kU 23 T.mix T.c125 ?_;intro ts hlen t0;unfold fn125 gA;have ox:=hx.one;unfold bO at t0;refine Rs (A3 t0 @ox hx.aJ) ?_;obtain⟨H0,VS⟩:∃H0,H0=h++[ak.b [AV.str x.1.name,.str x.1.mod,x.2]]:=⟨_,rfl⟩;have e0:Ext h H0:=by rw[VS];exact Xx
 have lb:∀{k n a},Ext H0 k->aq n (.ptr h.length a) (λz=>k[z]?)=dE n a (.b [AV.str x.1.name,.str x.1.mod,x.2]):=λ{_ _ _} e=>aA (e.some (by rw[VS];exact a8))
 rw[<-VS];refine WL.inv T.mix (λn ts h'=>∃(k:Nat) (out:AV),k<=x.1.bB.length/\n=x.1.bB.length-k/\Ext H0 h'/\Fr H0.length h' out 1 ((cW (x.1.bB.take k) 0).map aK)/\
   ts.length=23/\slot ts 1=.ptr h.length 0/\slot ts 3=out/\slot ts 7=.i x.1.bB.length/\slot ts 8=.i k) x.1.bB.length
  ⟨0,.af,Om,rfl,Ext.refl _,.nil,Sn,(Sq t0),(Sq t0),(Sq t0),gM⟩ ?_
 rintro _ ts _ ⟨k,out,hk',rfl,⟨g,rfl⟩,hfr,hlen,t1,t3,t7,t8⟩;by_cases hlt:k<x.1.bB.length
 ·have e3:=ee hlt;have ix:=hx.dG (kk:=.i64) hlt;have ld:∀{k':ah},Ext H0 k'->aq none (cN x.2 1 k) (λb=>k'[b]?)=some (.i x.1.bB[k],.au):=λ{k'} e=>hx.kY hlt rfl (e0.trans e)
  have e5:=wrapN (n:=k) Om;have R4:cW (x.1.bB.take (k+1)) 0=cW (x.1.bB.take k) 0++(if x.1.bB[k]<0 then [(k:Int)]else []):=by
   exact z91
  have hsk:=hs _ (Za hlt);by_cases hn:x.1.bB[k]= -1
  ·have q:decide (x.1.bB[k]= -1)=true:=YW hn;rw[Zb Om]at R4;refine Rs (A9 t1 t3 t7 t8 e3 @lb ix @ld q) ?_;have T3:=j6 (l:=x.1.bB.take k) (i:=0);refine WR.fG (h0:=H0) (cs:=(cW (x.1.bB.take k) 0).map aK) (ys:=[aK (k:Int)]) (hfr.app _) (Fr.push (N:=0) (Zw _) [aK (k:Int)] Si).ba De Si (by simp only[YY,ZR,YV,YX]at T3 ⊢;omega) Xx ?_;intro g' RT hff hkp;have hrow:(cW (x.1.bB.take k) 0).map aK++[aK (k:Int)]=(cW (x.1.bB.take (k+1)) 0).map aK:=by rw[R4,Y5];rfl
   rw[hrow]at hff;rw[hrow];refine Rs (A5 t1 t3 t7 t8 e5) ?_;exact GX
  ·have q:decide (x.1.bB[k]= -1)=false:=YS hn;rw[Y6 Om,Zr]at R4;rw[<-R4]at hfr;refine Rs (lQ t1 t3 t7 t8 e3 @lb ix @ld q e5) ?_;exact⟨_,Om,k+1,_,Om,rfl,hfr,rfl,rfl⟩
 ·have e3:=fo hlt;have e4:k=x.1.bB.length:=Om
  rw[e4,ZA]at hfr;have:=hfr.ba;refine Rs (A5 t1 t3 t7 t8 e3) ?_;exact⟨e0.trans Xx,this⟩
def r249{V x d}(c:Cx h V x d)(hd:1<cC d)(h0:0<(bK d).length)(k0:aM x.ev 0∈iX V.an):ay P 249 [.agg V.row,.agg x.row] h (λv _=>v=.i (jT V.an x.ev)):=by
 refine .eP 28 T.mix T.c249 ?_;intro ts hlen t0 t1;unfold fn249;have RF:=@aC.box _ _ c.o;have hex:=@bw.box _ _ c.e;have i0:aS 1 x.sn (.i 0)=_:=(c.nm (i:=0) h0).1;have d0:=@(c.nm (i:=0) h0).2;have j1:aS 1 x.sv (.i 1)=_:=(c.vl (i:=1) hd).1;have f1:=@(c.vl (i:=1) hd).2.1;have q1:=(c.vl (i:=1) hd).2.2;refine Rs (A8 t0 t1 @RF @hex @aF @aI @i0 @d0) ?_;refine WF.ce T.c251 (r251 T (c.o.ext Xx) c.w.len _) λg1=>?_
 refine Rs (A2 t0 t1) ?_;refine WF.ce T.c85 (r85 T _ _) λg2=>?_
 refine Rs (A9 t0 t1 @aY @j1 @f1 @aF @aI @i0 @d0) ?_;refine WF.res T.c124 (r124 T (c.o.ext Xx) c.w.len k0) ?_;rintro _ g3 ⟨y,hy,Vj,rfl⟩;have S2:=(c.o.e4 y hy).aJ;have UE:=(c.w.jb y.1 (Zo hy)).2;have hw:IntKind.i64.wrap ((y.1.bB.length:Int)-1)=(y.1.bB.length:Int)-1:=bu Om Om;unfold bO;refine Rs (A4 t0 t1 @S2 @hw) ?_;refine WF.ce T.c94 (r94 T _ _ _) λg4=>?_
 refine Rs (A2 t0 t1) ?_;refine WF.ce T.c74 (r74 T (cj [_,_]) Si) λg5=>?_
 refine Rs (A2 t0 t1) ?_;rw[dO De,ui,jT,<-Vj];have e:(bg (bH x.ev 1) 0 ((y.1.bB.length:Int)-1)≠0)=((y.1.bB.length:Int)<=bH x.ev 1):=by
  unfold bg;refine propext ⟨λz=>?_,λz=>?_⟩
  ·split at z
   ·omega
   ·exact absurd rfl z
  ·rw[Zb Om];decide
 simp only[e,aZ]
def r169{V x}(c:Cx h V x .fV):ay P 169 [.agg V.row,.agg x.row] h (λv _=>v=.i (bC V.an x.ev .fV)):=by
 refine .eP 27 T.mix T.c169 ?_;intro ts hlen t0 t1;unfold fn169 gA;have RF:=@aC.box _ _ c.o;have hex:=@bw.box _ _ c.e;have i0:aS 1 x.sn (.i 0)=_:=(c.nm (i:=0) De).1;have d0:=@(c.nm (i:=0) De).2;have j1:aS 1 x.sv (.i 1)=_:=(c.vl (i:=1) De).1;have f1:=@(c.vl (i:=1) De).2.1;have q1:=(c.vl (i:=1) De).2.2;have k0:aM x.ev 0∈iX V.an:=c.nk.kn 0 4 rfl;refine Rs (A6 t0 t1 @RF @hex @aF @cp) ?_;refine WF.ce T.c249 (r249 T (c.ext Xx) De De k0) λg1=>?_
 by_cases hb:jT V.an x.ev=0
 case neg=>
  exact Km
 have e1:decide (jT V.an x.ev≠0)=false:=YS (λz=>z hb);refine Rs (A7 t0 t1 e1 @aF @aI @i0 @d0) ?_;refine WF.res T.c124 (r124 T (c.o.ext Xx) c.w.len k0) ?_;rintro _ g2 ⟨y,hy,Vj,rfl⟩;have UE:=(c.w.jb y.1 (Zo hy)).2;have hlt:(bH x.ev 1).toNat<y.1.bB.length:=by
  exact J6
 have Xi:bH x.ev 1=((bH x.ev 1).toNat:Int):=Om
 have iy:aS 1 y.2 (.i (bH x.ev 1))=some (cN y.2 1 (bH x.ev 1).toNat,.au):=by
  rw[Xi];exact(c.o.e4 y hy).dG hlt
 have hsm:fH V.an x.ev=y.1.bB[(bH x.ev 1).toNat]:=by
  exact z156
 have ly:∀{k:ah},Ext h k->aq none (cN y.2 1 (bH x.ev 1).toNat) (λb=>k[b]?)=some (.i (fH V.an x.ev),.au):=λ{k} e=>by
  rw[hsm];exact(c.o.e4 y hy).kY hlt rfl e
 have hsb:=UE.2.2 _ (Za hlt);rw[<-hsm]at hsb;unfold bO;refine Rs (A7 t0 t1 @aY @j1 @f1 @iy @ly) ?_;refine WF.ce T.c85 (r85 T _ _) λg3=>?_
 refine Rs (A2 t0 t1) ?_;rw[bC,Y6 (λz=>z hb),bZ];have e2:(decide (fH V.an x.ev≠-1)=true)=(0<=fH V.an x.ev):=by
  exact z164
 simp only[e2]
def r171{V x}(c:Cx h V x .fail):ay P 171 [.agg V.row,.agg x.row] h (λv _=>v=.i (bC V.an x.ev .fail)):=by
 refine .eP 27 T.mix T.c171 ?_;intro ts hlen t0 t1;unfold fn171;have RF:=@aC.box _ _ c.o;have hex:=@bw.box _ _ c.e;have i0:aS 1 x.sn (.i 0)=_:=(c.nm (i:=0) De).1;have d0:=@(c.nm (i:=0) De).2;have j1:aS 1 x.sv (.i 1)=_:=(c.vl (i:=1) De).1;have f1:=@(c.vl (i:=1) De).2.1;have q1:=(c.vl (i:=1) De).2.2;have k0:aM x.ev 0∈iX V.an:=c.nk.kn 0 4 rfl;refine Rs (A6 t0 t1 @RF @hex @aF @cp) ?_;refine WF.ce T.c249 (r249 T (c.ext Xx) De De k0) λg1=>?_
 by_cases hb:jT V.an x.ev=0
 case neg=>
  exact Km
 have e1:decide (jT V.an x.ev≠0)=false:=YS (λz=>z hb);refine Rs (A7 t0 t1 e1 @aF @aI @i0 @d0) ?_;refine WF.res T.c124 (r124 T (c.o.ext Xx) c.w.len k0) ?_;rintro _ g2 ⟨y,hy,Vj,rfl⟩;have UE:=(c.w.jb y.1 (Zo hy)).2;have hlt:(bH x.ev 1).toNat<y.1.bB.length:=by
  exact J6
 have Xi:bH x.ev 1=((bH x.ev 1).toNat:Int):=Om
 have iy:aS 1 y.2 (.i (bH x.ev 1))=some (cN y.2 1 (bH x.ev 1).toNat,.au):=by
  rw[Xi];exact(c.o.e4 y hy).dG hlt
 have hsm:fH V.an x.ev=y.1.bB[(bH x.ev 1).toNat]:=by
  exact z156
 have ly:∀{k:ah},Ext h k->aq none (cN y.2 1 (bH x.ev 1).toNat) (λb=>k[b]?)=some (.i (fH V.an x.ev),.au):=λ{k} e=>by
  rw[hsm];exact(c.o.e4 y hy).kY hlt rfl e
 have hsb:=UE.2.2 _ (Za hlt);rw[<-hsm]at hsb;unfold bO;refine Rs (A7 t0 t1 @aY @j1 @f1 @iy @ly) ?_;refine WF.ce T.c85 (r85 T _ _) λg3=>?_
 refine Rs (A2 t0 t1) ?_;rw[bC,Y6 (λz=>z hb),bZ];have e2:(decide (fH V.an x.ev= -1)=true)=(fH V.an x.ev<0):=by
  exact z164
 simp only[e2]
def r173{V x}(c:Cx h V x .gy):ay P 173 [.agg V.row,.agg x.row] h (λv _=>v=.i (bC V.an x.ev .gy)):=by
 refine .eP 31 T.mix T.c173 ?_;intro ts hlen t0 t1;unfold fn173;have RF:=@aC.box _ _ c.o;have hex:=@bw.box _ _ c.e;have i1:aS 1 x.sn (.i 1)=_:=(c.nm (i:=1) De).1;have d1:=@(c.nm (i:=1) De).2;have k1:aM x.ev 1∈iX V.an:=c.nk.kn 1 4 rfl;refine Rs (A8 t0 t1 @RF @hex @aF @aI @i1 @d1) ?_;refine WF.res T.c124 (r124 T (c.o.ext Xx) c.w.len k1) ?_;rintro _ g1 ⟨y,hy,Vj,rfl⟩;have UE:=(c.w.jb y.1 (Zo hy)).2;refine Rs (A2 t0 t1) ?_;refine WF.res T.c125 (r125 T (x:=y) ((c.o.e4 y hy).ext Xx) Om (λs hs=>(UE.2.2 s hs).1)) ?_;rintro s2 g2 Se;have hl2:=Se.aJ;refine Rs (A6 t0 t1 @aF @aI @i1 @d1) ?_
 refine WF.ce T.c251 (r251 T (c.o.ext Xx) c.w.len _) λg3=>?_
 refine Rs (A2 t0 t1) ?_;refine WF.ce T.c85 (r85 T _ _) λg4=>?_
 refine Rs (A3 t0 t1 @hl2) ?_;refine WF.ce T.c85 (r85 T _ _) λg5=>?_
 refine Rs (A4 t0 t1 @iG c.o.i5.aJ) ?_;refine WF.ce T.c85 (r85 T _ _) λg6=>?_
 refine Rs (A2 t0 t1) ?_;refine WF.ce T.c74 (r74 T (cj [_,_,_]) Si) λg7=>?_
 refine Rs (A2 t0 t1) ?_;rw[dO De,dO De,dO De,bC,<-Vj];have e1:(decide ((0:Int)<((cW y.1.bB 0).length:Int))=true)=(cW y.1.bB 0≠[]):=by
  rw[ZJ];refine propext ⟨λz e=>by rw[e]at z;simp at z,λz=>by have:=aaQ.2 z;omega⟩
 have e2:(decide ((16:Int)<=(V.aN.length:Int))=true)=(16<=V.an.aN.length):=by
  rw[ZJ];have:V.an.aN.length=V.aN.length:=rfl;exact G5
 simp only[e1,e2,aZ];exact⟨Xx,trivial⟩
def r175{V x}(c:Cx h V x .rel):ay P 175 [.agg V.row,.agg x.row] h (λv _=>v=.i (bC V.an x.ev .rel)):=by
 refine .eP 13 T.mix T.c175 ?_;intro ts hlen t0 t1;unfold fn175 gA;have RF:=@aC.box _ _ c.o;have hex:=@bw.box _ _ c.e;have i0:aS 1 x.sn (.i 0)=_:=(c.nm (i:=0) De).1;have d0:=@(c.nm (i:=0) De).2;have k0:aM x.ev 0∈lh V.an:=c.nk.kn 0 5 rfl;refine Rs (A8 t0 t1 @RF @hex @aF @aI @i0 @d0) ?_;refine WF.ce T.c218 (r218 T (c.o.ext Xx) c.w.len k0) λg1=>?_
 unfold dh;refine Rs (A2 t0 t1) ?_;refine WF.ce T.c85 (r85 T _ _) λg2=>?_
 refine Rs (A2 t0 t1) ?_;rw[bC,bZ]
def PY{V x d}(hd:d≠.eF)(c:Cx h V x d)(gl:Gl h):bF P (j7 d) [.agg V.row,.agg x.row] h (λv _=>v=.i (bC V.an x.ev d)):=by
 cases d with
 |eF=>exact absurd rfl hd
 |line=>exact bF.of (a:=[]) (c:=[]) T.c148 (r148 T c)
 |tape=>exact bF.of (a:=[]) (c:=[]) T.c151 (r151 T c)
 |gx=>exact bF.of (a:=[]) (c:=[]) T.c155 (r155 T c)
 |copy=>exact bF.of (a:=[]) (c:=[]) T.c157 (r157 T c)
 |accept=>exact bF.of (a:=[]) (c:=[]) T.c159 (r159 T c)
 |source=>
  refine bF.of (a:=[]) (c:=[]) T.c161 ((r161 T c.o c.e).mono λv g hv=>?_);rw[hv,bC,bZ];simp only[ZJ]
 |fW=>exact bF.of (a:=[]) (c:=[]) T.c163 (r163 T c gl)
 |merge=>exact bF.of (a:=[]) (c:=[]) T.c165 (r165 T c)
 |run=>exact bF.of (a:=[]) (c:=[]) T.c167 (r167 T c)
 |fV=>exact bF.of (a:=[]) (c:=[]) T.c169 (r169 T c)
 |fail=>exact bF.of (a:=[]) (c:=[]) T.c171 (r171 T c)
 |gy=>exact bF.of (a:=[]) (c:=[]) T.c173 (r173 T c)
 |rel=>exact bF.of (a:=[]) (c:=[]) T.c175 (r175 T c)
end
def jg{l1 l2:List (Option Nat)}{a y:Option Nat}(h:y∈l1\/y∈l2):y∈l1++a::l2:=by rcases h with h|h<;>simp[h]
def vH{l1 l2:List (Option Nat)}{a y:Option Nat}(h:y∈l1++a::l2):y∈l1\/y=a\/y∈l2:=by simpa using h
def lq.xN{l1 l2 a x}(h:lq (l1++a::l2))(hx:∀i,x=some i->a=some i\/((∀y∈l1,y≠some i)/\∀y∈l2,y≠some i)):lq (l1++x::l2):=by
 obtain⟨h1,h2,h3⟩:=aab.1 h;obtain⟨h4,h5⟩:=Z0.1 h2;refine aab.2 ⟨h1,Z0.2 ⟨λy hy b hb=>?_,h5⟩,λy hy z hz b hb=>?_⟩
 ·rcases hx b hb with ha|⟨_,ha⟩
  ·exact h4 y hy b ha
  ·exact ha y hy
 ·rcases ZC.1 hz with rfl|hz
  ·intro e;rcases hx b e with ha|⟨ha,_⟩
   ·exact h3 y hy a Si b hb ha
   ·exact ha y hy hb
  ·exact h3 y hy z (ZG _ hz) b hb
def lq.ins{l1 l2 x}(h:lq (l1++l2))(hx:∀i,x=some i->(∀y∈l1,y≠some i)/\∀y∈l2,y≠some i):lq (l1++x::l2):=by
 obtain⟨h1,h2,h3⟩:=aab.1 h;refine aab.2 ⟨h1,Z0.2 ⟨λy hy b hb=>(hx b hb).2 y hy,h2⟩,λy hy z hz b hb=>?_⟩;rcases ZC.1 hz with rfl|hz
 ·exactλe=>(hx b e).1 y hy hb
 ·exact h3 y hy z hz b hb
structure bY(N:Nat)(h:ah)(b:Nat)(V:RV):Prop where
 o:cH N h V
 hN:N<=b
 m:h[b]? =some (.b V.row)
 ne:some b∉V.bl
def bY.lt{N h b V}(r:bY N h b V):b<h.length:=(YQ.1 r.m).1
theorem bY.app{N h b V}(r:bY N h b V)(g:ah):bY N (h++g) b V:=⟨r.o.app g,r.hN,(Ext.app g (Ext.refl h)).some r.m,r.ne⟩
section
variable {N b:Nat}{h k:ah}{V:RV}
def bY.Nb(r:bY N h b V){s:AV}{L:List gZ}(hs:Fr N k s 3 (L.map bV))(hn:∀i,sB s=some i->sB V.s0=some i\/h.length<=i)(hm:k[b]? =some (.cells {V with lines:=L,s0:=s}.row true false))
  (hk:∀i,i<h.length->sB V.s0≠some i->i≠b->k[i]? =h[i]?):bY N k b {V with lines:=L,s0:=s}:=by
 have hd:V.bl=[]++sB V.s0:: ([sB V.s1,sB V.s2,sB V.s3,sB V.s4,sB V.s5]++(V.aj.map λx=>sB x.2)++(V.aE.map λx=>sB x.2)++(V.aG.map λx=>sB x.2)):=rfl;have hin:∀i,some i∈V.bl->N<=i/\i<h.length:=λi hi=>r.o.dR hi
 have SC:=r.o.di;rw[hd]at SC;have au:∀i,(some i∈[]\/some i∈([sB V.s1,sB V.s2,sB V.s3,sB V.s4,sB V.s5]++(V.aj.map λx=>sB x.2)++(V.aE.map λx=>sB x.2)++(V.aG.map λx=>sB x.2)))->k[i]? =h[i]? :=λi hi=>by
  exact z7
 have own:cH N k {V with lines:=L,s0:=s}:=by
  refine⟨hs,(r.o.i1.aD λi hi=>au i (.inr (by rw[<-hi];simp))),(r.o.i2.aD λi hi=>au i (.inr (by rw[<-hi];simp))),(r.o.i3.aD λi hi=>au i (.inr (by rw[<-hi];simp))),(r.o.i4.aD λi hi=>au i (.inr (by rw[<-hi];simp))),(r.o.i5.aD λi hi=>au i (.inr (by rw[<-hi];simp))),(λx hx=>(r.o.e2 x hx).aD λi hi=>au i (.inr (by rw[<-hi];simp only[YZ,Zv];exact .inl (.inl (.inr ⟨x,hx,rfl⟩))))),(λx hx=>(r.o.e3 x hx).aD λi hi=>au i (.inr (by rw[<-hi];simp only[YZ,Zv];exact .inl (.inr ⟨x,hx,rfl⟩)))),(λx hx=>(r.o.e4 x hx).aD λi hi=>au i (.inr (by rw[<-hi];simp only[YZ,Zv];exact .inr ⟨x,hx,rfl⟩))),?_⟩;have hx:∀i,sB s=some i->sB V.s0=some i\/((∀y∈[],y≠some i)/\∀y∈([sB V.s1,sB V.s2,sB V.s3,sB V.s4,sB V.s5]++(V.aj.map λx=>sB x.2)++(V.aE.map λx=>sB x.2)++(V.aG.map λx=>sB x.2)),y≠some i):=λi hi=>by
   exact z9
  exact SC.xN hx
 refine⟨own,r.hN,hm,λhb=>?_⟩;have hbl:=r.lt;have T4:=r.ne;rw[hd]at T4;have e:{V with lines:=L,s0:=s}.bl=[]++sB s:: ([sB V.s1,sB V.s2,sB V.s3,sB V.s4,sB V.s5]++(V.aj.map λx=>sB x.2)++(V.aE.map λx=>sB x.2)++(V.aG.map λx=>sB x.2)):=rfl;exact z28
def bY.Q1(r:bY N h b V){s:AV}{L:List qH}(hs:Fr N k s 2 (L.map dt))(hn:∀i,sB s=some i->sB V.s1=some i\/h.length<=i)(hm:k[b]? =some (.cells {V with aB:=L,s1:=s}.row true false))
  (hk:∀i,i<h.length->sB V.s1≠some i->i≠b->k[i]? =h[i]?):bY N k b {V with aB:=L,s1:=s}:=by
 have hd:V.bl=[sB V.s0]++sB V.s1:: ([sB V.s2,sB V.s3,sB V.s4,sB V.s5]++(V.aj.map λx=>sB x.2)++(V.aE.map λx=>sB x.2)++(V.aG.map λx=>sB x.2)):=rfl;have hin:∀i,some i∈V.bl->N<=i/\i<h.length:=λi hi=>r.o.dR hi
 have SC:=r.o.di;rw[hd]at SC;have au:∀i,(some i∈[sB V.s0]\/some i∈([sB V.s2,sB V.s3,sB V.s4,sB V.s5]++(V.aj.map λx=>sB x.2)++(V.aE.map λx=>sB x.2)++(V.aG.map λx=>sB x.2)))->k[i]? =h[i]? :=λi hi=>by
  exact z7
 have own:cH N k {V with aB:=L,s1:=s}:=by
  refine⟨(r.o.i0.aD λi hi=>au i (.inl (by rw[<-hi];simp))),hs,(r.o.i2.aD λi hi=>au i (.inr (by rw[<-hi];simp))),(r.o.i3.aD λi hi=>au i (.inr (by rw[<-hi];simp))),(r.o.i4.aD λi hi=>au i (.inr (by rw[<-hi];simp))),(r.o.i5.aD λi hi=>au i (.inr (by rw[<-hi];simp))),(λx hx=>(r.o.e2 x hx).aD λi hi=>au i (.inr (by rw[<-hi];simp only[YZ,Zv];exact .inl (.inl (.inr ⟨x,hx,rfl⟩))))),(λx hx=>(r.o.e3 x hx).aD λi hi=>au i (.inr (by rw[<-hi];simp only[YZ,Zv];exact .inl (.inr ⟨x,hx,rfl⟩)))),(λx hx=>(r.o.e4 x hx).aD λi hi=>au i (.inr (by rw[<-hi];simp only[YZ,Zv];exact .inr ⟨x,hx,rfl⟩))),?_⟩;have hx:∀i,sB s=some i->sB V.s1=some i\/((∀y∈[sB V.s0],y≠some i)/\∀y∈([sB V.s2,sB V.s3,sB V.s4,sB V.s5]++(V.aj.map λx=>sB x.2)++(V.aE.map λx=>sB x.2)++(V.aG.map λx=>sB x.2)),y≠some i):=λi hi=>by
   exact z9
  exact SC.xN hx
 refine⟨own,r.hN,hm,λhb=>?_⟩;have hbl:=r.lt;have T4:=r.ne;rw[hd]at T4;have e:{V with aB:=L,s1:=s}.bl=[sB V.s0]++sB s:: ([sB V.s2,sB V.s3,sB V.s4,sB V.s5]++(V.aj.map λx=>sB x.2)++(V.aE.map λx=>sB x.2)++(V.aG.map λx=>sB x.2)):=rfl;exact z28
def bY.Q0(r:bY N h b V){s t:AV}{y:gN}(hs:Fr N k s 3 ((V.aj++[(y,t)]).map aX))(ht:Fr N k t 1 (y.aB.map ao))(hn:∀i,sB s=some i->sB V.s2=some i\/h.length<=i)(hnt:∀i,sB t=some i->h.length<=i/\sB s≠some i)
  (hm:k[b]? =some (.cells {V with aj:=V.aj++[(y,t)],s2:=s}.row true false))
  (hk:∀i,i<h.length->sB V.s2≠some i->i≠b->k[i]? =h[i]?):bY N k b {V with aj:=V.aj++[(y,t)],s2:=s}:=by
 have hd:V.bl=[sB V.s0,sB V.s1]++sB V.s2:: ([sB V.s3,sB V.s4,sB V.s5]++(V.aj.map λx=>sB x.2)++(V.aE.map λx=>sB x.2)++(V.aG.map λx=>sB x.2)):=rfl;have hin:∀i,some i∈V.bl->N<=i/\i<h.length:=λi hi=>r.o.dR hi
 have SC:=r.o.di;rw[hd]at SC;have au:∀i,(some i∈[sB V.s0,sB V.s1]\/some i∈([sB V.s3,sB V.s4,sB V.s5]++(V.aj.map λx=>sB x.2)++(V.aE.map λx=>sB x.2)++(V.aG.map λx=>sB x.2)))->k[i]? =h[i]? :=λi hi=>by
  exact z7
 have own:cH N k {V with aj:=V.aj++[(y,t)],s2:=s}:=by
  refine⟨(r.o.i0.aD λi hi=>au i (.inl (by rw[<-hi];simp))),(r.o.i1.aD λi hi=>au i (.inl (by rw[<-hi];simp))),hs,(r.o.i3.aD λi hi=>au i (.inr (by rw[<-hi];simp))),(r.o.i4.aD λi hi=>au i (.inr (by rw[<-hi];simp))),(r.o.i5.aD λi hi=>au i (.inr (by rw[<-hi];simp))),(λx hx=>by
   rcases YZ.1 hx with hx|hx
   ·exact(r.o.e2 x hx).aD λi hi=>au i (.inr (by rw[<-hi];simp only[YZ,Zv];exact .inl (.inl (.inr ⟨x,hx,rfl⟩))))
   ·rw[Zm]at hx;subst hx;exact ht),(λx hx=>(r.o.e3 x hx).aD λi hi=>au i (.inr (by rw[<-hi];simp only[YZ,Zv];exact .inl (.inr ⟨x,hx,rfl⟩)))),(λx hx=>(r.o.e4 x hx).aD λi hi=>au i (.inr (by rw[<-hi];simp only[YZ,Zv];exact .inr ⟨x,hx,rfl⟩))),?_⟩
  have hx:∀i,sB s=some i->sB V.s2=some i\/((∀y∈[sB V.s0,sB V.s1],y≠some i)/\∀y∈([sB V.s3,sB V.s4,sB V.s5]++(V.aj.map λx=>sB x.2)++(V.aE.map λx=>sB x.2)++(V.aG.map λx=>sB x.2)),y≠some i):=λi hi=>by
   exact z9
  have h1:=SC.xN hx;have h2:lq (([sB V.s0,sB V.s1,sB s,sB V.s3,sB V.s4,sB V.s5]++(V.aj.map λx=>sB x.2))++((V.aE.map λx=>sB x.2)++(V.aG.map λx=>sB x.2))):=by
   have:[sB V.s0,sB V.s1]++sB s:: ([sB V.s3,sB V.s4,sB V.s5]++(V.aj.map λx=>sB x.2)++(V.aE.map λx=>sB x.2)++(V.aG.map λx=>sB x.2))=([sB V.s0,sB V.s1,sB s,sB V.s3,sB V.s4,sB V.s5]++(V.aj.map λx=>sB x.2))++((V.aE.map λx=>sB x.2)++(V.aG.map λx=>sB x.2)):=Si
   rw[<-this];exact h1
  have h3:=h2.ins (x:=sB t) (λi hi=>by
   obtain⟨n1,n2⟩:=hnt i hi;refine⟨λy hy e=>?_,λy hy e=>?_⟩
   ·exact NB
   ·subst e;have:=(hin i (by rw[hd];simp only[YZ,ZC,ZY,aay]at hy ⊢<;>grind)).2;omega)
  have:{V with aj:=V.aj++[(y,t)],s2:=s}.bl=([sB V.s0,sB V.s1,sB s,sB V.s3,sB V.s4,sB V.s5]++(V.aj.map λx=>sB x.2))++sB t:: ((V.aE.map λx=>sB x.2)++(V.aG.map λx=>sB x.2)):=by
   simp[RV.bl]
  rw[this];exact h3
 exact NH
def bY.QZ(r:bY N h b V){s t:AV}{y:iE}(hs:Fr N k s 4 ((V.aE++[(y,t)]).map aV))(ht:Fr N k t 1 (y.bA.map ao))(hn:∀i,sB s=some i->sB V.s3=some i\/h.length<=i)(hnt:∀i,sB t=some i->h.length<=i/\sB s≠some i)
  (hm:k[b]? =some (.cells {V with aE:=V.aE++[(y,t)],s3:=s}.row true false))
  (hk:∀i,i<h.length->sB V.s3≠some i->i≠b->k[i]? =h[i]?):bY N k b {V with aE:=V.aE++[(y,t)],s3:=s}:=by
 have hd:V.bl=[sB V.s0,sB V.s1,sB V.s2]++sB V.s3:: ([sB V.s4,sB V.s5]++(V.aj.map λx=>sB x.2)++(V.aE.map λx=>sB x.2)++(V.aG.map λx=>sB x.2)):=rfl;have hin:∀i,some i∈V.bl->N<=i/\i<h.length:=λi hi=>r.o.dR hi
 have SC:=r.o.di;rw[hd]at SC;have au:∀i,(some i∈[sB V.s0,sB V.s1,sB V.s2]\/some i∈([sB V.s4,sB V.s5]++(V.aj.map λx=>sB x.2)++(V.aE.map λx=>sB x.2)++(V.aG.map λx=>sB x.2)))->k[i]? =h[i]? :=λi hi=>by
  exact z7
 have own:cH N k {V with aE:=V.aE++[(y,t)],s3:=s}:=by
  refine⟨(r.o.i0.aD λi hi=>au i (.inl (by rw[<-hi];simp))),(r.o.i1.aD λi hi=>au i (.inl (by rw[<-hi];simp))),(r.o.i2.aD λi hi=>au i (.inl (by rw[<-hi];simp))),hs,(r.o.i4.aD λi hi=>au i (.inr (by rw[<-hi];simp))),(r.o.i5.aD λi hi=>au i (.inr (by rw[<-hi];simp))),(λx hx=>(r.o.e2 x hx).aD λi hi=>au i (.inr (by rw[<-hi];simp only[YZ,Zv];exact .inl (.inl (.inr ⟨x,hx,rfl⟩))))),(λx hx=>by
   rcases YZ.1 hx with hx|hx
   ·exact(r.o.e3 x hx).aD λi hi=>au i (.inr (by rw[<-hi];simp only[YZ,Zv];exact .inl (.inr ⟨x,hx,rfl⟩)))
   ·rw[Zm]at hx;subst hx;exact ht),(λx hx=>(r.o.e4 x hx).aD λi hi=>au i (.inr (by rw[<-hi];simp only[YZ,Zv];exact .inr ⟨x,hx,rfl⟩))),?_⟩
  have hx:∀i,sB s=some i->sB V.s3=some i\/((∀y∈[sB V.s0,sB V.s1,sB V.s2],y≠some i)/\∀y∈([sB V.s4,sB V.s5]++(V.aj.map λx=>sB x.2)++(V.aE.map λx=>sB x.2)++(V.aG.map λx=>sB x.2)),y≠some i):=λi hi=>by
   exact z9
  have h1:=SC.xN hx;have h2:lq (([sB V.s0,sB V.s1,sB V.s2,sB s,sB V.s4,sB V.s5]++(V.aj.map λx=>sB x.2)++(V.aE.map λx=>sB x.2))++((V.aG.map λx=>sB x.2))):=by
   have:[sB V.s0,sB V.s1,sB V.s2]++sB s:: ([sB V.s4,sB V.s5]++(V.aj.map λx=>sB x.2)++(V.aE.map λx=>sB x.2)++(V.aG.map λx=>sB x.2))=([sB V.s0,sB V.s1,sB V.s2,sB s,sB V.s4,sB V.s5]++(V.aj.map λx=>sB x.2)++(V.aE.map λx=>sB x.2))++((V.aG.map λx=>sB x.2)):=Si
   rw[<-this];exact h1
  have h3:=h2.ins (x:=sB t) (λi hi=>by
   obtain⟨n1,n2⟩:=hnt i hi;refine⟨λy hy e=>?_,λy hy e=>?_⟩
   ·exact NB
   ·subst e;have:=(hin i (by rw[hd];simp only[YZ,ZC,ZY,aay]at hy ⊢<;>grind)).2;omega)
  have:{V with aE:=V.aE++[(y,t)],s3:=s}.bl=([sB V.s0,sB V.s1,sB V.s2,sB s,sB V.s4,sB V.s5]++(V.aj.map λx=>sB x.2)++(V.aE.map λx=>sB x.2))++sB t:: ((V.aG.map λx=>sB x.2)):=by
   simp[RV.bl]
  rw[this];exact h3
 exact NH
def bY.QY(r:bY N h b V){s t:AV}{y:k9}(hs:Fr N k s 3 ((V.aG++[(y,t)]).map bO))(ht:Fr N k t 1 (y.bB.map aK))(hn:∀i,sB s=some i->sB V.s4=some i\/h.length<=i)(hnt:∀i,sB t=some i->h.length<=i/\sB s≠some i)
  (hm:k[b]? =some (.cells {V with aG:=V.aG++[(y,t)],s4:=s}.row true false))
  (hk:∀i,i<h.length->sB V.s4≠some i->i≠b->k[i]? =h[i]?):bY N k b {V with aG:=V.aG++[(y,t)],s4:=s}:=by
 have hd:V.bl=[sB V.s0,sB V.s1,sB V.s2,sB V.s3]++sB V.s4:: ([sB V.s5]++(V.aj.map λx=>sB x.2)++(V.aE.map λx=>sB x.2)++(V.aG.map λx=>sB x.2)):=rfl;have hin:∀i,some i∈V.bl->N<=i/\i<h.length:=λi hi=>r.o.dR hi
 have SC:=r.o.di;rw[hd]at SC;have au:∀i,(some i∈[sB V.s0,sB V.s1,sB V.s2,sB V.s3]\/some i∈([sB V.s5]++(V.aj.map λx=>sB x.2)++(V.aE.map λx=>sB x.2)++(V.aG.map λx=>sB x.2)))->k[i]? =h[i]? :=λi hi=>by
  exact z7
 have own:cH N k {V with aG:=V.aG++[(y,t)],s4:=s}:=by
  refine⟨(r.o.i0.aD λi hi=>au i (.inl (by rw[<-hi];simp))),(r.o.i1.aD λi hi=>au i (.inl (by rw[<-hi];simp))),(r.o.i2.aD λi hi=>au i (.inl (by rw[<-hi];simp))),(r.o.i3.aD λi hi=>au i (.inl (by rw[<-hi];simp))),hs,(r.o.i5.aD λi hi=>au i (.inr (by rw[<-hi];simp))),(λx hx=>(r.o.e2 x hx).aD λi hi=>au i (.inr (by rw[<-hi];simp only[YZ,Zv];exact .inl (.inl (.inr ⟨x,hx,rfl⟩))))),(λx hx=>(r.o.e3 x hx).aD λi hi=>au i (.inr (by rw[<-hi];simp only[YZ,Zv];exact .inl (.inr ⟨x,hx,rfl⟩)))),(λx hx=>by
   rcases YZ.1 hx with hx|hx
   ·exact(r.o.e4 x hx).aD λi hi=>au i (.inr (by rw[<-hi];simp only[YZ,Zv];exact .inr ⟨x,hx,rfl⟩))
   ·rw[Zm]at hx;subst hx;exact ht),?_⟩
  have hx:∀i,sB s=some i->sB V.s4=some i\/((∀y∈[sB V.s0,sB V.s1,sB V.s2,sB V.s3],y≠some i)/\∀y∈([sB V.s5]++(V.aj.map λx=>sB x.2)++(V.aE.map λx=>sB x.2)++(V.aG.map λx=>sB x.2)),y≠some i):=λi hi=>by
   exact z9
  have h1:=SC.xN hx;have h2:lq (([sB V.s0,sB V.s1,sB V.s2,sB V.s3,sB s,sB V.s5]++(V.aj.map λx=>sB x.2)++(V.aE.map λx=>sB x.2)++(V.aG.map λx=>sB x.2))++([])):=by
   have:[sB V.s0,sB V.s1,sB V.s2,sB V.s3]++sB s:: ([sB V.s5]++(V.aj.map λx=>sB x.2)++(V.aE.map λx=>sB x.2)++(V.aG.map λx=>sB x.2))=([sB V.s0,sB V.s1,sB V.s2,sB V.s3,sB s,sB V.s5]++(V.aj.map λx=>sB x.2)++(V.aE.map λx=>sB x.2)++(V.aG.map λx=>sB x.2))++([]):=Si
   rw[<-this];exact h1
  have h3:=h2.ins (x:=sB t) (λi hi=>by
   obtain⟨n1,n2⟩:=hnt i hi;refine⟨λy hy e=>?_,λy hy e=>?_⟩
   ·exact NB
   ·subst e;have:=(hin i (by rw[hd];simp only[YZ,ZC,ZY,aay]at hy ⊢<;>grind)).2;omega)
  have:{V with aG:=V.aG++[(y,t)],s4:=s}.bl=([sB V.s0,sB V.s1,sB V.s2,sB V.s3,sB s,sB V.s5]++(V.aj.map λx=>sB x.2)++(V.aE.map λx=>sB x.2)++(V.aG.map λx=>sB x.2))++sB t:: ([]):=by
   simp[RV.bl]
  rw[this];exact h3
 exact NH
def bY.Na(r:bY N h b V){s:AV}{L:List qo}(hs:Fr N k s 4 (L.map dh))(hn:∀i,sB s=some i->sB V.s5=some i\/h.length<=i)(hm:k[b]? =some (.cells {V with aN:=L,s5:=s}.row true false))
  (hk:∀i,i<h.length->sB V.s5≠some i->i≠b->k[i]? =h[i]?):bY N k b {V with aN:=L,s5:=s}:=by
 have hd:V.bl=[sB V.s0,sB V.s1,sB V.s2,sB V.s3,sB V.s4]++sB V.s5:: ([]++(V.aj.map λx=>sB x.2)++(V.aE.map λx=>sB x.2)++(V.aG.map λx=>sB x.2)):=rfl;have hin:∀i,some i∈V.bl->N<=i/\i<h.length:=λi hi=>r.o.dR hi
 have SC:=r.o.di;rw[hd]at SC;have au:∀i,(some i∈[sB V.s0,sB V.s1,sB V.s2,sB V.s3,sB V.s4]\/some i∈([]++(V.aj.map λx=>sB x.2)++(V.aE.map λx=>sB x.2)++(V.aG.map λx=>sB x.2)))->k[i]? =h[i]? :=λi hi=>by
  exact z7
 have own:cH N k {V with aN:=L,s5:=s}:=by
  refine⟨(r.o.i0.aD λi hi=>au i (.inl (by rw[<-hi];simp))),(r.o.i1.aD λi hi=>au i (.inl (by rw[<-hi];simp))),(r.o.i2.aD λi hi=>au i (.inl (by rw[<-hi];simp))),(r.o.i3.aD λi hi=>au i (.inl (by rw[<-hi];simp))),(r.o.i4.aD λi hi=>au i (.inl (by rw[<-hi];simp))),hs,(λx hx=>(r.o.e2 x hx).aD λi hi=>au i (.inr (by rw[<-hi];simp only[YZ,Zv];exact .inl (.inl (.inr ⟨x,hx,rfl⟩))))),(λx hx=>(r.o.e3 x hx).aD λi hi=>au i (.inr (by rw[<-hi];simp only[YZ,Zv];exact .inl (.inr ⟨x,hx,rfl⟩)))),(λx hx=>(r.o.e4 x hx).aD λi hi=>au i (.inr (by rw[<-hi];simp only[YZ,Zv];exact .inr ⟨x,hx,rfl⟩))),?_⟩;have hx:∀i,sB s=some i->sB V.s5=some i\/((∀y∈[sB V.s0,sB V.s1,sB V.s2,sB V.s3,sB V.s4],y≠some i)/\∀y∈([]++(V.aj.map λx=>sB x.2)++(V.aE.map λx=>sB x.2)++(V.aG.map λx=>sB x.2)),y≠some i):=λi hi=>by
   exact z9
  exact SC.xN hx
 refine⟨own,r.hN,hm,λhb=>?_⟩;have hbl:=r.lt;have T4:=r.ne;rw[hd]at T4;have e:{V with aN:=L,s5:=s}.bl=[sB V.s0,sB V.s1,sB V.s2,sB V.s3,sB V.s4]++sB s:: ([]++(V.aj.map λx=>sB x.2)++(V.aE.map λx=>sB x.2)++(V.aG.map λx=>sB x.2)):=rfl;exact z28
end
def tN(B:ah)(b:Nat)(V:RV)(e:ed)(d:Kd)(k:ah):Prop:=∃g' V',k=B++g'/\bY B.length (B++g') b V'/\V'.an=dq V.an e d
def iO{B g:ah}{b i:Nat}{V:RV}{v:AV}(hb:(B++g)[b]? =some (.b V.row))(hv:v.one=true)(hi:i<7):aW 1 (.ptr b i) v (λz=>(B++g)[z]?)=some (az,.set b (.b (V.row.set i v))):=by
 rw[aL hb];exact bX hv (by show i+1<=7;omega)
def nC{B g:ah}{b:Nat}{V:RV}(X:ak)(hN:B.length<=b)(hb:(B++g)[b]? =some (.b V.row)):(B++g).set b X=B++g.set (b-B.length) X/\(B++g.set (b-B.length) X)[b]? =some X/\∀i,i≠b->(B++g.set (b-B.length) X)[i]? =(B++g)[i]? :=by
 have h1:(B++g).set b X=B++g.set (b-B.length) X:=ZV _ _ hN;refine⟨h1,?_,λi hi=>?_⟩
 ·rw[<-h1,Zd (YQ.1 hb).1]
 ·rw[<-h1,Zc (aam hi)]
def eZ{ts h}:cQ [] ts h=some (.dM []):=rfl
section
variable {B g g':ah}{b:Nat}{V:RV}{e:ed}{d:Kd}
def Ml(r:bY B.length (B++g) b V){s:AV}{L:List gZ}(hff:Fr B.length (B++g') s 3 (L.map bV))(hb':∀i,sB s=some i->sB V.s0=some i\/(B++g).length<=i)(hk1:∀i,i<(B++g).length->sB V.s0≠some i->(B++g')[i]? =(B++g)[i]?)
  (hreg:{V with lines:=L,s0:=s}.an=dq V.an e d):tN B b V e d ((B++g').set b (.b (V.row.set 1 s))):=by
 have hbl:=r.lt;have RY:sB V.s0≠some b:=λz=>r.ne (by rw[<-z];simp[RV.bl])
 have mB:(B++g')[b]? =some (.b V.row):=(hk1 b hbl RY).trans r.m;obtain⟨h1,h2,h3⟩:=nC (.b (V.row.set 1 s)) r.hN mB;have hsb:∀i,sB s=some i->i≠b:=λi hi z=>by
  exact Jn
 exact⟨_,_,h1,r.Nb (hff.aD λi hi=>h3 i (hsb i hi)) hb' h2 (λi hi hne RY=>(h3 i RY).trans (hk1 i hi hne)),hreg⟩
def Mk(r:bY B.length (B++g) b V){s:AV}{L:List qH}(hff:Fr B.length (B++g') s 2 (L.map dt))(hb':∀i,sB s=some i->sB V.s1=some i\/(B++g).length<=i)(hk1:∀i,i<(B++g).length->sB V.s1≠some i->(B++g')[i]? =(B++g)[i]?)
  (hreg:{V with aB:=L,s1:=s}.an=dq V.an e d):tN B b V e d ((B++g').set b (.b (V.row.set 2 s))):=by
 have hbl:=r.lt;have RY:sB V.s1≠some b:=λz=>r.ne (by rw[<-z];simp[RV.bl])
 have mB:(B++g')[b]? =some (.b V.row):=(hk1 b hbl RY).trans r.m;obtain⟨h1,h2,h3⟩:=nC (.b (V.row.set 2 s)) r.hN mB;have hsb:∀i,sB s=some i->i≠b:=λi hi z=>by
  exact Jn
 exact⟨_,_,h1,r.Q1 (hff.aD λi hi=>h3 i (hsb i hi)) hb' h2 (λi hi hne RY=>(h3 i RY).trans (hk1 i hi hne)),hreg⟩
def Mj(r:bY B.length (B++g) b V){s t:AV}{y:gN}(hff:Fr B.length (B++g') s 3 ((V.aj++[(y,t)]).map aX))(ht:Fr B.length (B++g') t 1 (y.aB.map ao))(hb':∀i,sB s=some i->sB V.s2=some i\/(B++g).length<=i)(hk1:∀i,i<(B++g).length->sB V.s2≠some i->(B++g')[i]? =(B++g)[i]?)(hnt:∀i,sB t=some i->(B++g).length<=i/\sB s≠some i)
  (hreg:{V with aj:=V.aj++[(y,t)],s2:=s}.an=dq V.an e d):tN B b V e d ((B++g').set b (.b (V.row.set 3 s))):=by
 have hbl:=r.lt;have RY:sB V.s2≠some b:=λz=>r.ne (by rw[<-z];simp[RV.bl])
 have mB:(B++g')[b]? =some (.b V.row):=(hk1 b hbl RY).trans r.m;obtain⟨h1,h2,h3⟩:=nC (.b (V.row.set 3 s)) r.hN mB;have hsb:∀i,sB s=some i->i≠b:=λi hi z=>by
  exact Jn
 have htb:∀i,sB t=some i->i≠b:=λi hi z=>by
  exact z105
 exact⟨_,_,h1,r.Q0 (hff.aD λi hi=>h3 i (hsb i hi)) (ht.aD λi hi=>h3 i (htb i hi)) hb' hnt h2 (λi hi hne RY=>(h3 i RY).trans (hk1 i hi hne)),hreg⟩
def Gw(r:bY B.length (B++g) b V){s t:AV}{y:iE}(hff:Fr B.length (B++g') s 4 ((V.aE++[(y,t)]).map aV))(ht:Fr B.length (B++g') t 1 (y.bA.map ao))(hb':∀i,sB s=some i->sB V.s3=some i\/(B++g).length<=i)(hk1:∀i,i<(B++g).length->sB V.s3≠some i->(B++g')[i]? =(B++g)[i]?)(hnt:∀i,sB t=some i->(B++g).length<=i/\sB s≠some i)
  (hreg:{V with aE:=V.aE++[(y,t)],s3:=s}.an=dq V.an e d):tN B b V e d ((B++g').set b (.b (V.row.set 4 s))):=by
 have hbl:=r.lt;have RY:sB V.s3≠some b:=λz=>r.ne (by rw[<-z];simp[RV.bl])
 have mB:(B++g')[b]? =some (.b V.row):=(hk1 b hbl RY).trans r.m;obtain⟨h1,h2,h3⟩:=nC (.b (V.row.set 4 s)) r.hN mB;have hsb:∀i,sB s=some i->i≠b:=λi hi z=>by
  exact Jn
 have htb:∀i,sB t=some i->i≠b:=λi hi z=>by
  exact z105
 exact⟨_,_,h1,r.QZ (hff.aD λi hi=>h3 i (hsb i hi)) (ht.aD λi hi=>h3 i (htb i hi)) hb' hnt h2 (λi hi hne RY=>(h3 i RY).trans (hk1 i hi hne)),hreg⟩
def Mi(r:bY B.length (B++g) b V){s t:AV}{y:k9}(hff:Fr B.length (B++g') s 3 ((V.aG++[(y,t)]).map bO))(ht:Fr B.length (B++g') t 1 (y.bB.map aK))(hb':∀i,sB s=some i->sB V.s4=some i\/(B++g).length<=i)(hk1:∀i,i<(B++g).length->sB V.s4≠some i->(B++g')[i]? =(B++g)[i]?)(hnt:∀i,sB t=some i->(B++g).length<=i/\sB s≠some i)
  (hreg:{V with aG:=V.aG++[(y,t)],s4:=s}.an=dq V.an e d):tN B b V e d ((B++g').set b (.b (V.row.set 5 s))):=by
 have hbl:=r.lt;have RY:sB V.s4≠some b:=λz=>r.ne (by rw[<-z];simp[RV.bl])
 have mB:(B++g')[b]? =some (.b V.row):=(hk1 b hbl RY).trans r.m;obtain⟨h1,h2,h3⟩:=nC (.b (V.row.set 5 s)) r.hN mB;have hsb:∀i,sB s=some i->i≠b:=λi hi z=>by
  exact Jn
 have htb:∀i,sB t=some i->i≠b:=λi hi z=>by
  exact z105
 exact⟨_,_,h1,r.QY (hff.aD λi hi=>h3 i (hsb i hi)) (ht.aD λi hi=>h3 i (htb i hi)) hb' hnt h2 (λi hi hne RY=>(h3 i RY).trans (hk1 i hi hne)),hreg⟩
def Mh(r:bY B.length (B++g) b V){s:AV}{L:List qo}(hff:Fr B.length (B++g') s 4 (L.map dh))(hb':∀i,sB s=some i->sB V.s5=some i\/(B++g).length<=i)(hk1:∀i,i<(B++g).length->sB V.s5≠some i->(B++g')[i]? =(B++g)[i]?)
  (hreg:{V with aN:=L,s5:=s}.an=dq V.an e d):tN B b V e d ((B++g').set b (.b (V.row.set 6 s))):=by
 have hbl:=r.lt;have RY:sB V.s5≠some b:=λz=>r.ne (by rw[<-z];simp[RV.bl])
 have mB:(B++g')[b]? =some (.b V.row):=(hk1 b hbl RY).trans r.m;obtain⟨h1,h2,h3⟩:=nC (.b (V.row.set 6 s)) r.hN mB;have hsb:∀i,sB s=some i->i≠b:=λi hi z=>by
  exact Jn
 exact⟨_,_,h1,r.Na (hff.aD λi hi=>h3 i (hsb i hi)) hb' h2 (λi hi hne RY=>(h3 i RY).trans (hk1 i hi hne)),hreg⟩
end
section
variable {P:Program}(T:fp P) {B g:ah}{b:Nat}{V:RV}{x:EV}
include T
def Pm(r:bY B.length (B++g) b V)(c:Cx (B++g) V x .line):dm P 149 [.ptr b 0,.agg x.row] (B++g) (λ_ k=>tN B b V x.ev .line k):=by
 refine .eP 22 T.mix T.c149 ?_;intro ts hlen t0 t1;unfold fn149;have hex:=@bw.box _ _ c.e;have lb:=@eE _ _ _ r.m;have i0:aS 1 x.sn (.i 0)=_:=(c.nm (i:=0) De).1;have d0:=@(c.nm (i:=0) De).2;have j1:aS 1 x.sv (.i 1)=_:=(c.vl (i:=1) De).1;have f1:=@(c.vl (i:=1) De).2.1;have q1:=(c.vl (i:=1) De).2.2;obtain⟨y,hy⟩:∃y:gZ,y=⟨aM x.ev 0,bH x.ev 1,false⟩:=⟨_,rfl⟩;have Ta:bV y=[.str (aM x.ev 0),.i (bH x.ev 1),.bool false]:=by rw[hy];rfl
 refine Rs (kS t0 t1 @hex @lb @fI @aI @aY @i0 @d0 @j1 @f1) ?_;rw[<-Ta];refine WR.fG (h0:=B) (cs:=V.lines.map bV) (ys:=[bV y]) (((r.o.i0).app _).app _) (Fr.push (N:=0) (Zw _) [bV y] (by simp[bV])).ba De Si (by have:=c.w.len.l0;simp;omega) Xx ?_;intro g' RT hff hkp;have hrow:V.lines.map bV++[bV y]=(V.lines++[y]).map bV:=by rw[Y5];rfl
 rw[hrow]at hff;rw[hrow];have hbl:=r.lt;have RY:sB V.s0≠some b:=λe=>r.ne (by rw[<-e];simp[RV.bl])
 have hk1:∀i,i<(B++g).length->sB V.s0≠some i->(B++g')[i]? =(B++g)[i]? :=λi hi hne=>by
  exact Jq
 have mB:(B++g')[b]? =some (.b V.row):=(hk1 b hbl RY).trans r.m;have UL:=λ(b' o n e:Nat)=>iO (i:=1) (v:=.slice b' o n e) mB rfl De
 refine Rs (A4 t0 t1 @UL @eZ) ?_;exact Ml r hff (λi hi=>by cases hi;exact .inr (by simp only[YP];omega)) hk1 (by rw[hy];rfl)
def Pk(r:bY B.length (B++g) b V)(c:Cx (B++g) V x .tape):dm P 152 [.ptr b 0,.agg x.row] (B++g) (λ_ k=>tN B b V x.ev .tape k):=by
 refine .eP 27 T.mix T.c152 ?_;intro ts hlen t0 t1;unfold fn152;have hex:=@bw.box _ _ c.e;have lb:=@eE _ _ _ r.m;have i0:aS 1 x.sn (.i 0)=_:=(c.nm (i:=0) De).1;have d0:=@(c.nm (i:=0) De).2;have j0:aS 1 x.sv (.i 0)=_:=(c.vl (i:=0) De).1;have f0:=@(c.vl (i:=0) De).2.1;have q0:=(c.vl (i:=0) De).2.2;have j1:aS 1 x.sv (.i 1)=_:=(c.vl (i:=1) De).1;have f1:=@(c.vl (i:=1) De).2.1;have q1:=(c.vl (i:=1) De).2.2;have hw:IntKind.i64.wrap (bH x.ev 0+bH x.ev 1)=bH x.ev 0+bH x.ev 1:=bu Om Om;obtain⟨y,hy⟩:∃y:qH,y=⟨aM x.ev 0,bH x.ev 0+bH x.ev 1⟩:=⟨_,rfl⟩
 have Ta:dt y=[.str (aM x.ev 0),.i (bH x.ev 0+bH x.ev 1)]:=by rw[hy];rfl
 refine Rs (wP t0 t1 @hex @lb @jX @aI @aY @hw @i0 @d0 @j0 @f0 @j1 @f1) ?_;rw[<-Ta];refine WR.fG (h0:=B) (cs:=V.aB.map dt) (ys:=[dt y]) (((r.o.i1).app _).app _) (Fr.push (N:=0) (Zw _) [dt y] (by simp[dt])).ba De Si (by have:=c.w.len.l1;simp;omega) Xx ?_;intro g' RT hff hkp;have hrow:V.aB.map dt++[dt y]=(V.aB++[y]).map dt:=by rw[Y5];rfl
 rw[hrow]at hff;rw[hrow];have hbl:=r.lt;have RY:sB V.s1≠some b:=λe=>r.ne (by rw[<-e];simp[RV.bl])
 have hk1:∀i,i<(B++g).length->sB V.s1≠some i->(B++g')[i]? =(B++g)[i]? :=λi hi hne=>by
  exact Jq
 have mB:(B++g')[b]? =some (.b V.row):=(hk1 b hbl RY).trans r.m;have UL:=λ(b' o n e:Nat)=>iO (i:=2) (v:=.slice b' o n e) mB rfl De
 refine Rs (A4 t0 t1 @UL @eZ) ?_;exact Mk r hff (λi hi=>by cases hi;exact .inr (by simp only[YP];omega)) hk1 (by rw[hy];rfl)
end
theorem uo:∀(l:List Int) (x:Int),(∀s∈l,-1<=s/\s<=999999999)->-16777213<x->x<16777213->-16777213<l.foldl (λx s=>(257*x+s).tmod 16777213) x/\l.foldl (λx s=>(257*x+s).tmod 16777213) x<16777213
 |[],x,_,h1,h2=>⟨h1,h2⟩
 |s::l,x,hs,h1,h2=>by
  have hb:-16777213<(257*x+s).tmod 16777213/\(257*x+s).tmod 16777213<16777213:=by
   constructor
   ·have:=Int.lt_tmod_of_pos (257*x+s) (show(0:Int)<16777213 by decide);exact this
   ·exact Int.tmod_lt_of_pos _ De
  exact uo l _ (λt ht=>hs t (ZG _ ht)) hb.1 hb.2
section
variable {P:Program}(T:fp P) {h:ah}
include T
def r95{s l}(hs:aH h s 1 (l.map aK))(hl:l.length<2^30)(hb:∀s∈l,-1<=s/\s<=999999999):ay P 95 [s] h (λv _=>v=.i (fZ l)):=by
 refine .kU 19 T.mix T.c95 ?_;intro ts hlen t0;unfold fn95 gA;refine Rs (A2 t0 hs.aJ) ?_;refine WL.inv T.mix (λn ts h'=>∃k:Nat,k<=l.length/\n=l.length-k/\h' =h/\ts.length=19/\slot ts 3=.i (fZ (l.take k))/\slot ts 6=s/\slot ts 7=.i l.length/\slot ts 8=.i k) l.length
  ⟨0,Om,rfl,rfl,Sn,gM,(Sq t0),(Sq t0),gM⟩ ?_
 rintro _ ts _ ⟨k,hk,rfl,rfl,hlen,t3,t6,t7,t8⟩;by_cases hlt:k<l.length
 ·have e3:=ee hlt;have ix:=hs.dG (kk:=.i64) hlt;have ld:=hs.kY (i:=k) (x:=.i l[k]) hlt rfl (Ext.refl _);have e5:=wrapN (n:=k) Om;have hd:=uo (l.take k) 1 (λs hs=>hb s (ZW hs)) De De;have T5:=hb _ (Za hlt);have Sh:-16777213<fZ (l.take k)/\fZ (l.take k)<16777213:=hd;have w1:IntKind.i64.wrap (257*fZ (l.take k))=257*fZ (l.take k):=bu Om Om;have w2:IntKind.i64.wrap (257*fZ (l.take k)+l[k])=257*fZ (l.take k)+l[k]:=bu Om Om;have er:=oG (k:=.i64) (a:=257*fZ (l.take k)+l[k]) (b:=16777213) De;have R4:fZ (l.take (k+1))=(257*fZ (l.take k)+l[k]).tmod 16777213:=by
   exact z157
  rw[<-R4]at er;refine Rs (kS t3 t6 t7 t8 e3 ix @ld @w1 @w2 @er e5) ?_;exact⟨_,Om,k+1,Om,rfl,rfl,rfl⟩
 ·have e3:=fo hlt;have e4:k=l.length:=Om
  rw[e4,ZA]at t3;exact Rs (A5 t3 t6 t7 t8 e3) Tv
end
section
variable {P:Program}(T:fp P) {B g:ah}{b:Nat}{V:RV}{x:EV}
include T
def Pj(r:bY B.length (B++g) b V)(c:Cx (B++g) V x .gx):dm P 156 [.ptr b 0,.agg x.row] (B++g) (λ_ k=>tN B b V x.ev .gx k):=by
 refine .eP 27 T.mix T.c156 ?_;intro ts hlen t0 t1;unfold fn156;have hex:=@bw.box _ _ c.e;have lb:=@eE _ _ _ r.m;have i0:aS 1 x.sn (.i 0)=_:=(c.nm (i:=0) De).1;have d0:=@(c.nm (i:=0) De).2;have i1:aS 1 x.sn (.i 1)=_:=(c.nm (i:=1) De).1;have d1:=@(c.nm (i:=1) De).2;have i2:aS 1 x.sn (.i 2)=_:=(c.nm (i:=2) De).1;have d2:=@(c.nm (i:=2) De).2;obtain⟨y,hy⟩:∃y:gN,y=⟨aM x.ev 0,aM x.ev 1,[aM x.ev 2]⟩:=⟨_,rfl⟩;obtain⟨t,ht⟩:∃t,t=AV.slice (B++g++[ak.b x.row]).length 0 1 1:=⟨_,rfl⟩;have SL:Fr (B++g).length (B++g++[ak.b x.row]++[ak.cells [.str (aM x.ev 2)] true true]) t 1 (y.aB.map ao):=by
  rw[ht,hy];exact(Fr.push (h:=B++g++[ak.b x.row]) (N:=(B++g).length) Si [ao (aM x.ev 2)] (by simp[ao]))
 have Ta:aX (y,t)=[.str (aM x.ev 0),.str (aM x.ev 1),t]:=by rw[hy];rfl
 refine Rs (Dk t0 t1 @hex @lb @dy @aI @aY @i0 @d0 @i1 @d1 @i2 @d2) ?_;rw[<-ht];have ot:=SL.ba.one;refine Rs (A7 t0 t1 @ot @lb @dy @aI @aY) ?_;rw[<-Ta];refine WR.fG (h0:=B) (cs:=V.aj.map aX) (ys:=[aX (y,t)]) ((((r.o.i2).app _).app _).app _) (Fr.push (N:=0) (Zw _) [aX (y,t)] (by simp[aX])).ba De Si (by have:=c.w.len.l2;simp;omega) Xx ?_;intro g' RT hff hkp;have hrow:V.aj.map aX++[aX (y,t)]=(V.aj++[(y,t)]).map aX:=by rw[Y5];rfl
 rw[hrow]at hff;rw[hrow];have hbl:=r.lt;have RY:sB V.s2≠some b:=λe=>r.ne (by rw[<-e];simp[RV.bl])
 have hk1:∀i,i<(B++g).length->sB V.s2≠some i->(B++g')[i]? =(B++g)[i]? :=λi hi hne=>by
  exact Jq
 have mB:(B++g')[b]? =some (.b V.row):=(hk1 b hbl RY).trans r.m;have UL:=λ(b' o n e:Nat)=>iO (i:=3) (v:=.slice b' o n e) mB rfl De
 refine Rs (A4 t0 t1 @UL @eZ) ?_;refine Mj r hff ?_ (λi hi=>by cases hi;exact .inr (by simp only[YP];omega)) hk1 ?_ ?_
 ·exact(((SL.app _).aD λi hi=>hkp i (by have:=(SL.bN hi).2;simp only[YP]at this ⊢;omega) (λb0 o n e he z=>by
   have h1:=(SL.bN hi).1;have h2:=(r.o.i2.bN (show sB V.s2=some i by rw[he,z];rfl)).2;omega)).low Si)
 ·intro i hi;exact z37
 ·rw[hy];simp[RV.an,dq]
def Pf(r:bY B.length (B++g) b V)(c:Cx (B++g) V x .source):dm P 162 [.ptr b 0,.agg x.row] (B++g) (λ_ k=>tN B b V x.ev .source k):=by
 refine .eP 22 T.mix T.c162 ?_;intro ts hlen t0 t1;unfold fn162;have hex:=@bw.box _ _ c.e;have lb:=@eE _ _ _ r.m;have i0:aS 1 x.sn (.i 0)=_:=(c.nm (i:=0) De).1;have d0:=@(c.nm (i:=0) De).2;have i1:aS 1 x.sn (.i 1)=_:=(c.nm (i:=1) De).1;have d1:=@(c.nm (i:=1) De).2;obtain⟨y,hy⟩:∃y:iE,y=⟨aM x.ev 0,dQ,aM x.ev 1,[]⟩:=⟨_,rfl⟩;obtain⟨t,ht⟩:∃t,t=AV.af:=⟨_,rfl⟩;have Ta:aV (y,t)=[.str (aM x.ev 0),.str [115,104,111,116,115],.str (aM x.ev 1),.af]:=by rw[hy,ht];rfl
 refine Rs (kS t0 t1 @hex @lb @fP @aI @aY @i0 @d0 @i1 @d1) ?_;rw[<-Ta];refine WR.fG (h0:=B) (cs:=V.aE.map aV) (ys:=[aV (y,t)]) (((r.o.i3).app _).app _) (Fr.push (N:=0) (Zw _) [aV (y,t)] (by simp[aV])).ba De Si (by have:=c.w.len.l3;simp;omega) Xx ?_;intro g' RT hff hkp;have hrow:V.aE.map aV++[aV (y,t)]=(V.aE++[(y,t)]).map aV:=by rw[Y5];rfl
 rw[hrow]at hff;rw[hrow];have hbl:=r.lt;have RY:sB V.s3≠some b:=λe=>r.ne (by rw[<-e];simp[RV.bl])
 have hk1:∀i,i<(B++g).length->sB V.s3≠some i->(B++g')[i]? =(B++g)[i]? :=λi hi hne=>by
  exact Jq
 have mB:(B++g')[b]? =some (.b V.row):=(hk1 b hbl RY).trans r.m;have UL:=λ(b' o n e:Nat)=>iO (i:=4) (v:=.slice b' o n e) mB rfl De
 refine Rs (A4 t0 t1 @UL @eZ) ?_;refine Gw r hff ?_ (λi hi=>by cases hi;exact .inr (by simp only[YP];omega)) hk1 ?_ ?_
 ·rw[ht,hy];exact .nil
 ·intro i hi;rw[ht]at hi;cases hi
 ·rw[hy];simp[RV.an,dq]
def Pe(r:bY B.length (B++g) b V)(c:Cx (B++g) V x .fW)(hc:bC V.an x.ev .fW=0)(gl:Gl (B++g)):dm P 164 [.ptr b 0,.agg x.row] (B++g) (λ_ k=>tN B b V x.ev .fW k):=by
 refine .eP 30 T.mix T.c164 ?_;intro ts hlen t0 t1;unfold fn164;have hex:=@bw.box _ _ c.e;have lb:=@eE _ _ _ r.m;have i0:aS 1 x.sn (.i 0)=_:=(c.nm (i:=0) De).1;have d0:=@(c.nm (i:=0) De).2;have j1:aS 1 x.sv (.i 1)=_:=(c.vl (i:=1) De).1;have f1:=@(c.vl (i:=1) De).2.1;have q1:=(c.vl (i:=1) De).2.2;obtain⟨gmu,gtl,hg0⟩:=gl;have hn:1<=bH x.ev 1/\bH x.ev 1<=4:=by
  rw[bC]at hc;split at hc
  ·cases hc
  case isFalse hr=>exact iH hr
 have hw:IntKind.i64.wrap (bH x.ev 1-1)=bH x.ev 1-1:=bu Om Om;have a1:mL 4 2 (.ptr 0 0) (.i (bH x.ev 1-1))=some (.ptr 0 ((bH x.ev 1-1).toNat*2)):=by simp only[mL];rw[Zb Om,ZN]
 have a2:mL 2 1 (.ptr 0 ((bH x.ev 1-1).toNat*2)) (.i 1)=some (.ptr 0 ((bH x.ev 1-1).toNat*2+1)):=by simp[mL]
 have lg:∀{k:ah},Ext (B++g) k->aq none (.ptr 0 ((bH x.ev 1-1).toNat*2+1)) (λb=>k[b]?)=some (.str (jS (bH x.ev 1)),.au):=by
  intro k e;exact Qx
 have hnl:1<=x.ev.names.length:=by rw[c.we.nl];decide
 have hnl2:x.ev.names.length<=3:=by rw[c.we.nl];decide
 obtain⟨s',es',RH⟩:=c.e.n.Dl (lo:=some (.i 1)) (hi:=none) (my (k:=1) hnl);have et:List.take (x.ev.names.length-1) (List.drop 1 x.ev.names)=x.ev.names.drop 1:=ZE Si;rw[et]at RH;obtain⟨y,hy⟩:∃y:iE,y=⟨aM x.ev 0,jS (bH x.ev 1),[],x.ev.names.drop 1⟩:=⟨_,rfl⟩;refine Rs (Dr t0 t1 @hex @lb @fP @aI @aY @hw @a1 @a2 @lg @es' @i0 @d0 @j1 @f1) ?_;refine WF.res T.c177 (r177 T (RH.ext Xx) (by simp;omega)) ?_;rintro t g1 SL;have Ta:aV (y,t)=[.str (aM x.ev 0),.str (jS (bH x.ev 1)),.str [],t]:=by rw[hy];rfl
 have SL:Fr (B++g).length (B++g++[ak.b x.row]++g1) t 1 (y.bA.map ao):=by rw[hy];exact SL.low Si
 have ot:=SL.ba.one;refine Rs (A3 t0 t1 @ot) ?_;rw[<-Ta];refine WR.fG (h0:=B) (cs:=V.aE.map aV) (ys:=[aV (y,t)]) ((((r.o.i3).app _).app _).app _) (Fr.push (N:=0) (Zw _) [aV (y,t)] (by simp[aV])).ba De Si (by have:=c.w.len.l3;simp;omega) Xx ?_;intro g' RT hff hkp;exact z8
def Pd(r:bY B.length (B++g) b V)(c:Cx (B++g) V x .merge):dm P 166 [.ptr b 0,.agg x.row] (B++g) (λ_ k=>tN B b V x.ev .merge k):=by
 refine .eP 31 T.mix T.c166 ?_;intro ts hlen t0 t1;unfold fn166;have hex:=@bw.box _ _ c.e;have lb:=@eE _ _ _ r.m;have i0:aS 1 x.sn (.i 0)=_:=(c.nm (i:=0) De).1;have d0:=@(c.nm (i:=0) De).2;have i1:aS 1 x.sn (.i 1)=_:=(c.nm (i:=1) De).1;have d1:=@(c.nm (i:=1) De).2;have hnl:1<=x.ev.names.length:=by rw[c.we.nl];decide
 have hnl2:x.ev.names.length<=3:=by rw[c.we.nl];decide
 obtain⟨s',es',RH⟩:=c.e.n.Dl (lo:=some (.i 1)) (hi:=none) (my (k:=1) hnl);have et:List.take (x.ev.names.length-1) (List.drop 1 x.ev.names)=x.ev.names.drop 1:=ZE Si;rw[et]at RH;have k1:aM x.ev 1∈iC V.an:=c.nk.kn 1 3 rfl;refine Rs (mQ t0 t1 @hex @lb @fP @aF @aI @aY @i0 @d0 @i1 @d1) ?_;refine WF.res T.c245 (r245 T (c.o.ext Xx) c.w.len k1) ?_;rintro _ g1 ⟨z,hz,hz1,rfl⟩;unfold aV;obtain⟨y,hy⟩:∃y:iE,y=⟨aM x.ev 0,(gS V.an (aM x.ev 1)).gives,[],x.ev.names.drop 1⟩:=⟨_,rfl⟩;refine Rs (A5 t0 t1 @lb @aI @es') ?_;refine WF.res T.c177 (r177 T (RH.ext Xx) (by simp;omega)) ?_;rintro t g2 SL;have Ta:aV (y,t)=[.str (aM x.ev 0),.str z.1.gives,.str [],t]:=by rw[hy,hz1];rfl
 have SL:Fr (B++g).length (B++g++[ak.b x.row]++g1++g2) t 1 (y.bA.map ao):=by rw[hy];exact SL.low (by simp only[YP];omega)
 have ot:=SL.ba.one;refine Rs (A3 t0 t1 @ot) ?_;rw[<-Ta];refine WR.fG (h0:=B) (cs:=V.aE.map aV) (ys:=[aV (y,t)]) (((((r.o.i3).app _).app _).app _).app _) (Fr.push (N:=0) (Zw _) [aV (y,t)] (by simp[aV])).ba De Si (by have:=c.w.len.l3;simp;omega) Xx ?_;intro g' RT hff hkp;exact z8
def O9(r:bY B.length (B++g) b V)(c:Cx (B++g) V x .gy):dm P 174 [.ptr b 0,.agg x.row] (B++g) (λ_ k=>tN B b V x.ev .gy k):=by
 refine .eP 32 T.mix T.c174 ?_;intro ts hlen t0 t1;unfold fn174;have hex:=@bw.box _ _ c.e;have lb:=@eE _ _ _ r.m;have i0:aS 1 x.sn (.i 0)=_:=(c.nm (i:=0) De).1;have d0:=@(c.nm (i:=0) De).2;have i1:aS 1 x.sn (.i 1)=_:=(c.nm (i:=1) De).1;have d1:=@(c.nm (i:=1) De).2;have k1:aM x.ev 1∈iX V.an:=c.nk.kn 1 4 rfl;refine Rs (mQ t0 t1 @hex @lb @iG @aF @aI @aY @i0 @d0 @i1 @d1) ?_;refine WF.res T.c124 (r124 T (c.o.ext Xx) c.w.len k1) ?_;rintro _ g1 ⟨z,hz,hz1,rfl⟩;have hzb:=(c.w.jb z.1 (Zo hz)).2;unfold bO;refine Rs (A2 t0 t1) ?_;refine WF.ce T.c95 (r95 T ((c.o.e4 z hz).ext Xx) Om hzb.2.2) λg2=>?_
 obtain⟨y,hy⟩:∃y:qo,y=⟨aM x.ev 0,aM x.ev 1,fZ (gE V.an (aM x.ev 1)).bB,false⟩:=⟨_,rfl⟩;have Ta:dh y=[.str (aM x.ev 0),.str (aM x.ev 1),.i (fZ z.1.bB),.bool false]:=by rw[hy,hz1];rfl
 refine Rs (A2 t0 t1) ?_;rw[<-Ta];refine WR.fG (h0:=B) (cs:=V.aN.map dh) (ys:=[dh y]) (((((r.o.i5).app _).app _).app _).app _) (Fr.push (N:=0) (Zw _) [dh y] (by simp[dh])).ba De Si (by have:=c.w.len.l5;simp;omega) Xx ?_;intro g' RT hff hkp;have hrow:V.aN.map dh++[dh y]=(V.aN++[y]).map dh:=by rw[Y5];rfl
 rw[hrow]at hff;rw[hrow];have hbl:=r.lt;have RY:sB V.s5≠some b:=λe=>r.ne (by rw[<-e];simp[RV.bl])
 have hk1:∀i,i<(B++g).length->sB V.s5≠some i->(B++g')[i]? =(B++g)[i]? :=λi hi hne=>by
  exact Jq
 have mB:(B++g')[b]? =some (.b V.row):=(hk1 b hbl RY).trans r.m;have UL:=λ(b' o n e:Nat)=>iO (i:=6) (v:=.slice b' o n e) mB rfl De
 refine Rs (A4 t0 t1 @UL @eZ) ?_;exact Mh r hff (λi hi=>by cases hi;exact .inr (by simp only[YP];omega)) hk1 (by rw[hy];rfl)
end
def bY.QX{N b h k V}(r:bY N h b V){i}(hi:i<V.aG.length){y}(hy:y.name=V.aG[i].1.name/\y.mod=V.aG[i].1.mod)(hf:Fr N k V.aG[i].2 1 (y.bB.map aK))
  (hk:∀j,j<h.length->sB V.aG[i].2≠some j->k[j]? =h[j]?):bY N k b {V with aG:=V.aG.set i (y,V.aG[i].2) }:=by
 have hin:∀j,some j∈V.bl->N<=j/\j<h.length:=λj hj=>r.o.dR hj
 have hbl:{V with aG:=V.aG.set i (y,V.aG[i].2) }.bl=V.bl:=by
  simp only[RV.bl,aa0];congr 1;have:sB V.aG[i].2=(V.aG.map λx=>sB x.2)[i]'(by simpa using hi):=Si
  exact G0
 obtain⟨h1,h2,h3⟩:=aab.1 (show lq (([sB V.s0,sB V.s1,sB V.s2,sB V.s3,sB V.s4,sB V.s5]++(V.aj.map λx=>sB x.2)++(V.aE.map λx=>sB x.2))++(V.aG.map λx=>sB x.2))from r.o.di);have SP:sB V.aG[i].2∈V.aG.map λx=>sB x.2:=Zo (f:=λx:k9×AV=>sB x.2) (Za hi)
 have kA:∀j,some j∈([sB V.s0,sB V.s1,sB V.s2,sB V.s3,sB V.s4,sB V.s5]++(V.aj.map λx=>sB x.2)++(V.aE.map λx=>sB x.2))->k[j]? =h[j]? :=λj hj=>
  hk j (hin j (by rw[RV.bl];exact YZ.2 (.inl hj))).2 (h3 _ hj _ SP j rfl)
 have k6:∀j,some j∈[sB V.s0,sB V.s1,sB V.s2,sB V.s3,sB V.s4,sB V.s5]->k[j]? =h[j]? :=λj hj=>kA j (by simp only[YZ];exact .inl (.inl hj))
 have hrow:(V.aG.set i (y,V.aG[i].2)).map bO=V.aG.map bO:=by
  rw[aa0];have:bO (y,V.aG[i].2)=(V.aG.map bO)[i]'(by simpa using hi):=by simp[bO,hy.1,hy.2]
  exact G0
 have own:cH N k {V with aG:=V.aG.set i (y,V.aG[i].2) }:=by
  refine⟨r.o.i0.aD λj hj=>k6 j (by rw[<-hj];simp),r.o.i1.aD λj hj=>k6 j (by rw[<-hj];simp),r.o.i2.aD λj hj=>k6 j (by rw[<-hj];simp),r.o.i3.aD λj hj=>k6 j (by rw[<-hj];simp),?_,r.o.i5.aD λj hj=>k6 j (by rw[<-hj];simp),?_,?_,?_,?_⟩
  ·show Fr N k V.s4 3 ((V.aG.set i (y,V.aG[i].2)).map bO);rw[hrow];exact r.o.i4.aD λj hj=>k6 j (by rw[<-hj];simp)
  ·exactλx hx=>(r.o.e2 x hx).aD λj hj=>kA j (by rw[<-hj];simp only[YZ,Zv];exact .inl (.inr ⟨x,hx,rfl⟩))
  ·exactλx hx=>(r.o.e3 x hx).aD λj hj=>kA j (by rw[<-hj];simp only[YZ,Zv];exact .inr ⟨x,hx,rfl⟩)
  ·intro x hx;obtain⟨n,hn,rfl⟩:=aa1 hx;have Wd:n<V.aG.length:=by simpa using hn
   by_cases hni:n=i
   ·subst hni;simp only[aaT];exact hf
   ·simp only[abi (aam hni)];refine(r.o.e4 _ (Za Wd)).aD λj hj=>hk j ?_ λe=>?_
    ·exact((r.o.e4 _ (Za Wd)).bN hj).2
    ·have e1:(V.aG.map λx=>sB x.2)[n]'(by simpa using Wd)=some j:=by simpa using hj
     have e2:(V.aG.map λx=>sB x.2)[i]'(by simpa using hi)=some j:=by simpa using e
     rcases Nat.lt_or_gt_of_ne hni with hlt|hlt
     ·exact List.pairwise_iff_getElem.1 h2 n i (by simpa using Wd) (by simpa using hi) hlt j e1 e2
     ·exact List.pairwise_iff_getElem.1 h2 i n (by simpa using hi) (by simpa using Wd) hlt j e2 e1
  ·show lq {V with aG:=V.aG.set i (y,V.aG[i].2) }.bl;rw[hbl];exact r.o.di
 refine⟨own,r.hN,?_,by rw[hbl];exact r.ne⟩;have:sB V.aG[i].2≠some b:=λe=>r.ne (by rw[<-e,RV.bl];exact YZ.2 (.inr SP))
 exact(hk b r.lt this).trans r.m
section
variable {P:Program}(T:fp P) {B g:ah}{b:Nat}{V:RV}{x:EV}
include T
def Pg(r:bY B.length (B++g) b V)(c:Cx (B++g) V x .accept):dm P 160 [.ptr b 0,.agg x.row] (B++g) (λ_ k=>tN B b V x.ev .accept k):=by
 refine .eP 19 T.mix T.c160 ?_;intro ts hlen t0 t1;unfold fn160 yA;have hex:=@bw.box _ _ c.e;have lb:=@eE _ _ _ r.m;have i0:aS 1 x.sn (.i 0)=_:=(c.nm (i:=0) De).1;have d0:=@(c.nm (i:=0) De).2;have hn:aM x.ev 0∈gP V.an:=c.nk.kn 0 0 rfl;have hlt:bn (gP V.an) (aM x.ev 0)<V.lines.length:=by have:=cR hn;simpa [gP,RV.an]using this
 have ei:cT (λy:gZ=>decide (y.name=aM x.ev 0)) V.lines=(bn (gP V.an) (aM x.ev 0):Int):=eT (f:=gZ.name) hn;have ix:aS 3 V.s0 (.i (bn (gP V.an) (aM x.ev 0):Int))=some (cN V.s0 3 (bn (gP V.an) (aM x.ev 0)),.au):=c.o.i0.dG hlt;have sp:du V.an (aM x.ev 0)=V.lines[bn (gP V.an) (aM x.ev 0)]:=de hn;refine Rs (A8 t0 t1 @hex @lb @fI @aI @i0 @d0) ?_;refine WF.ce T.c142 (r142 T (c.o.i0.ext Xx) (by have:=c.w.len.l0;omega) _) λg1=>?_
 rw[ei];refine Rs (A3 t0 t1 ix) ?_;rw[YR B g,YR B];refine WR.vt (h0:=B) (x':={V.lines[bn (gP V.an) (aM x.ev 0)]with acc:=true}) (by rw[<-YR,<-YR];exact(r.o.i0.app _).app _) hlt De rfl rfl ?_;intro g' RT hff hkp;have hbl:=r.lt;have RY:sB V.s0≠some b:=λe=>r.ne (by rw[<-e];simp[RV.bl])
 have hk1:∀i,i<(B++g).length->sB V.s0≠some i->(B++g')[i]? =(B++g)[i]? :=λi hi hne=>by
  rw[hkp i (λb0 o n e he z=>hne (by rw[he,z];rfl)),<-YR,<-YR];exact Ny
 refine Rs (A3 t0 t1 @eZ) ?_;refine⟨g',{V with lines:=V.lines.set (bn (gP V.an) (aM x.ev 0)) {V.lines[bn (gP V.an) (aM x.ev 0)]with acc:=true},s0:=V.s0},rfl,r.Nb hff (λi hi=>.inl hi) ((hk1 b hbl RY).trans r.m) (λi hi h1 _=>hk1 i hi h1),?_⟩;simp only[dq,sp];rfl
def O8(r:bY B.length (B++g) b V)(c:Cx (B++g) V x .rel):dm P 176 [.ptr b 0,.agg x.row] (B++g) (λ_ k=>tN B b V x.ev .rel k):=by
 refine .eP 19 T.mix T.c176 ?_;intro ts hlen t0 t1;unfold fn176 yA;have hex:=@bw.box _ _ c.e;have lb:=@eE _ _ _ r.m;have i0:aS 1 x.sn (.i 0)=_:=(c.nm (i:=0) De).1;have d0:=@(c.nm (i:=0) De).2;have hn:aM x.ev 0∈lh V.an:=c.nk.kn 0 5 rfl;have hlt:bn (lh V.an) (aM x.ev 0)<V.aN.length:=by have:=cR hn;simpa [lh,RV.an]using this
 have ei:cT (λy:qo=>decide (y.name=aM x.ev 0)) V.aN=(bn (lh V.an) (aM x.ev 0):Int):=eT (f:=qo.name) hn;have ix:aS 4 V.s5 (.i (bn (lh V.an) (aM x.ev 0):Int))=some (cN V.s5 4 (bn (lh V.an) (aM x.ev 0)),.au):=c.o.i5.dG hlt;have sp:j5 V.an (aM x.ev 0)=V.aN[bn (lh V.an) (aM x.ev 0)]:=de hn;refine Rs (A8 t0 t1 @hex @lb @iG @aI @i0 @d0) ?_;refine WF.ce T.c146 (r146 T (c.o.i5.ext Xx) (by have:=c.w.len.l5;omega) _) λg1=>?_
 rw[ei];refine Rs (A3 t0 t1 ix) ?_;rw[YR B g,YR B];refine WR.vt (h0:=B) (x':={V.aN[bn (lh V.an) (aM x.ev 0)]with rel:=true}) (by rw[<-YR,<-YR];exact(r.o.i5.app _).app _) hlt De rfl rfl ?_;intro g' RT hff hkp;have hbl:=r.lt;have RY:sB V.s5≠some b:=λe=>r.ne (by rw[<-e];simp[RV.bl])
 have hk1:∀i,i<(B++g).length->sB V.s5≠some i->(B++g')[i]? =(B++g)[i]? :=λi hi hne=>by
  rw[hkp i (λb0 o n e he z=>hne (by rw[he,z];rfl)),<-YR,<-YR];exact Ny
 refine Rs (A3 t0 t1 @eZ) ?_;refine⟨g',{V with aN:=V.aN.set (bn (lh V.an) (aM x.ev 0)) {V.aN[bn (lh V.an) (aM x.ev 0)]with rel:=true},s5:=V.s5},rfl,r.Na hff (λi hi=>.inl hi) ((hk1 b hbl RY).trans r.m) (λi hi h1 _=>hk1 i hi h1),?_⟩;simp only[dq,sp];rfl
def Me(r:bY B.length (B++g) b V){d}(c:Cx (B++g) V x d)(hd:1<cC d)(h0:0<(bK d).length)(hn:aM x.ev 0∈iX V.an)(hlt1:bH x.ev 1<(gE V.an (aM x.ev 0)).bB.length)(s:Int):
  dm P 250 [.ptr b 0,.agg x.row,.i s] (B++g) (λ_ k=>∃g' V',k=B++g'/\bY B.length (B++g') b V'/\V'.an={V.an with aG:=mY V.an x.ev s}):=by
 refine .nM 28 T.mix T.c250 ?_;intro ts hlen t0 t1 t2;unfold fn250;have hex:=@bw.box _ _ c.e;have lb:=@eE _ _ _ r.m;have i0:aS 1 x.sn (.i 0)=_:=(c.nm (i:=0) h0).1;have d0:=@(c.nm (i:=0) h0).2;have j1:aS 1 x.sv (.i 1)=_:=(c.vl (i:=1) hd).1;have f1:=@(c.vl (i:=1) hd).2.1;have q1:=(c.vl (i:=1) hd).2.2;have hlt:bn (iX V.an) (aM x.ev 0)<V.aG.length:=by have:=cR hn;simpa [iX,RV.an]using this
 have ei:cT (λy:k9×AV=>decide (y.1.name=aM x.ev 0)) V.aG=(bn (iX V.an) (aM x.ev 0):Int):=(eT (f:=λy:k9×AV=>y.1.name) (by rw[<-iJ];exact hn)).trans (by rw[iJ]);have ix:aS 3 V.s4 (.i (bn (iX V.an) (aM x.ev 0):Int))=some (cN V.s4 3 (bn (iX V.an) (aM x.ev 0)),.au):=c.o.i4.dG hlt;have sp:(V.aG[bn (iX V.an) (aM x.ev 0)]).1=gE V.an (aM x.ev 0):=by
  have:=de (f:=k9.name) (l:=V.an.aG) (n:=aM x.ev 0) (d:=zS) hn;rw[show gE V.an (aM x.ev 0)=_ from this];exact Dv
 obtain⟨p,hp⟩:∃p,p=bn (iX V.an) (aM x.ev 0):=⟨_,rfl⟩;rw[<-hp]at ei ix;have hlt:p<V.aG.length:=by rw[hp];exact hlt
 have sp:V.aG[p].1=gE V.an (aM x.ev 0):=by rw[<-sp];congr 2
 have l2:∀{k:ah},Ext (B++g) k->aq none (lL V.s4 3 p 2) (λb=>k[b]?)=some (V.aG[p].2,.au):=λ{k} e=>c.o.i4.pW hlt rfl e
 have oj:=r.o.e4 _ (Za hlt);have hsl:(bH x.ev 1).toNat<V.aG[p].1.bB.length:=by rw[sp];omega
 have Xi:bH x.ev 1=((bH x.ev 1).toNat:Int):=Om
 have iy:aS 1 V.aG[p].2 (.i (bH x.ev 1))=some (cN V.aG[p].2 1 (bH x.ev 1).toNat,.au):=by
  rw[Xi];exact oj.ba.dG hsl
 refine Rs (A9 t0 t1 t2 @hex @lb @gh @aI @i0 @d0) ?_;refine WF.ce T.c145 (r145 T (c.o.i4.ext Xx) c.o.jw.2.2 (by have:=c.w.len.l4;omega) _) λg1=>?_
 rw[ei];refine Rs (A9 t0 t1 t2 ix @l2 @aY @j1 @f1 @iy) ?_;rw[YR B g,YR B];have VJ:cN V.aG[p].2 1 (bH x.ev 1).toNat=lL V.aG[p].2 1 (bH x.ev 1).toNat 0:=rfl;rw[VJ];refine WR.vt (h0:=B) (x':=s) (row:=aK) (L:=V.aG[p].1.bB) (by rw[<-YR,<-YR];exact(oj.app _).app _) hsl De rfl rfl ?_;intro g' RT hff hkp;have hk1:∀i,i<(B++g).length->sB V.aG[p].2≠some i->(B++g')[i]? =(B++g)[i]? :=λi hi hne=>by
  rw[hkp i (λb0 o n e he z=>hne (by rw[he,z];rfl)),<-YR,<-YR];exact Ny
 refine Rs (A4 t0 t1 t2 @eZ) ?_;refine⟨g',{V with aG:=V.aG.set p ({V.aG[p].1 with bB:=V.aG[p].1.bB.set (bH x.ev 1).toNat s},V.aG[p].2) },rfl,r.QX hlt ⟨rfl,rfl⟩ hff hk1,?_⟩;have e:mY V.an x.ev s=(V.aG.set p ({V.aG[p].1 with bB:=V.aG[p].1.bB.set (bH x.ev 1).toNat s},V.aG[p].2)).map Prod.fst:=by
  rw[mY,<-hp,<-sp,aa0];rfl
 rw[e];rfl
def Pb(r:bY B.length (B++g) b V)(c:Cx (B++g) V x .fV)(hc:bC V.an x.ev .fV=0):dm P 170 [.ptr b 0,.agg x.row] (B++g) (λ_ k=>tN B b V x.ev .fV k):=by
 refine .eP 11 T.mix T.c170 ?_;intro ts hlen t0 t1;unfold fn170 gA;have hex:=@bw.box _ _ c.e;have j2:aS 1 x.sv (.i 2)=_:=(c.vl (i:=2) De).1;have f2:=@(c.vl (i:=2) De).2.1;have k0:aM x.ev 0∈iX V.an:=c.nk.kn 0 4 rfl;have hlt:bH x.ev 1<(gE V.an (aM x.ev 0)).bB.length:=by
  exact QB
 refine Rs (A7 t0 t1 @hex @cp @aY @j2 @f2) ?_;rw[YR B g];refine WF.gen T.c250 (Me T (B:=B) (by rw[<-YR];exact r.app _) (by rw[<-YR];exact c.ext Xx) De De k0 hlt (bH x.ev 2)) ?_;rintro _ _ ⟨g',V',rfl,h1,h2⟩;exact JP
def Pa(r:bY B.length (B++g) b V)(c:Cx (B++g) V x .fail)(hc:bC V.an x.ev .fail=0):dm P 172 [.ptr b 0,.agg x.row] (B++g) (λ_ k=>tN B b V x.ev .fail k):=by
 refine .eP 7 T.mix T.c172 ?_;intro ts hlen t0 t1;unfold fn172 gA;have hex:=@bw.box _ _ c.e;have k0:aM x.ev 0∈iX V.an:=c.nk.kn 0 4 rfl;have hlt:bH x.ev 1<(gE V.an (aM x.ev 0)).bB.length:=by
  exact QB
 refine Rs (A4 t0 t1 @hex @cp) ?_;rw[YR B g];refine WF.gen T.c250 (Me T (B:=B) (by rw[<-YR];exact r.app _) (by rw[<-YR];exact c.ext Xx) De De k0 hlt (-1)) ?_;rintro _ _ ⟨g',V',rfl,h1,h2⟩;exact JP
end
def w9{k:Nat}(hk:k<=32):eo .and (.int .u64 (k:Int)) (.int .u64 4294967295)=some (.int .u64 (k:Int))/\eo .shr (.int .u64 (k:Int)) (.int .u64 32)=some (.int .u64 0):=by
 have:k=0\/k=1\/k=2\/k=3\/k=4\/k=5\/k=6\/k=7\/k=8\/k=9\/k=10\/k=11\/k=12\/k=13\/k=14\/k=15\/k=16\/k=17\/k=18\/k=19\/k=20\/k=21\/k=22\/k=23\/k=24\/k=25\/k=26\/k=27\/k=28\/k=29\/k=30\/k=31\/k=32:=Om
 rcases this with rfl|rfl|rfl|rfl|rfl|rfl|rfl|rfl|rfl|rfl|rfl|rfl|rfl|rfl|rfl|rfl|rfl|rfl|rfl|rfl|rfl|rfl|rfl|rfl|rfl|rfl|rfl|rfl|rfl|rfl|rfl|rfl|rfl<;>exact⟨rfl,rfl⟩
def zw:eo .and (.int .u64 0) (.int .u64 4294967295)=some (.int .u64 0)/\eo .shr (.int .u64 0) (.int .u64 32)=some (.int .u64 0):=⟨rfl,rfl⟩
def B3:eo .and (.int .u64 1) (.int .u64 4294967295)=some (.int .u64 1)/\eo .shr (.int .u64 1) (.int .u64 32)=some (.int .u64 0):=⟨rfl,rfl⟩
def IJ{x y:cX}{ρ:cX->AV}{h:ah}{b o n m N:Nat}{c:List AV}{tl:Bool}(hx:ρ x=.slice b o n 1)(hy:ρ y=.slice b 0 m 1)(hb:h[b]? =some (.cells c true tl))(hn:o+n<=c.length)(hm:m<=c.length)(h0:0<min m n):
  stepT (.zb 1 x y) ρ (λz=>h[z]?) N=some (.i (min m n:Nat),.set b (.cells (fK c o (c.take (min m n))) true tl)):=by
 have hc:fg 1 (λz=>h[z]?) (ρ y)=some (c.take m,m):=by
  rw[hy];simp only[fg,Zi,hb,ZN,aa3,aag];rw[Zb hm]
 have e:stepT (.zb 1 x y) ρ (λz=>h[z]?) N=(match ρ x,fg 1 (λz=>h[z]?) (ρ y)with
  |.slice b o n es',some (ys,k)=>
   if es' =1 then
    if min k n=0 then some (.i 0,.au)
    else
     match h[b]? with
     |some (.cells c true tl)=>if o+min k n*1<=c.length then some (.i (min k n:Nat),.set b (.cells (fK c o (ys.take (min k n*1))) true tl))else none
     |_=>none
   else none
  |.af,some _=>some (.i 0,.au)
  |_,_=>none):=rfl
 rw[e,hc,hx];simp only[Zi,hb,aa3];rw[Y6 Om,Zb Om,List.take_take,aaL (Nat.min_le_left _ _)]
def EP{x y ρ h b n N c v tl}(hx:ρ x=.slice b 0 n 1)(hy:aH h (ρ y) 1 [[v]])(hb:h[b]? =some (.cells c true tl))(hn:c.length=n)(h0:0<n):
  stepT (.zb 1 x y) ρ (λz=>h[z]?) N=some (.i 1,.set b (.cells (c.set 0 v) true tl)):=by
 have hc:=hy.fg;have e:stepT (.zb 1 x y) ρ (λz=>h[z]?) N=(match ρ x,fg 1 (λz=>h[z]?) (ρ y)with
  |.slice b o n es',some (ys,k)=>
   if es' =1 then
    if min k n=0 then some (.i 0,.au)
    else
     match h[b]? with
     |some (.cells c true tl)=>if o+min k n*1<=c.length then some (.i (min k n:Nat),.set b (.cells (fK c o (ys.take (min k n*1))) true tl))else none
     |_=>none
   else none
  |.af,some _=>some (.i 0,.au)
  |_,_=>none):=rfl
 have hm:min 1 n=1:=Om
 rw[e,hc,hx];simp only[Zi,hb,Zp,hm,aa3];rw[Y6 De,Zb Om];rfl
def Bw{v z c m k}(hm:c+m<=k):fK (List.replicate c v++List.replicate (k-c) z) c (List.replicate m v)=List.replicate (c+m) v++List.replicate (k-(c+m)) z:=by
 induction m generalizing c with
 |zero=>rfl
 |succ m ih=>
  rw[aav,pn];have hk:k-c=(k-(c+1))+1:=Om
  have e:(List.replicate c v++List.replicate (k-c) z).set c v=List.replicate (c+1) v++List.replicate (k-(c+1)) z:=by
   rw[ZV _ _ Si,Z4,Z2,hk,aav,List.set_cons_zero,List.replicate_succ',YR];rfl
  rw[e,ih Om];congr 2<;>omega
def Bm{v z:AV}{c m k:Nat}(hm:m<=c):(List.replicate c v++List.replicate (k-c) z).take m=List.replicate m v:=by
 rw[List.take_append_of_le_length (by simpa using hm),List.take_replicate,aaL hm]
section
variable {P:Program}(T:fp P) {h:ah}
include T
def r286{k:Nat}(hk:k<=32):ay P 286 [.int .u64 1,.int .u64 (k:Int)] h (λv _=>v=.dM [.int .u64 0,.int .u64 (k:Int)]):=by
 refine .eP 51 T.mix T.c286 ?_;intro ts hlen t0 t1;unfold fn286 gA;obtain⟨a1,a2⟩:=w9 hk;obtain⟨b1,b2⟩:=zw;obtain⟨c1,c2⟩:=B3;have w1:IntKind.u64.wrap (1*(k:Int))=(k:Int):=by rw[Int.one_mul];exact yv Om Om
 have w2:IntKind.u64.wrap (0*(k:Int))=0:=by rw[Int.zero_mul];rfl
 have w3:IntKind.u64.wrap (0+0)=0:=rfl;have w4:IntKind.u64.wrap (1*0)=0:=rfl;have w5:IntKind.u64.wrap (0*0)=0:=rfl;exact Rs (Dk t0 t1 @a1 @a2 @b1 @b2 @c1 @c2 @w1 @w2 @w3 @w4 @w5) Tv
def r267{k:Nat}(hk:k<=32):ay P 267 [.int .u64 1,.int .u64 (k:Int)] h (λv _=>v=.dM [.int .u64 0,.int .u64 (k:Int)]):=by
 refine .eP 30 T.mix T.c267 ?_;intro ts hlen t0 t1;unfold fn267 gA;refine Rs (A2 t0 t1) ?_;refine WF.ce T.c286 (r286 T hk) λg1=>?_
 exact Rs (A2 t0 t1) Tv
def r248{s:AV}(hs:aH h s 1 (([-1] :List Int).map aK)){k:Nat}(hk:k<=32)(hk0:0<k):ay P 248 [s,.i (k:Int)] h (λv h'=>Fr h.length h' v 1 ((List.replicate k (-1:Int)).map aK)):=by
 refine .eP 48 T.mix T.c248 ?_;intro ts hlen t0 t1;unfold fn248 gA;have q0:decide ((k:Int)<0)=false:=YS Om;have UI:=λG=>hs.aJ G
 have c1:IntKind.u64.wrap ((([-1] :List Int).length:Nat):Int)=1:=rfl;have c2:IntKind.u64.wrap (k:Int)=(k:Int):=yv Om Om;have q1:decide ((0:Int)<0)=false:=rfl;have q2:decide ((9223372036854775807:Int)<(k:Int))=false:=YS Om;have c3:IntKind.i64.wrap (k:Int)=(k:Int):=bu Om Om;have mk:∀{N:Nat},ti 1 8 [AV.i 0] (.i (k:Int)) (.i (k:Int)) N=some (.slice N 0 k 1,.push (.cells (dN k [AV.i 0]) true true)):=nW Om Om;refine Rs (A6 t0 t1 q0 @UI @c1 @c2) ?_;refine WF.ce T.c267 (r267 T hk) λg1=>?_
 refine Rs (A6 t0 t1 q1 q2 @c3 @mk) ?_;rw[EP (b:=(h++g1).length) (n:=k) (v:=.i (-1)) (c:=dN k [AV.i 0]) (tl:=true)]
 rotate_left
 ·exact(Sq t0)
 ·have:aH (h++g1++[ak.cells (dN k [AV.i 0]) true true]) s 1 [[AV.i (-1)]]:=hs.ext Xx;refine Zs t0 ?_;exact this
 ·exact a8
 ·rw[lR,aaW];simp
 ·exact hk0
 have hz:(dN k [AV.i 0]).set 0 (.i (-1))=List.replicate 1 (AV.i (-1))++List.replicate (k-1) (AV.i 0):=by
  rw[lR,aaW];obtain⟨n,rfl⟩:∃n,k=n+1:=⟨k-1,Om⟩;rw[aav,List.set_cons_zero];rfl
 rw[hz];refine Rs (A2 t0 t1) ?_;obtain⟨b0,S0⟩:∃b0,b0=(h++g1).length:=⟨_,rfl⟩;rw[<-S0];have hN:h.length<=b0:=by rw[S0];simp
 refine WL.inv T.mix (λn ts h'=>∃c:Nat,1<=c/\c<=k/\n=k-c/\h' =h++g1++[ak.cells (List.replicate c (AV.i (-1))++List.replicate (k-c) (AV.i 0)) true true]/\ts.length=48/\slot ts 7=.slice b0 0 k 1/\slot ts 8=.i (c:Int)) (k-1)
  ⟨1,Om,Om,rfl,rfl,Sn,(Sq t0),gM⟩ ?_
 rintro _ ts _ ⟨c,h1,h2,rfl,rfl,hlen,t7,t8⟩;have hb:(h++g1++[ak.cells (List.replicate c (AV.i (-1))++List.replicate (k-c) (AV.i 0)) true true])[b0]? =some (.cells (List.replicate c (AV.i (-1))++List.replicate (k-c) (AV.i 0)) true true):=by rw[S0];exact a8
 have WJ:∀G:Nat->Option ak,jh .sl G (.slice b0 0 k 1)=some k:=λ_=>rfl
 by_cases hlt:c<k
 ·have e3:decide ((c:Int)<(k:Int))=true:=YW Om;have s1:zC 1 (.slice b0 0 k 1) (some (.i (c:Int))) none=some (.slice b0 c (k-c) 1,.au):=by
   simp only[zC,Zi,my (kk:=.i64) h2,aa3,ZN]
  have s2:zC 1 (.slice b0 0 k 1) none (some (.i (c:Int)))=some (.slice b0 0 c 1,.au):=by
   simp only[zC,Zi,iF (kk:=.i64) h2,aa3,ZN,Nat.sub_zero]
  refine Rs (A6 t7 t8 @WJ e3 @s1 @s2) ?_;rw[IJ (b:=b0) (o:=c) (n:=k-c) (m:=c) (c:=List.replicate c (AV.i (-1))++List.replicate (k-c) (AV.i 0)) (tl:=true)]
  rotate_left
  ·exact(Sq t7)
  ·exact(Sq t7)
  ·exact hb
  ·exact J3
  ·exact J3
  ·omega
  rw[Bm (Nat.min_le_left _ _),Bw Om];have bU:∀X:ak,(h++g1++[ak.cells (List.replicate c (AV.i (-1))++List.replicate (k-c) (AV.i 0)) true true]).set b0 X=h++g1++[X]:=λX=>by rw[S0];exact Bv
  have hw:IntKind.i64.wrap ((c:Int)+((min c (k-c):Nat):Int))=((c+min c (k-c):Nat):Int):=by rw[bu Om Om];rfl
  refine Rs (A4 t7 t8 @bU @hw) ?_;exact⟨_,Om,c+min c (k-c),Om,Om,rfl,rfl,rfl⟩
 ·have e3:decide ((c:Int)<(k:Int))=false:=YS Om;have e4:c=k:=Om
  refine Rs (A4 t7 t8 @WJ e3) ?_;have Sg:(List.replicate c (AV.i (-1))++List.replicate (k-c) (AV.i 0))=((List.replicate k (-1:Int)).map aK).flatten:=by
   rw[e4,Z2,abj,Zr,List.map_replicate,aaW]
  have hlr:((List.replicate k (-1:Int)).map aK).length=k:=Si
  rw[Sg]at hb;have:=Fr.mk (N:=h.length) (es:=1) (cs:=(List.replicate k (-1:Int)).map aK) (b:=b0) (tl:=true) hN hb Si;rw[hlr]at this;rw[Sg];exact this
end
section
variable {P:Program}(T:fp P) {B g:ah}{b:Nat}{V:RV}{x:EV}
include T
def Pc(r:bY B.length (B++g) b V)(c:Cx (B++g) V x .run)(hc:bC V.an x.ev .run=0):dm P 168 [.ptr b 0,.agg x.row] (B++g) (λ_ k=>tN B b V x.ev .run k):=by
 refine .eP 28 T.mix T.c168 ?_;intro ts hlen t0 t1;unfold fn168;have hex:=@bw.box _ _ c.e;have lb:=@eE _ _ _ r.m;have i0:aS 1 x.sn (.i 0)=_:=(c.nm (i:=0) De).1;have d0:=@(c.nm (i:=0) De).2;have i1:aS 1 x.sn (.i 1)=_:=(c.nm (i:=1) De).1;have d1:=@(c.nm (i:=1) De).2;have j1:aS 1 x.sv (.i 1)=_:=(c.vl (i:=1) De).1;have f1:=@(c.vl (i:=1) De).2.1;have q1:=(c.vl (i:=1) De).2.2;have hn:1<=bH x.ev 1/\bH x.ev 1<=32:=by
  rw[bC]at hc;split at hc
  ·cases hc
  split at hc
  ·cases hc
  case isFalse hr=>exact iH hr
 obtain⟨k,hk⟩:∃k:Nat,bH x.ev 1=(k:Int):=⟨(bH x.ev 1).toNat,Om⟩;rw[hk]at f1;obtain⟨y,hy⟩:∃y:k9,y=⟨aM x.ev 0,aM x.ev 1,List.replicate k (-1)⟩:=⟨_,rfl⟩;refine Rs (Dk t0 t1 @hex @lb @gh @aI @aY @i0 @d0 @i1 @d1 @j1 @f1) ?_;refine WF.res T.c248 (r248 T (s:=.slice (B++g++[ak.b x.row]).length 0 1 1) (k:=k) (cj [-1]) Om Om) ?_;rintro t g1 SL;have Ta:bO (y,t)=[.str (aM x.ev 0),.str (aM x.ev 1),t]:=by rw[hy];rfl
 have SL:Fr (B++g).length (B++g++[ak.b x.row]++[ak.cells [AV.i (-1)] true true]++g1) t 1 (y.bB.map aK):=by rw[hy];exact SL.low (by simp only[YP,Zp];omega)
 have ot:=SL.ba.one;refine Rs (A3 t0 t1 @ot) ?_;rw[<-Ta];refine WR.fG (h0:=B) (cs:=V.aG.map bO) (ys:=[bO (y,t)]) (((((r.o.i4).app _).app _).app _).app _) (Fr.push (N:=0) (Zw _) [bO (y,t)] (by simp[bO])).ba De Si (by have:=c.w.len.l4;simp;omega) Xx ?_;intro g' RT hff hkp;have hrow:V.aG.map bO++[bO (y,t)]=(V.aG++[(y,t)]).map bO:=by rw[Y5];rfl
 rw[hrow]at hff;rw[hrow];have hbl:=r.lt;have RY:sB V.s4≠some b:=λe=>r.ne (by rw[<-e];simp[RV.bl])
 have hk1:∀i,i<(B++g).length->sB V.s4≠some i->(B++g')[i]? =(B++g)[i]? :=λi hi hne=>by
  exact Jq
 have mB:(B++g')[b]? =some (.b V.row):=(hk1 b hbl RY).trans r.m;have UL:=λ(b' o n e:Nat)=>iO (i:=5) (v:=.slice b' o n e) mB rfl De
 refine Rs (A4 t0 t1 @UL @eZ) ?_;refine Mi r hff ?_ (λi hi=>by cases hi;exact .inr (by simp only[YP,Zp];omega)) hk1 ?_ ?_
 ·refine Fr.low (N:=(B++g).length) ((show Fr (B++g).length _ t 1 _ from SL.app _).aD λi hi=>hkp i ?_ (λb0 o n e he z=>?_)) Si
  ·have:=(SL.bN hi).2;simp only[YP,Zp]at this ⊢;omega
  ·have h1:=(SL.bN hi).1;have h2:=(r.o.i4.bN (show sB V.s4=some i by rw[he,z];rfl)).2;omega
 ·intro i hi;exact z37
 ·have e:(bH x.ev 1).toNat=k:=Om
  rw[hy];simp[RV.an,dq,e]
end
end Go.Abs
namespace Go.Abs
section
variable {P:Program}{ro:Option Nat->Prop}{ks:List Kt}{ts:TS}{h:ah}{Q:Ex->TS->ah->Prop}{S:ah->Prop}{K:TS->ah->Prop}{l:List bI}
def pa(S:ah->Prop)(H:WM P S l ts h (kq P ro ks Q .normal)):WC P ro (.mD l) ks ts h Q:=⟨S,H⟩
def c9{o}(hS:S h)(hl:mK o=false)(hn:kF (o::l)=false)(H:WP P bL [o] [] ts h (λ_ Tt h1=>WM P S l Tt h1 K)):WM P S (o::l) ts h K:=⟨hS,.inr ⟨hn,.inr ⟨hl,H⟩⟩⟩
def o9{o}(hS:S h)(hl:kF (o::l)=true)(H:WP P ro (o::l) ks ts h Q):WM P S (o::l) ts h (kq P ro ks Q .normal):=⟨hS,.inl ⟨hl,H⟩⟩
def kW{n a d v}(hS:S h)(hv:∀g,S g->aq n (val ts a) (λb=>g[b]?)=some (v,.au))(H:WM P S l (put ts d v) h K)(hn:kF (({dst:=d,k:=.load n a,gd:=none,q:=true}:bI)::l)=false:=by rfl):WM P S ({dst:=d,k:=.load n a,gd:=none,q:=true} ::l) ts h K:=by
 refine⟨hS,.inr ⟨hn,.inl ⟨rfl,v,λg hg=>?_,H⟩⟩⟩;refine dB.run trivial ?_ ?_
 ·cases d<;>trivial
 ·have h1:stepT (.load n a) (val ts) (λb=>g[b]?) g.length=some (v,.au):=hv g hg;exact nL h1
end
def bY.QW{N b h k V}(r:bY N h b V){i}(hi:i<V.aj.length){y t}(hs:Fr N k V.s2 3 ((V.aj.set i (y,t)).map aX))(ht:Fr N k t 1 (y.aB.map ao))(hnt:∀j,sB t=some j->h.length<=j)
  (hk:∀j,j<h.length->sB V.s2≠some j->sB V.aj[i].2≠some j->k[j]? =h[j]?):bY N k b {V with aj:=V.aj.set i (y,t) }:=by
 have hin:∀j,some j∈V.bl->N<=j/\j<h.length:=λj hj=>r.o.dR hj
 let l1:List (Option Nat):=[sB V.s0,sB V.s1,sB V.s2,sB V.s3,sB V.s4,sB V.s5]++(V.aj.take i).map λx=>sB x.2
 let l2:List (Option Nat):=(V.aj.drop (i+1)).map (λx=>sB x.2)++(V.aE.map λx=>sB x.2)++(V.aG.map λx=>sB x.2)
 have hV:V.bl=l1++sB V.aj[i].2::l2:=by
  have e:V.aj=V.aj.take i++V.aj[i]::V.aj.drop (i+1):=by rw[<-aaD hi,aah]
  have e2:(V.aj.map λx=>sB x.2)=(V.aj.take i).map (λx=>sB x.2)++sB V.aj[i].2:: (V.aj.drop (i+1)).map (λx=>sB x.2):=by
   conv=>lhs;rw[e]
   simp only[Y5,ZP]
  exact z194
 have Xd:{V with aj:=V.aj.set i (y,t) }.bl=l1++sB t::l2:=by
  have e2:((V.aj.set i (y,t)).map λx=>sB x.2)=(V.aj.take i).map (λx=>sB x.2)++sB t:: (V.aj.drop (i+1)).map (λx=>sB x.2):=by
   rw[List.set_eq_take_append_cons_drop,Zb hi];simp only[Y5,ZP]
  exact z194
 have SC:=r.o.di;rw[hV]at SC;obtain⟨h1,h2,h3⟩:=aab.1 SC;have h4:=Z0.1 h2;have nti:∀j,some j∈l1\/some j∈l2->sB V.aj[i].2≠some j:=λj hj e=>by
  rcases hj with hj|hj
  ·exact h3 _ hj _ Si j rfl e
  ·exact h4.1 _ hj j e rfl
 have hlt:∀j,some j∈l1\/some j∈l2->j<h.length:=λj hj=>(hin j (by rw[hV];exact jg hj)).2
 have ns2:∀j,(some j∈[sB V.s0,sB V.s1]\/some j∈[sB V.s3,sB V.s4,sB V.s5]++((V.aj.map λx=>sB x.2)++(V.aE.map λx=>sB x.2)++(V.aG.map λx=>sB x.2)))->sB V.s2≠some j:=λj hj e=>by
  have WZ:lq ([sB V.s0,sB V.s1]++sB V.s2:: ([sB V.s3,sB V.s4,sB V.s5]++((V.aj.map λx=>sB x.2)++(V.aE.map λx=>sB x.2)++(V.aG.map λx=>sB x.2)))):=by
   have:=r.o.di;simp only[RV.bl]at this
   simpa using this
  obtain⟨a1,a2,a3⟩:=aab.1 WZ;rcases hj with hj|hj
  ·exact a3 _ hj _ Si j rfl e
  ·exact(Z0.1 a2).1 _ hj j e rfl
 have kp:∀j,(some j∈l1\/some j∈l2)->sB V.s2≠some j->k[j]? =h[j]? :=λj hj hn=>hk j (hlt j hj) hn (nti j hj)
 have own:cH N k {V with aj:=V.aj.set i (y,t) }:=by
  refine⟨r.o.i0.aD λj hj=>kp j (.inl (by rw[<-hj];simp[l1])) (ns2 j (.inl (by rw[<-hj];simp))),r.o.i1.aD λj hj=>kp j (.inl (by rw[<-hj];simp[l1])) (ns2 j (.inl (by rw[<-hj];simp))),hs,
   r.o.i3.aD λj hj=>kp j (.inl (by rw[<-hj];simp[l1])) (ns2 j (.inr (by rw[<-hj];simp))),r.o.i4.aD λj hj=>kp j (.inl (by rw[<-hj];simp[l1])) (ns2 j (.inr (by rw[<-hj];simp))),r.o.i5.aD λj hj=>kp j (.inl (by rw[<-hj];simp[l1])) (ns2 j (.inr (by rw[<-hj];simp))),?_,?_,?_,?_⟩
  ·intro x hx;obtain⟨n,hn,rfl⟩:=aa1 hx;have Wd:n<V.aj.length:=by simpa using hn
   by_cases hni:n=i
   ·subst hni;simp only[aaT];exact ht
   ·simp only[abi (aam hni)];refine(r.o.e2 _ (Za Wd)).aD λj hj=>kp j ?_ (ns2 j (.inr ?_))
    ·rcases Nat.lt_or_gt_of_ne hni with hlt|hlt
     ·left
      refine YZ.2 (.inr (Zv.2 ⟨V.aj[n],?_,hj⟩));exact List.mem_take_iff_getElem.2 ⟨n,Om,rfl⟩
     ·right
      simp only[l2,YZ];refine .inl (.inl (Zv.2 ⟨V.aj[n],?_,hj⟩));exact List.mem_drop_iff_getElem.2 ⟨n-(i+1),Om,by congr 1;omega⟩
    ·simp only[YZ];exact .inr (.inl (.inl (Zv.2 ⟨V.aj[n],Za Wd,hj⟩)))
  ·intro x hx;refine(r.o.e3 x hx).aD λj hj=>kp j (.inr ?_) (ns2 j (.inr ?_))
   ·simp only[l2,YZ];exact .inl (.inr (Zv.2 ⟨x,hx,hj⟩))
   ·simp only[YZ];exact .inr (.inl (.inr (Zv.2 ⟨x,hx,hj⟩)))
  ·intro x hx;refine(r.o.e4 x hx).aD λj hj=>kp j (.inr ?_) (ns2 j (.inr ?_))
   ·simp only[l2,YZ];exact .inr (Zv.2 ⟨x,hx,hj⟩)
   ·simp only[YZ];exact .inr (.inr (Zv.2 ⟨x,hx,hj⟩))
  ·show lq {V with aj:=V.aj.set i (y,t) }.bl;rw[Xd];refine SC.xN λj hj=>.inr ⟨λz hz e=>?_,λz hz e=>?_⟩
   ·subst e;have:=hlt j (.inl hz);have:=hnt j hj;omega
   ·subst e;have:=hlt j (.inr hz);have:=hnt j hj;omega
 have hne:=r.ne;rw[hV]at hne;refine⟨own,r.hN,?_,λhb=>?_⟩
 ·have n1:sB V.s2≠some b:=λe=>hne (jg (.inl (by rw[<-e];simp[l1])))
  have n2:sB V.aj[i].2≠some b:=λe=>hne (by rw[e];simp)
  exact(hk b r.lt n1 n2).trans r.m
 ·rw[Xd]at hb;rcases vH hb with z|z|z
  ·exact hne (jg (.inl z))
  ·have:=hnt b z.symm;have:=r.lt;omega
  ·exact hne (jg (.inr z))
set_option maxRecDepth 10000
attribute [local irreducible] WP WC WE WB WR WF WL WG fU
section
variable {P:Program}(T:fp P) {h:ah}
include T
def r266{L s}(hs:aH h s 1 (L.map ao))(hl:L.length<2^63)(n:By):ay P 266 [s,.str n] h (λv _=>v=.i (cT (λy=>decide (n=y)) L)):=by
 refine .eP 19 T.mix T.c266 ?_;intro ts hlen t0 t1;unfold fn266 gA;refine Rs (A3 t0 t1 hs.aJ) ?_;refine WL.inv T.mix (λm ts h'=>∃k:Nat,k<=L.length/\m=L.length-k/\h' =h/\L.findIdx? (λy=>decide (n=y))=((L.drop k).findIdx? (λy=>decide (n=y))).map (· +k)/\ts.length=19/\slot ts 0=s/\slot ts 1=.str n/\slot ts 7=.i L.length/\slot ts 8=.i k) L.length
  ⟨0,Om,rfl,rfl,Si,Sn,(Sq t0),(Sq t1),(Sq t0),gM⟩ ?_
 rintro _ ts _ ⟨k,hk,rfl,rfl,hi,hlen,t0,t1,t7,t8⟩;by_cases hlt:k<L.length
 ·have hd:L.drop k=L[k]::L.drop (k+1):=Si
  have e3:=ee hlt;have ix:=hs.dG (kk:=.i64) hlt;have ld:=hs.kY (i:=k) (x:=.str L[k]) hlt rfl (Ext.refl _);have e5:=wrapN (n:=k) Om;by_cases hp:n=L[k]
  ·have q:decide (n=L[k])=true:=YW hp;refine Rs (A8 t0 t1 t7 t8 e3 ix @ld q) ?_;rw[cT,hi,hd,aa8,q];simp
  ·have q:decide (n=L[k])=false:=YS hp;refine Rs (A9 t0 t1 t7 t8 e3 ix @ld q e5) ?_;refine⟨_,?_,k+1,Om,rfl,?_,rfl⟩
   ·omega
   ·rw[hi,hd,aa8,q];exact QS
 ·have e3:=fo hlt;have e4:k=L.length:=Om
  refine Rs (A5 t0 t1 t7 t8 e3) ?_;rw[cT,hi,e4,ZX];rfl
def r242{L:List (By)}{s:AV}(hs:aH h s 1 (L.map ao))(hl:L.length<2^63)(n:By):ay P 242 [s,.str n] h (λv _=>v=.bool (decide (n∈L))):=by
 refine .eP 9 T.mix T.c242 ?_;intro ts hlen t0 t1;unfold fn242 gA;refine Rs (A2 t0 t1) ?_;refine WF.ce T.c266 (r266 T hs hl n) λg1=>?_
 refine Rs (A2 t0 t1) ?_;rw[n8];congr 1;rw[Bool.eq_iff_iff];simp[aaj]
end
attribute [local irreducible] WM
section
variable {P:Program}(T:fp P) {B g:ah}{b:Nat}{V:RV}{x:EV}
include T
def Ph(r:bY B.length (B++g) b V)(c:Cx (B++g) V x .copy):dm P 158 [.ptr b 0,.agg x.row] (B++g) (λ_ k=>tN B b V x.ev .copy k):=by
 refine .eP 50 T.mix T.c158 ?_;intro ts hlen t0 t1;unfold fn158;have hex:=@bw.box _ _ c.e;have lb:=@eE _ _ _ r.m;have i0:aS 1 x.sn (.i 0)=_:=(c.nm (i:=0) De).1;have d0:=@(c.nm (i:=0) De).2;have i1:aS 1 x.sn (.i 1)=_:=(c.nm (i:=1) De).1;have d1:=@(c.nm (i:=1) De).2;have T3:V.aj.length<=64:=by have:=c.w.l2;simpa [RV.an]using this
 have htp:∀y∈V.aj,y.1.aB.length<2^30:=λy hy=>(c.w.ue.sh y hy).2
 refine Rs (kS t0 t1 @hex @lb @dy @aI @i0 @d0 @i1 @d1 c.o.i2.aJ) ?_;obtain⟨a,ha⟩:∃a,a=aM x.ev 0:=⟨_,rfl⟩;obtain⟨z,hz⟩:∃z,z=aM x.ev 1:=⟨_,rfl⟩;rw[<-ha,<-hz];refine WL.inv T.mix (λn ts h'=>∃(k:Nat) (g':ah) (U:RV),k<=V.aj.length/\n=V.aj.length-k/\h' =B++g'/\bY B.length (B++g') b U/\U.s2=V.s2/\U.aj.length=V.aj.length/\
   {U.an with aj:=V.an.aj} =V.an/\(∀i (hi:i<U.aj.length) (hi':i<V.aj.length),(U.aj[i]).1=if i<k then fO a z (V.aj[i]).1 else(V.aj[i]).1)/\
   ts.length=50/\slot ts 0=.ptr b 0/\slot ts 4=.str a/\slot ts 5=.str z/\slot ts 19=V.s2/\slot ts 20=.i V.aj.length/\slot ts 21=.i k) V.aj.length
  ⟨0,g++[ak.b x.row],V,Om,rfl,by rw[YR],by rw[<-YR];exact r.app _,rfl,rfl,rfl,λi hi hi'=>by rw[Y6 Om],Sn,(Sq t0),(Sq t0),(Sq t0),(Sq t0),(Sq t0),gM⟩ ?_
 clear t0 t1 hlen i0 d0 i1 d1 hex lb;clear ts;rintro _ ts _ ⟨k,g',U,hk,rfl,rfl,rU,Se,TF,hreg,hU,hlen,t0,t4,t5,t19,t20,t21⟩;by_cases hlt:k<V.aj.length
 ·have UU:k<U.aj.length:=Om
  have e3:=ee hlt;have e5:=wrapN (n:=k) Om;have oU:=rU.o.ok;have ix:aS 3 V.s2 (.i (k:Int))=some (cN V.s2 3 k,.au):=by rw[<-Se];exact oU.i2.dG UU
  have ld:∀{k':ah},Ext (B++g') k'->aq (some 3) (cN V.s2 3 k) (λb=>k'[b]?)=some (.agg (aX U.aj[k]),.au):=λ{k'} e=>by rw[<-Se];exact oU.i2.jD UU e
  have SG:U.aj[k]∈U.aj:=Za _;have hx1:(U.aj[k]).1=(V.aj[k]).1:=by rw[hU k UU hlt,Y6 Om]
  have hxl:(U.aj[k]).1.aB.length<2^30:=by rw[hx1];exact htp _ (Za _)
  have VG:=rU.o.e2 _ SG;have next:∀(U2:RV),U2.aj.length=V.aj.length->(∀i (hi:i<U2.aj.length) (hi':i<U.aj.length),(U2.aj[i]).1=if i=k then fO a z (U.aj[i]).1 else(U.aj[i]).1)->
    ∀i (hi:i<U2.aj.length) (hi':i<V.aj.length),(U2.aj[i]).1=if i<k+1 then fO a z (V.aj[i]).1 else(V.aj[i]).1:=by
   intro U2 a3 a5 i hi hi';exact QJ
  obtain⟨y,hy⟩:∃y,y=U.aj[k]:=⟨_,rfl⟩;rw[<-hy]at ld VG hxl;have oy:=VG.ba.one;unfold aX at ld;refine Rs (lQ t0 t4 t5 t19 t20 t21 e3 ix @ld @oy) ?_;refine WF.ce T.c242 (r242 T (VG.ba.ext Xx) Om a) λg1=>?_
  by_cases h1:a∈y.1.aB
  case neg=>
   have q1:decide (a∈y.1.aB)=false:=YS h1;rw[q1];refine Rs (A7 t0 t4 t5 t19 t20 t21 e5) ?_;have Vc:B++g'++[ak.b [AV.str y.1.name,.str y.1.line,y.2]]++g1=B++(g'++[ak.b [AV.str y.1.name,.str y.1.line,y.2]]++g1):=by simp only[YR]
   refine⟨_,Om,k+1,_,U,Om,rfl,Vc,by rw[<-Vc];exact(rU.app _).app _,Se,TF,hreg,next U TF (λi hi hi'=>?_),rfl⟩;split
   ·rename_i TO;subst TO;rw[<-hy,fO,Y6 (λw=>h1 w.1)]
   ·rfl
  have q1:decide (a∈y.1.aB)=true:=YW h1;rw[q1];refine Rs (A6 t0 t4 t5 t19 t20 t21) ?_;refine WF.ce T.c242 (r242 T (VG.ba.ext Xx) Om z) λg2=>?_
  by_cases h2:z∈y.1.aB
  ·have q2:decide (z∈y.1.aB)=true:=YW h2;rw[q2];refine Rs (A8 t0 t4 t5 t19 t20 t21 @Zg e5) ?_;have Vc:B++g'++[ak.b [AV.str y.1.name,.str y.1.line,y.2]]++g1++g2=B++(g'++[ak.b [AV.str y.1.name,.str y.1.line,y.2]]++g1++g2):=by simp only[YR]
   refine⟨_,Om,k+1,_,U,Om,rfl,Vc,by rw[<-Vc];exact((rU.app _).app _).app _,Se,TF,hreg,next U TF (λi hi hi'=>?_),rfl⟩;split
   ·rename_i TO;subst TO;rw[<-hy,fO,Y6 (λw=>w.2 h2)]
   ·rfl
  have q2:decide (z∈y.1.aB)=false:=YS h2;rw[q2];refine Rs (A7 t0 t4 t5 t19 t20 t21 @Zq) ?_;obtain⟨xb,hxb⟩:∃xb,xb=(B++g').length:=⟨_,rfl⟩;obtain⟨G,hG⟩:∃G,G=g'++[ak.b [AV.str y.1.name,.str y.1.line,y.2]]++g1++g2:=⟨_,rfl⟩;have Vc:B++g'++[ak.b [AV.str y.1.name,.str y.1.line,y.2]]++g1++g2=B++G:=by rw[hG];simp only[YR]
  have hex:Ext (B++g') (B++G):=by rw[<-Vc];exact Xx
  have mx:(B++G)[xb]? =some (.b [AV.str y.1.name,.str y.1.line,y.2]):=by
   rw[<-Vc,hxb,YR _ g1,YT Si,Y7 Om];simp
  have mb:(B++G)[b]? =some (.b U.row):=hex.some rU.m;have hfx2:Fr B.length (B++G) y.2 1 (y.1.aB.map ao):=by rw[<-Vc];exact((VG.app _).app _).app _
  have hs22:Fr B.length (B++G) V.s2 3 (U.aj.map aX):=by rw[<-Vc,<-Se];exact((rU.o.i2.app _).app _).app _
  rw[Vc,<-hxb];refine pa (λh=>h[b]? =some (.b U.row)/\h[xb]? =some (.b [AV.str y.1.name,.str y.1.line,y.2])) ?_;have hS:(λh:ah=>h[b]? =some (.b U.row)/\h[xb]? =some (.b [AV.str y.1.name,.str y.1.line,y.2])) (B++G):=⟨mb,mx⟩;refine c9 hS rfl rfl ?_;refine Rs t0 ?_;refine c9 hS rfl rfl ?_;refine Rs t0 ?_;refine c9 hS rfl rfl ?_;refine Rs t0 ?_;refine kW hS (v:=V.s2) (λg hg=>?_) ?_
  ·simp only[aQ,aT,bo,bp,reduceAdd,reduceMul,reduceLeDiff,reduceEqDiff,bz,hlen,Zf,Zi,t0,aA hg.1,dy,Se]
  refine Rs t0 ?_;refine c9 hS rfl rfl ?_;refine Rs t0 ?_;refine c9 hS rfl rfl ?_;refine Rs t0 ?_;refine kW hS (v:=y.2) (λg hg=>?_) ?_
  ·simp only[aQ,aT,bo,bp,reduceAdd,reduceMul,reduceLeDiff,reduceEqDiff,bz,hlen,Zf,Zi,t0,aA hg.2]
  refine Rs t0 ?_;refine c9 hS rfl rfl ?_;refine Rs (A2 t0 t5) ?_;obtain⟨zr,hzr⟩:∃zr,zr=ao z:=⟨_,rfl⟩;have hS2:(λh:ah=>h[b]? =some (.b U.row)/\h[xb]? =some (.b [AV.str y.1.name,.str y.1.line,y.2])) (B++G++[ak.cells [.str z] true true]):=⟨(Ext.app _ (Ext.refl _)).some mb,(Ext.app _ (Ext.refl _)).some mx⟩;have hxlt:xb<(B++G).length:=by
   rw[<-Vc,hxb];simp only[YP,YV,YX];omega
  refine c9 hS rfl rfl ?_;refine Rs t0 ?_;refine c9 hS2 rfl rfl ?_;refine Rs t0 ?_;refine WR.fG (h0:=B) (cs:=y.1.aB.map ao) (ys:=[ao z]) (hfx2.app _) (Fr.push (N:=0) (Zw _) [ao z] (by simp[ao])).ba De Si (by simp only[YY,YV,YX];omega) (by rw[YR];exact⟨_,rfl⟩) ?_;intro g3 Yx hff hkp;have hrow:y.1.aB.map ao++[ao z]=(y.1.aB++[z]).map ao:=by rw[Y5];rfl
  rw[hrow]at hff;rw[hrow];obtain⟨t',ht'⟩:∃t',t' =AV.slice (B++G++[ak.cells [.str z] true true]).length 0 ((y.1.aB++[z]).map ao).length 1:=⟨_,rfl⟩;rw[<-ht']at hff;rw[<-ht'];have o1:t'.one=true:=by rw[ht'];rfl
  have hGl:(B++g').length<=(B++G).length:=hex.len;have hty:sB t' =some (B++G++[ak.cells [.str z] true true]).length:=by rw[ht'];rfl
  have hbl:=rU.lt;have UE:sB y.2≠some b:=λe=>rU.ne (by rw[<-e,RV.bl,hy];simp only[YZ,Zv];exact .inl (.inl (.inr ⟨_,SG,rfl⟩)))
  have S2:∀i,sB y.2=some i->i<xb:=λi hi=>by rw[hxb];exact(VG.bN hi).2
  have hk3:∀i,i<(B++G).length->sB y.2≠some i->(B++g3)[i]? =(B++G)[i]? :=λi hi hne=>by
   rw[hkp i (by simp only[YP]at hi ⊢;omega) (λb0 o n e he z=>hne (by rw[he,z];rfl)),YT hi]
  have hS3:(λh:ah=>h[b]? =some (.b U.row)/\h[xb]? =some (.b [AV.str y.1.name,.str y.1.line,y.2])) (B++g3):=
   ⟨(hk3 b Om UE).trans mb,(hk3 xb hxlt (λe=>by have:=S2 _ e;omega)).trans mx⟩
  have hsy:∀j,sB V.s2=some j->sB y.2≠some j:=λj hj e=>by
   have WZ:lq ([sB U.s0,sB U.s1]++sB U.s2:: ([sB U.s3,sB U.s4,sB U.s5]++((U.aj.map λx=>sB x.2)++(U.aE.map λx=>sB x.2)++(U.aG.map λx=>sB x.2)))):=by
    have:=rU.o.di;simp only[RV.bl]at this
    simpa using this
   obtain⟨_,a2,_⟩:=aab.1 WZ;refine(Z0.1 a2).1 (sB y.2) ?_ j (by rw[Se];exact hj) e;simp only[YZ,Zv];exact .inr (.inl (.inl ⟨_,SG,by rw[<-hy]⟩))
  have hs23:Fr B.length (B++g3) V.s2 3 (U.aj.map aX):=hs22.aD λi hi=>hk3 i (hs22.bN hi).2 (hsy i hi)
  refine Rs t0 ?_;refine o9 hS3 rfl ?_;refine Rs (A3 t0 ix @o1) ?_;have hkU:k<U.aj.length:=UU;refine WR.vt (h0:=B) (x':=(⟨y.1.name,y.1.line,y.1.aB++[z]⟩,t')) (row:=aX) hs23 UU De o1 (by rw[<-hy];rfl) ?_;intro g4 hl4 hff4 hkp4;have hk4:∀i,i<(B++g').length->sB V.s2≠some i->sB y.2≠some i->(B++g4)[i]? =(B++g')[i]? :=λi hi n1 n2=>by
   rw[hkp4 i (λb0 o n e he z=>n1 (by rw[he,z];rfl)),hk3 i Om n2];exact hex.get hi
  have nb2:sB V.s2≠some b:=λe=>rU.ne (by rw[<-e,<-Se];simp[RV.bl])
  have ht4:Fr B.length (B++g4) t' 1 ((y.1.aB++[z]).map ao):=hff.aD λi hi=>by
   rw[hty]at hi;cases hi;refine hkp4 _ (λb0 o n e he zz=>?_);have:=(rU.o.i2.bN (show sB U.s2=some b0 by rw[Se,he];rfl)).2;have h3:(B++g').length<=(B++G++[ak.cells [.str z] true true]).length:=by simp only[YP]at hGl ⊢;omega
   omega
  refine Rs (A7 t0 t4 t5 t19 t20 t21 e5) ?_;refine⟨_,Om,k+1,g4,{U with aj:=U.aj.set k (⟨y.1.name,y.1.line,y.1.aB++[z]⟩,t') },Om,rfl,rfl,rU.QW UU (by rw[Se];exact hff4) ht4 (λj hj=>?_) (λj hj n1 n2=>hk4 j hj (by rw[<-Se];exact n1) (by rw[hy];exact n2)),Se,(by simp only[ZI];exact TF),hreg,next _ (by simp only[ZI];exact TF) (λi hi hi'=>?_),rfl⟩
  ·rw[hty]at hj;cases hj;simp only[YP]at hGl ⊢;omega
  ·by_cases TO:i=k
   ·subst TO;simp only[aaT,Zi];rw[<-hy,fO,Zb ⟨h1,h2⟩]
   ·exact JI
 ·have e3:decide ((k:Int)<V.aj.length)=false:=YS Om;have e4:k=V.aj.length:=Om
  refine Rs (A8 t0 t4 t5 t19 t20 t21 e3 @eZ) ?_;refine⟨g',U,rfl,rU,?_⟩;exact QR
end
def HV.now(V:HV):RV:=V.cJ.getLastD RV.zero
def HV.jI(V:HV):V.now.an=V.bU.now:=by
 rw[HV.now,HV.bU,hO.now];show _=(V.cJ.map RV.an).getLastD eM.zero;rw[aal,aal,List.getLast?_map];cases V.cJ.getLast? <;>rfl
structure zt(h:ah)(b:Nat)(V:HV):Prop where
 hb:h[b]? =some (.b [V.se,V.sc,V.sr])
 ie:aH h V.se 5 (V.c8.map EV.row)
 ic:aH h V.sc 5 (V.eV.map EV.row)
 ig:aH h V.sr 7 (V.cJ.map RV.row)
 ae:∀x∈V.c8,bw h x
 ac:∀x∈V.eV,bw h x
 ag:∀x∈V.cJ,aC h x
theorem zt.ext{h k b V}(o:zt h b V)(e:Ext h k):zt k b V:=
 ⟨e.some o.hb,o.ie.ext e,o.ic.ext e,o.ig.ext e,λx hx=>(o.ae x hx).ext e,λx hx=>(o.ac x hx).ext e,λx hx=>(o.ag x hx).ext e⟩
def cF.rd{N h b V}(o:cF N h b V):zt h b V:=
 ⟨o.hb,o.oe.ba,o.oc.ba,o.og.ba,λx hx=>(o.ae x hx).sub (jB.fJ _ _),λx hx=>(o.ac x hx).sub (jB.fJ _ _),λx hx=>(o.ag x hx).sub (jB.fJ _ _)⟩
theorem zt.now{h b V}(o:zt h b V):aC h V.now:=by
 rw[HV.now,aal];cases hx:V.cJ.getLast? with
 |none=>exact aC.zero
 |some R=>exact o.ag R (abg hx)
def aC.st{h V}(o:aC h V){b a0 a1 a2 a3 a4 a5 a6 tl}:km 7 0 (.agg V.row) b (.cells [a0,a1,a2,a3,a4,a5,a6] true tl)=some (az,.set b (.cells V.row true tl)):=by
 refine(lT (l:=V.row) rfl o.row (by show 0+7<=7;omega)).trans ?_;rfl
def bw.st{h x}(o:bw h x){b a0 a1 a2 a3 a4 tl}:km 5 0 (.agg x.row) b (.cells [a0,a1,a2,a3,a4] true tl)=some (az,.set b (.cells x.row true tl)):=by
 refine(lT (l:=x.row) rfl o.row (by show 0+5<=5;omega)).trans ?_;rfl
def Ii{e d}(hd:d≠.eF):e.kind=bh d↔kH e=d:=by
 rw[kH];constructor
 ·intro h;rw[h,js];rfl
 ·intro h;cases hk:gT e.kind with
  |none=>rw[hk]at h;exact absurd h.symm hd
  |some c=>rw[hk]at h;cases h;exact bW hk
structure kO(H:hO):Prop where
 rg:∀R∈H.cJ,eJ R
 ln:H.cJ.length=H.eV.length
 le:H.eV.length<=H.c8.length
 ev:∀e∈H.c8,∃d,ko e d
 cn:∀e∈H.eV,∃d,ko e d
theorem kO.zero:kO hO.zero:=by
 refine⟨?_,rfl,Y9 _,?_,?_⟩
 all_goals intro x hx;cases hx
theorem kO.now{H}(w:kO H):eJ H.now:=by
 rw[hO.now,aal];cases hx:H.cJ.getLast? with
 |none=>exact eJ.zero
 |some R=>exact w.rg R (abg hx)
section
variable {P:Program}(T:fp P)
include T
def FT{B g b V x d ro ks ts Q dd l}(hd:d≠.eF)(r:bY B.length (B++g) b V)(c:Cx (B++g) V x d)(hc:bC V.an x.ev d=0)(gl:Gl (B++g))
  (K:∀v h',tN B b V x.ev d h'->WP P ro l ks (put ts dd v) h' Q):WF P ro false (pv d) [.ptr b 0,.agg x.row] dd l ks ts (B++g) Q:=by
 cases d with
 |eF=>exact absurd rfl hd
 |line=>exact WF.gen (a:=[]) (c:=[]) T.c149 (Pm T r c) K
 |tape=>exact WF.gen (a:=[]) (c:=[]) T.c152 (Pk T r c) K
 |gx=>exact WF.gen (a:=[]) (c:=[]) T.c156 (Pj T r c) K
 |copy=>exact WF.gen (a:=[]) (c:=[]) T.c158 (Ph T r c) K
 |accept=>exact WF.gen (a:=[]) (c:=[]) T.c160 (Pg T r c) K
 |source=>exact WF.gen (a:=[]) (c:=[]) T.c162 (Pf T r c) K
 |fW=>exact WF.gen (a:=[]) (c:=[]) T.c164 (Pe T r c hc gl) K
 |merge=>exact WF.gen (a:=[]) (c:=[]) T.c166 (Pd T r c) K
 |run=>exact WF.gen (a:=[]) (c:=[]) T.c168 (Pc T r c hc) K
 |fV=>exact WF.gen (a:=[]) (c:=[]) T.c170 (Pb T r c hc) K
 |fail=>exact WF.gen (a:=[]) (c:=[]) T.c172 (Pa T r c hc) K
 |gy=>exact WF.gen (a:=[]) (c:=[]) T.c174 (O9 T r c) K
 |rel=>exact WF.gen (a:=[]) (c:=[]) T.c176 (O8 T r c) K
variable {h:ah}
def r79{V b}(o:zt h b V)(hl:V.cJ.length<=1000):ay P 79 [.ptr b 0] h (λv _=>v=.agg V.now.row):=by
 refine .kU 20 T.mix T.c79 ?_;intro ts hlen t0;unfold fn79 gA;have hb:=o.hb;have lb:=@eE _ _ _ hb;refine Rs (A3 t0 @lb o.ig.aJ) ?_;rcases List.eq_nil_or_concat V.cJ with hn|⟨L,R,hn⟩
 ·have R2:V.cJ.length=0:=by rw[hn];rfl
  have e1:decide ((0:Int)<(V.cJ.length:Int))=false:=YS Om;refine Rs (A2 t0 e1) ?_;rw[HV.now,hn];rfl
 ·have hlenR:V.cJ.length=L.length+1:=by rw[hn];simp
  have e1:decide ((0:Int)<(V.cJ.length:Int))=true:=YW Om;have e2:IntKind.i64.wrap ((V.cJ.length:Int)-1)=(L.length:Int):=by rw[bu Om Om];omega
  have Xg:L.length<V.cJ.length:=Om
  have ix:=o.ig.dG (kk:=.i64) Xg;have ld:∀{k':ah},Ext h k'->_:=λ{k'} e=>o.ig.jD Xg e
  have hR:V.cJ[L.length]=R:=by simp only[hn];simp
  rw[hR]at ld;have st:=@aC.st h R (o.ag R (by rw[hn];simp));refine Rs (A8 t0 e1 e2 @lb ix @ld @st @aF) ?_;rw[HV.now,hn];simp
def r116{V b x d}(o:zt h b V)(w:kO V.bU)(hl:V.c8.length<=1000)(ox:bw h x)(wx:ko x.ev d)(gl:Gl h):
  ay P 116 [.ptr b 0,.agg x.row] h (λv _=>v=.i (kj V.bU x.ev)):=by
 have hcl:V.eV.length<=V.c8.length:=by have:=w.le;simpa [HV.bU]using this
 have Tl:V.cJ.length=V.eV.length:=by have:=w.ln;simpa [HV.bU]using this
 refine .eP 106 T.mix T.c116 ?_;intro ts hlen t0 t1;unfold fn116;have hb:=o.hb;have lb:=@eE _ _ _ hb;have hex:=@bw.box _ _ ox;have ew:IntKind.i64.wrap ((V.c8.length:Int)+1)=(V.c8.length:Int)+1:=bu Om Om;by_cases h1:x.ev.num=(V.c8.length:Int)+1
 case neg=>
  have q1:decide (x.ev.num≠(V.c8.length:Int)+1)=true:=YW h1;refine Rs (A8 t0 t1 @lb @hex @nw o.ie.aJ @ew q1) ?_;rw[kj,Zb (by simpa [HV.bU]using h1)]
 have q1:decide (x.ev.num≠(V.c8.length:Int)+1)=false:=YS (λz=>z h1);have RM:kH x.ev=d:=by rw[kH,wx.kd];rfl
 rw[kj,Y6 (by simpa [HV.bU]using h1),RM];by_cases h2:d=.eF
 ·have q2:decide (x.ev.kind=[117,110,100,111])=true:=YW (by rw[bW wx.kd,h2];rfl);rw[Zb h2];refine Rs (kS t0 t1 @lb @hex @nw @bj o.ie.aJ o.ic.aJ @ew q1 q2) ?_;rcases List.eq_nil_or_concat V.eV with hn|⟨L,c,hn⟩
  ·have R2:V.eV.length=0:=by rw[hn];rfl
   have e1:decide ((V.eV.length:Int)=0)=true:=YW Om;refine Rs (A2 t0 e1) ?_;simp only[HV.bU,hn];rfl
  ·have hlenR:V.eV.length=L.length+1:=by rw[hn];simp
   have e1:decide ((V.eV.length:Int)=0)=false:=YS Om;have e2:IntKind.i64.wrap ((V.eV.length:Int)-1)=(L.length:Int):=by rw[bu Om Om];omega
   have Xg:L.length<V.eV.length:=Om
   have ix:=o.ic.dG (kk:=.i64) Xg;have hR:V.eV[L.length]=c:=by simp only[hn];simp
   have lf:∀{k':ah},Ext h k'->aq none (lL V.sc 5 L.length 1) (λb=>k'[b]?)=some (.str c.ev.kind,.au):=λ{k'} e=>by
    refine o.ic.pW Xg ?_ e;rw[hR];rfl
   refine Rs (A6 t0 e1 e2 @lb ix @lf) ?_;refine WF.ce T.c85 (r85 T _ _) λg1=>?_
   refine Rs t0 ?_;have e3:decide (c.ev.kind=[114,101,108,101,97,115,101])=decide (kH c.ev=.rel):=aaI.2 (Ii (d:=.rel) De);have e4:V.bU.eV.getLast? =some c.ev:=by simp[HV.bU,hn]
   rw[e3,e4];by_cases h5:kH c.ev=.rel<;>simp[bZ,h5]
 have q2:decide (x.ev.kind=[117,110,100,111])=false:=YS λz=>h2 (by
  have:=wx.kd;rw[z]at this;exact(ZU ((js .eF).symm.trans this)).symm)
 rw[Y6 h2,<-V.jI];have wn:eJ V.now.an:=by rw[V.jI];exact w.now
 have on:=o.now;have ltk:0<cC d:=by cases d<;>first|exact absurd rfl h2|decide
 have SB:0<x.ev.cB.length:=by rw[wx.vl];exact ltk
 have qu:aS 1 x.sv (.i 0)=some (cN x.sv 1 0,.au):=ox.v.qu SB;have ev0:bH x.ev 0=x.ev.cB[0]:=by rw[bH,ZH,YU SB];rfl
 have ld0:∀{k':ah},Ext h k'->aq none (cN x.sv 1 0) (λb=>k'[b]?)=some (.i (bH x.ev 0),.au):=λ{k'} e=>by
  rw[ev0];exact ox.v.kY SB rfl e
 refine Rs (kS t0 t1 @lb @hex @nw @bj o.ie.aJ o.ic.aJ @ew q1 q2) ?_;refine WF.ce T.c79 (r79 T (o.ext Xx) Om) λg1=>?_
 have st:=@aC.st h V.now on;rw[fY];by_cases h3:bH x.ev 0<V.now.an.tick
 ·have q3:decide (bH x.ev 0<V.now.tick)=true:=YW h3;refine Rs (A8 t0 t1 @st @sV @aY @qu @ld0 q3) ?_;rw[Zb h3]
 have q3:decide (bH x.ev 0<V.now.tick)=false:=YS h3;rw[Y6 h3];refine Rs (A8 t0 t1 @st @sV @aY @qu @ld0 q3) ?_;refine WF.res T.c90 (r90 T) ?_;rintro _ g2 ⟨vf,rfl,hk⟩;obtain⟨H,hH⟩:∃H,H=h++[ak.b x.row]++g1++[ak.b V.now.row]:=⟨_,rfl⟩;obtain⟨eb,heb⟩:∃eb,eb=h.length:=⟨_,rfl⟩;obtain⟨rb,Wx⟩:∃rb,rb=(h++[ak.b x.row]++g1).length:=⟨_,rfl⟩;have mr:(H++g2)[rb]? =some (.b V.now.row):=by rw[hH,Wx];exact(Ext.app _ (Ext.refl _)).some a8
 have me:(H++g2)[eb]? =some (.b x.row):=by rw[hH,heb];exact(show Ext (h++[ak.b x.row]) _ from Xx).some a8
 rw[<-hH]at hk ⊢;rw[<-heb,<-Wx];have lk:∀{z:AV},gX .s z false (.map H.length) (.str x.ev.kind) (λb=>(H++g2)[b]?)=lH z false ((gT x.ev.kind).map vf):=hk.look;rw[wx.kd]at lk;have Sl:∀{z:AV},_=some (vf d,iT.au):=@lk;obtain⟨rs,a,hv,hr,ha,hab⟩:=(hk.k d).ex;rw[hv]at Sl;have c1:=mg d;have c2:=lJ d;have c3:=hr.one;have le:=@eE _ _ _ me;have lr:=@eE _ _ _ mr;refine Rs (mQ t0 t1 @le @bj @bS @Sl @c1 @c2 @c3 @ha hr.aJ @iR) ?_;obtain⟨L,hL⟩:∃L,L=bK d:=⟨_,rfl⟩;have hnl:x.ev.names.length=L.length:=by rw[hL];exact wx.nl
 have Xg:L.length<=3:=by rw[hL];cases d<;>decide
 have XM:∀r∈L,r.1<6:=by rw[hL];cases d<;>decide
 rw[<-hL]at hr ⊢;obtain⟨kb,hkb⟩:∃kb,kb=(H++g2).length:=⟨_,rfl⟩;have hex:Ext h (H++g2):=by rw[hH];exact Xx
 have UN:Ext (H++g2) (H++g2++[ak.b [rs,.i (cC d:Int),j7 d,pv d,a]]):=Xx;have mk:(H++g2++[ak.b [rs,.i (cC d:Int),j7 d,pv d,a]])[kb]? =some (.b [rs,.i (cC d:Int),j7 d,pv d,a]):=by rw[hkb];exact a8
 obtain⟨H2,VQ⟩:∃H2,H2=H++g2++[ak.b [rs,.i (cC d:Int),j7 d,pv d,a]]:=⟨_,rfl⟩;rw[<-VQ]at mk UN;have hx3:Ext h H2:=hex.trans UN;have lk:=@eE _ _ _ mk;rw[<-VQ,<-hkb];have UI:∀(i:Nat) (hi:i<L.length),aS 1 x.sn (.i (i:Int))=some (cN x.sn 1 i,.au):=λi hi=>ox.n.dG Om
 have hld:∀(i:Nat) (hi:i<L.length) (k':ah),Ext h k'->aq none (cN x.sn 1 i) (λb=>k'[b]?)=some (.str (aM x.ev i),.au):=λi hi k' e=>by
  exact z72
 refine WL.inv T.mix (λm ts h'=>∃k:Nat,k<=L.length/\m=L.length-k/\Ext H2 h'/\mS V.now.an x.ev L 0=mS V.now.an x.ev (L.drop k) k/\ts.length=106/\slot ts 3=.ptr eb 0/\slot ts 6=.ptr rb 0/\slot ts 7=.ptr kb 0/\slot ts 56=rs/\slot ts 57=.i L.length/\slot ts 58=.i k) L.length
  ⟨0,Om,rfl,.refl _,rfl,Sn,Sw,Sw,Sw,Sw,Sw,gM⟩ ?_
 clear t0 t1 hlen lb hb hex le lr;clear ts;rintro _ ts h' ⟨k,hk,rfl,TX,hu,hlen,t3,t6,t7,t56,t57,t58⟩;have le:∀{k' n a},Ext h' k'->aq n (.ptr eb a) (λz=>k'[z]?)=dE n a (.b x.row):=λ{_ _ _} e=>aA (((UN.trans TX).trans e).some me)
 have lr:∀{k' n a},Ext h' k'->aq n (.ptr rb a) (λz=>k'[z]?)=dE n a (.b V.now.row):=λ{_ _ _} e=>aA (((UN.trans TX).trans e).some mr)
 by_cases hlt:k<L.length
 ·have e3:=ee hlt;have e5:=wrapN (n:=k) Om;have ix:=hr.dG (kk:=.i64) hlt;have ld:∀{k'},Ext h' k'->aq (some 2) (cN rs 2 k) (λb=>k'[b]?)=some (.agg (fQ L[k]),.au):=λ{k'} e=>hr.jD hlt ((UN.trans TX).trans e)
  have iy:=UI k hlt;have ly:∀{k'},Ext h' k'->aq none (cN x.sn 1 k) (λb=>k'[b]?)=some (.str (aM x.ev k),.au):=λ{k'} e=>hld k hlt k' ((hx3.trans TX).trans e)
  have hd:L.drop k=L[k]::L.drop (k+1):=Si
  obtain⟨r,Vs⟩:∃r,r=L[k]:=⟨_,rfl⟩;have Wa:r.1<6:=by rw[Vs];exact XM _ (Za _)
  rw[hd,<-Vs,mS]at hu;rw[<-Vs,fQ]at ld;cases SY:r.2 with
  |false=>
   rw[SY]at ld hu;refine Rs (lQ t3 t6 t7 t56 t57 t58 e3 ix @ld e5) ?_;exact JU
  |true=>
   rw[SY]at ld hu;refine Rs (yu t3 t6 t7 t56 t57 t58 e3 ix @ld @iy @ly @le @lr @aF @aI) ?_;refine WF.ce T.c86 (r86 T ((on.ext (hx3.trans TX)).ext Xx) wn.len Wa _) λg3=>?_
   cases hh:dC V.now.an r.1 (aM x.ev k)with
   |true=>
    rw[hh]at hu;refine Rs (A8 t3 t6 t7 t56 t57 t58 @Zg e5) ?_;exact JU
   |false=>
    rw[hh]at hu;have hu1:mS V.now.an x.ev L 0=true:=by rw[hu];rfl
    refine Rs (A7 t3 t6 t7 t56 t57 t58 @Zq) ?_;refine⟨(hx3.trans TX).trans Xx,?_⟩;have e6:kD d V.now.an x.ev=10:=by rw[kD,<-hL,Zb hu1]
    rw[e6,Zb De]
 ·have e3:=fo hlt;have e4:k=L.length:=Om
  have UF:mS V.now.an x.ev L 0=false:=by rw[hu,e4,ZX];rfl
  have lk2:∀{k' n a'},Ext h' k'->aq n (.ptr kb a') (λz=>k'[z]?)=dE n a' (.b [rs,.i (cC d:Int),j7 d,pv d,a]):=λ{_ _ _} e=>lk (TX.trans e)
  refine Rs (A9 t3 t6 t7 t56 t57 t58 e3 @lk2 hr.aJ) ?_;have hrH:aH h' rs 2 (L.map fQ):=hr.ext (UN.trans TX);refine WL.inv T.mix (λm ts Xh=>∃k:Nat,k<=L.length/\m=L.length-k/\Ext h' Xh/\qN V.now.an x.ev L 0=qN V.now.an x.ev (L.drop k) k/\ts.length=106/\slot ts 3=.ptr eb 0/\slot ts 6=.ptr rb 0/\slot ts 7=.ptr kb 0/\slot ts 79=rs/\slot ts 80=.i L.length/\slot ts 81=.i k) L.length
   ⟨0,Om,rfl,.refl _,rfl,Sn,(Sq t3),(Sq t6),(Sq t7),Sw,Sw,gM⟩ ?_
  clear t3 t6 t7 t56 t57 t58 hlen le lr lk2 e3 e4 hu lk;clear hlt hk ts k;rintro _ ts Xh ⟨k,hk,rfl,Wt,hu,hlen,t3,t6,t7,t79,t80,t81⟩;have le:∀{k' n a},Ext Xh k'->aq n (.ptr eb a) (λz=>k'[z]?)=dE n a (.b x.row):=λ{_ _ _} e=>aA ((((UN.trans TX).trans Wt).trans e).some me)
  have lr:∀{k' n a},Ext Xh k'->aq n (.ptr rb a) (λz=>k'[z]?)=dE n a (.b V.now.row):=λ{_ _ _} e=>aA ((((UN.trans TX).trans Wt).trans e).some mr)
  have lk2:∀{k' n a'},Ext Xh k'->aq n (.ptr kb a') (λz=>k'[z]?)=dE n a' (.b [rs,.i (cC d:Int),j7 d,pv d,a]):=λ{_ _ _} e=>aA (((TX.trans Wt).trans e).some mk)
  by_cases hlt:k<L.length
  ·have e3:=ee hlt;have e5:=wrapN (n:=k) Om;have ix:=hr.dG (kk:=.i64) hlt;have ld:∀{k'},Ext Xh k'->aq (some 2) (cN rs 2 k) (λb=>k'[b]?)=some (.agg (fQ L[k]),.au):=λ{k'} e=>hrH.jD hlt (Wt.trans e)
   have iy:=UI k hlt;have ly:∀{k'},Ext Xh k'->aq none (cN x.sn 1 k) (λb=>k'[b]?)=some (.str (aM x.ev k),.au):=λ{k'} e=>hld k hlt k' (((hx3.trans TX).trans Wt).trans e)
   have hd:L.drop k=L[k]::L.drop (k+1):=Si
   obtain⟨r,Vs⟩:∃r,r=L[k]:=⟨_,rfl⟩;have Wa:r.1<6:=by rw[Vs];exact XM _ (Za _)
   rw[hd,<-Vs,qN]at hu;rw[<-Vs,fQ]at ld;cases SY:r.2 with
   |true=>
    rw[SY]at ld hu;refine Rs (kS t3 t6 t7 t79 t80 t81 e3 ix @ld e5 @Zg) ?_;exact JV
   |false=>
    rw[SY]at ld hu;refine Rs (Dr t3 t6 t7 t79 t80 t81 e3 ix @ld @iy @ly @le @lr @aF @aI @Zq) ?_;refine WF.ce T.c86 (r86 T ((on.ext ((hx3.trans TX).trans Wt)).ext Xx) wn.len Wa _) λg3=>?_
    cases hh:dC V.now.an r.1 (aM x.ev k)with
    |false=>
     rw[hh]at hu;refine Rs (A7 t3 t6 t7 t79 t80 t81 e5) ?_;exact JV
    |true=>
     rw[hh]at hu;have hu1:qN V.now.an x.ev L 0=true:=by rw[hu];rfl
     refine Rs (A6 t3 t6 t7 t79 t80 t81) ?_;refine⟨((hx3.trans TX).trans Wt).trans Xx,?_⟩;have e6:kD d V.now.an x.ev=9:=by rw[kD,<-hL,Y6 (by rw[UF];decide),Zb hu1]
     rw[e6,Zb De]
  ·have e3:=fo hlt;have e4:k=L.length:=Om
   have Yh:qN V.now.an x.ev L 0=false:=by rw[hu,e4,ZX];rfl
   have e6:kD d V.now.an x.ev=0:=by rw[kD,<-hL,Y6 (by rw[UF];decide),Y6 (by rw[Yh];decide)]
   rw[e6,Y6 De];have V4:=(hx3.trans TX).trans Wt;refine Rs (mQ t3 t6 t7 t79 t80 t81 e3 @lk2 @lr @le @aF @cp) ?_;refine WF.val (PY T h2 ⟨on.ext V4,wn,ox.ext V4,wx,vB e6⟩ (gl.ext V4)) ?_;rintro _ g4 rfl;refine Rs t3 ?_;exact⟨V4.trans Xx,trivial⟩
end
def JD(B h0:ah)(b:Nat)(V:HV)(e:ed)(v:AV)(k:ah):Prop:=∃g' V',k=B++g'/\v=.i (eC V.bU e)/\cF B.length (B++g') b V'/\V'.bU=(if eC V.bU e=0 then iS V.bU e else V.bU)/\(∀i,i<h0.length->some i∉V.ex b->(B++g')[i]? =h0[i]?)/\∀j,some j∈V'.ex b->some j∈V.ex b\/h0.length<=j
def JD.no{B g g1 b V e}(o:cF B.length (B++g) b V)(h:eC V.bU e≠0){n}(hn:n=eC V.bU e):JD B (B++g) b V e (.i n) (B++g++g1):=
 ⟨g++g1,V,by rw[YR],by rw[hn],by rw[<-YR];exact o.app _,by rw[Y6 h],λi hi _=>by rw[<-YR,YT hi],λj hj=>.inl hj⟩
def bw.GK{h x}(o:bw h x){M}:yg 5 1 (eI [.i 0,.str [],.af,.af,.str []] [(0,5,.agg x.row)]) M=some (.slice M 0 1 5,.push (.cells x.row true true)):=yf (c:=x.row) o.row rfl De
def aC.GK{h V}(o:aC h V){M}:yg 7 1 (eI [.i 0,.af,.af,.af,.af,.af,.af] [(0,7,.agg V.row)]) M=some (.slice M 0 1 7,.push (.cells V.row true true)):=yf (c:=V.row) o.row rfl De
theorem bw.fJ{h x}(o:bw h x){ex}(h1:∀j,sB x.sn=some j->some j∉ex)(h2:∀j,sB x.sv=some j->some j∉ex):bw (Go.Abs.fJ ex h) x:=⟨o.n.fJ h1,o.v.fJ h2⟩
theorem aC.fJ{h V}(o:aC h V){ex}(hx:∀j,some j∈V.bl->some j∉ex):aC (Go.Abs.fJ ex h) V:=by
 have m6:∀x∈[sB V.s0,sB V.s1,sB V.s2,sB V.s3,sB V.s4,sB V.s5],x∈V.bl:=λx hx=>by simp only[RV.bl,YZ];exact .inl (.inl (.inl hx))
 refine⟨o.i0.fJ λb hb=>hx b (hb▸m6 _ Si),o.i1.fJ λb hb=>hx b (hb▸m6 _ Si),o.i2.fJ λb hb=>hx b (hb▸m6 _ Si),o.i3.fJ λb hb=>hx b (hb▸m6 _ Si),o.i4.fJ λb hb=>hx b (hb▸m6 _ Si),o.i5.fJ λb hb=>hx b (hb▸m6 _ Si),
  λx hx1=>(o.e2 x hx1).fJ λb hb=>hx b ?_,λx hx1=>(o.e3 x hx1).fJ λb hb=>hx b ?_,λx hx1=>(o.e4 x hx1).fJ λb hb=>hx b ?_⟩
 ·simp only[RV.bl,YZ,Zv];exact .inl (.inl (.inr ⟨x,hx1,hb⟩))
 ·simp only[RV.bl,YZ,Zv];exact .inl (.inr ⟨x,hx1,hb⟩)
 ·simp only[RV.bl,YZ,Zv];exact .inr ⟨x,hx1,hb⟩
def rH{a b c d}:lq [a,b,c,d]↔(∀i,a=some i->b≠some i/\c≠some i/\d≠some i)/\(∀i,b=some i->c≠some i/\d≠some i)/\∀i,c=some i->d≠some i:=by
 simp only[lq,Z0,ZC,ZY,aay,forall_eq_or_imp,forall_eq,List.Pairwise.nil,and_true,false_implies,implies_true];constructor
 ·rintro⟨⟨h1,h2,h3⟩,⟨h4,h5⟩,h6⟩;exact⟨λi hi=>⟨h1 i hi,h2 i hi,h3 i hi⟩,λi hi=>⟨h4 i hi,h5 i hi⟩,h6⟩
 ·rintro⟨h1,h2,h3⟩;exact⟨⟨λi hi=>(h1 i hi).1,λi hi=>(h1 i hi).2.1,λi hi=>(h1 i hi).2.2⟩,⟨λi hi=>(h2 i hi).1,λi hi=>(h2 i hi).2⟩,h3⟩
def D7{B h:ah}(hl:B.length<=h.length)(hk:∀i,i<B.length->h[i]? =B[i]?):∃g,h=B++g:=by
 refine⟨h.drop B.length,abd λi=>?_⟩;by_cases hi:i<B.length
 ·rw[hk i hi,YT hi]
 ·exact z139
def vh{B h:ah}{b:Nat}{X:ak}(hN:B.length<=b)(hh:∃g,h=B++g):∃g,h.set b X=B++g:=by
 obtain⟨g,rfl⟩:=hh;exact⟨_,ZV _ _ hN⟩
def bY.tk{B g b V}(r:bY B.length (B++g) b V)(t:Int):∃g',(B++g).set b (.b (V.row.set 0 (.i t)))=B++g'/\bY B.length (B++g') b {V with tick:=t}:=by
 obtain⟨h1,h2,h3⟩:=nC (.b (V.row.set 0 (.i t))) r.hN r.m;refine⟨_,h1,?_,r.hN,h2,r.ne⟩;have:=r.o.au (k:=B++g.set (b-B.length) (.b (V.row.set 0 (.i t)))) λi hi=>h3 i λe=>r.ne (e▸hi)
 exact⟨this.i0,this.i1,this.i2,this.i3,this.i4,this.i5,this.e2,this.e3,this.e4,this.di⟩
section
variable {N b:Nat}{h h':ah}{V:HV}
def cF.lt(o:cF N h b V):b<h.length:=(YQ.1 o.hb).1
def cF.Cy(o:cF N h b V){j}(hj:some j∈V.ex b):j<h.length:=by
 simp only[HV.ex,ZC,ZY,aay,Zu]at hj;rcases hj with hj|hj|hj|hj
 ·rw[hj];exact o.lt
 ·exact(o.oe.bN hj.symm).2
 ·exact(o.oc.bN hj.symm).2
 ·exact(o.og.bN hj.symm).2
def cF.Re(o:cF N h b V){s' x'}(hk:∀i,i<h.length->sB V.se≠some i->i≠b->h'[i]? =h[i]?)(hs:Ow N h' s' 5 ((V.c8++[x']).map EV.row))(hb:h'[b]? =some (.b [s',V.sc,V.sr]))
  (hn:∀i,sB s' =some i->h.length<=i) (hx:bw (fJ (V.ex b) h) x'):cF N h' b {V with c8:=V.c8++[x'],se:=s'}:=by
 obtain⟨d1,d2,d3⟩:=rH.1 o.di;have hbl:=o.lt;have hsub:jB (fJ (V.ex b) h) (fJ ({V with c8:=V.c8++[x'],se:=s'}.ex b) h'):=by
  refine nJ (λi hi hne=>hk i hi (λe=>hne (by simp[HV.ex,e])) (λe=>hne (by simp[HV.ex,e]))) λi hi hm=>?_
  simp only[HV.ex,ZC,ZY,aay,Zu]at hm ⊢;rcases hm with hm|hm|hm|hm
  ·exact .inl hm
  ·have:=hn i hm.symm;omega
  ·exact .inr (.inr (.inl hm))
  ·exact .inr (.inr (.inr hm))
 refine⟨o.hN,hb,hs,o.oc.aD λi hi=>?_,o.og.aD λi hi=>?_,rH.2 ⟨λi hi=>?_,λi hi=>?_,d3⟩,λx hx1=>?_,λx hx1=>(o.ac x hx1).sub hsub,λx hx1=>(o.ag x hx1).sub hsub,o.lo⟩
 ·exact hk i (o.oc.bN hi).2 (λe=>(d2 i e).1 hi) (λe=>(d1 b rfl).2.1 (by rw[<-e];exact hi))
 ·exact hk i (o.og.bN hi).2 (λe=>(d2 i e).2 hi) (λe=>(d1 b rfl).2.2 (by rw[<-e];exact hi))
 ·cases hi;exact⟨λe=>by have:=hn b e;omega,(d1 b rfl).2⟩
 ·have h1:=hn i hi;exact⟨λe=>by have:=(o.oc.bN e).2;omega,λe=>by have:=(o.og.bN e).2;omega⟩
 ·rcases YZ.1 hx1 with hx1|hx1
  ·exact(o.ae x hx1).sub hsub
  ·rw[Zm]at hx1;rw[hx1];exact hx.sub hsub
def cF.Rd(o:cF N h b V){Sd SA n m}(hk:∀i,i<h.length->i≠b->h'[i]? =h[i]?)(hc:Ow N h' Sd 5 ((V.eV.take n).map EV.row))(hr:Ow N h' SA 7 ((V.cJ.take m).map RV.row))(hb:h'[b]? =some (.b [V.se,Sd,SA]))
  (nc:sB Sd=sB V.sc) (nr:sB SA=sB V.sr):cF N h' b {V with eV:=V.eV.take n,cJ:=V.cJ.take m,sc:=Sd,sr:=SA}:=by
 obtain⟨d1,d2,d3⟩:=rH.1 o.di;have he:{V with eV:=V.eV.take n,cJ:=V.cJ.take m,sc:=Sd,sr:=SA}.ex b=V.ex b:=by simp only[HV.ex,nc,nr]
 have hsub:jB (fJ (V.ex b) h) (fJ ({V with eV:=V.eV.take n,cJ:=V.cJ.take m,sc:=Sd,sr:=SA}.ex b) h'):=by
  rw[he];exact nJ (λi hi hne=>hk i hi (λe=>hne (by simp[HV.ex,e]))) λi hi hm=>hm
 refine⟨o.hN,hb,o.oe.aD λi hi=>hk i (o.oe.bN hi).2 (λe=>(d1 b rfl).1 (by rw[<-e];exact hi)),hc,hr,by rw[he];exact o.di,λx hx1=>(o.ae x hx1).sub hsub,λx hx1=>(o.ac x (ZW hx1)).sub hsub,λx hx1=>(o.ag x (ZW hx1)).sub hsub,λx hx1=>o.lo x (ZW hx1)⟩
def cF.Rf(o:cF N h b V){Sd SA x' R'}(hk:∀i,i<h.length->sB V.sc≠some i->sB V.sr≠some i->i≠b->h'[i]? =h[i]?)(hc:Ow N h' Sd 5 ((V.eV++[x']).map EV.row))(hr:Ow N h' SA 7 ((V.cJ++[R']).map RV.row))(hb:h'[b]? =some (.b [V.se,Sd,SA]))
  (nc:∀i,sB Sd=some i->h.length<=i) (nr:∀i,sB SA=some i->h.length<=i) (ncr:∀i,sB Sd=some i->sB SA≠some i) (hx:bw (fJ (V.ex b) h) x') (hR:aC (fJ (V.ex b) h) R') (hlo:∀j,some j∈R'.bl->N<=j):cF N h' b {V with eV:=V.eV++[x'],cJ:=V.cJ++[R'],sc:=Sd,sr:=SA}:=by
 obtain⟨d1,d2,d3⟩:=rH.1 o.di;have hbl:=o.lt;have hsub:jB (fJ (V.ex b) h) (fJ ({V with eV:=V.eV++[x'],cJ:=V.cJ++[R'],sc:=Sd,sr:=SA}.ex b) h'):=by
  refine nJ (λi hi hne=>hk i hi (λe=>hne (by simp[HV.ex,e])) (λe=>hne (by simp[HV.ex,e])) (λe=>hne (by simp[HV.ex,e]))) λi hi hm=>?_
  simp only[HV.ex,ZC,ZY,aay,Zu]at hm ⊢;rcases hm with hm|hm|hm|hm
  ·exact .inl hm
  ·exact .inr (.inl hm)
  ·have:=nc i hm.symm;omega
  ·have:=nr i hm.symm;omega
 refine⟨o.hN,hb,o.oe.aD λi hi=>?_,hc,hr,rH.2 ⟨λi hi=>?_,λi hi=>?_,ncr⟩,λx hx1=>(o.ae x hx1).sub hsub,λx hx1=>?_,λx hx1=>?_,λx hx1=>?_⟩
 ·exact hk i (o.oe.bN hi).2 (λe=>(d2 i hi).1 e) (λe=>(d2 i hi).2 e) (λe=>(d1 b rfl).1 (by rw[<-e];exact hi))
 ·cases hi;exact⟨(d1 b rfl).1,λe=>by have:=nc b e;omega,λe=>by have:=nr b e;omega⟩
 ·have h1:=(o.oe.bN hi).2;exact⟨λe=>by have:=nc i e;omega,λe=>by have:=nr i e;omega⟩
 ·rcases YZ.1 hx1 with hx1|hx1
  ·exact(o.ac x hx1).sub hsub
  ·rw[Zm]at hx1;rw[hx1];exact hx.sub hsub
 ·rcases YZ.1 hx1 with hx1|hx1
  ·exact(o.ag x hx1).sub hsub
  ·rw[Zm]at hx1;rw[hx1];exact hR.sub hsub
 ·rcases YZ.1 hx1 with hx1|hx1
  ·exact o.lo x hx1
  ·rw[Zm]at hx1;rw[hx1];exact hlo
end
section
variable {P:Program}(T:fp P)
include T
def Mf{B g:ah}{V:HV}{b:Nat}{x:EV}(o:cF B.length (B++g) b V)(w:kO V.bU)(hl:V.c8.length<1000)(ox:bw (B++g) x)(hxl:x.ev.names.length<=2^40/\x.ev.cB.length<=2^40)(gl:Gl B):
  dm P 112 [.ptr b 0,.agg x.row] (B++g) (λv k=>JD B (B++g) b V x.ev v k):=by
 have hcl:V.eV.length<=V.c8.length:=by have:=w.le;simpa [HV.bU]using this
 have Tl:V.cJ.length=V.eV.length:=by have:=w.ln;simpa [HV.bU]using this
 refine .eP 94 T.mix T.c112 ?_;intro ts hlen t0 t1;unfold fn112;have RF:=@bw.box _ _ ox;have gl':Gl (B++g):=gl.ext ⟨g,rfl⟩;refine Rs (A4 t0 t1 @RF @cp) ?_;refine WF.ce T.c67 (r67 T (ox.ext Xx) hxl) λg1=>?_
 by_cases h1:gV x.ev=0
 case neg=>
  have q1:decide (gV x.ev≠0)=true:=YW h1;refine Rs (A3 t0 t1 q1) ?_;have e:eC V.bU x.ev=gV x.ev:=by rw[eC,Zb h1]
  rw[YR (B++g)];exact JD.no o (by rw[e];exact h1) e.symm
 have q1:decide (gV x.ev≠0)=false:=YS (λz=>z h1);obtain⟨d,wx⟩:=rL h1;have eb:eC V.bU x.ev=kj V.bU x.ev:=by rw[eC,Y6 (λz=>z h1)]
 refine Rs (A4 t0 t1 q1 @cp) ?_;refine WF.ce T.c116 (r116 T (d:=d) (o.rd.ext Xx) w Om (ox.ext Xx) wx (gl'.ext Xx)) λg2=>?_
 by_cases h2:kj V.bU x.ev=0
 case neg=>
  have q2:decide (kj V.bU x.ev≠0)=true:=YW h2;refine Rs (A3 t0 t1 q2) ?_;rw[YR (B++g),YR (B++g)];exact JD.no o (by rw[eb];exact h2) eb.symm
 have q2:decide (kj V.bU x.ev≠0)=false:=YS (λz=>z h2);rw[<-eb]at h2;refine Rs (A4 t0 t1 q2 @cp) ?_;refine WF.res T.c91 (r91 T x (ox.ext Xx) hxl) ?_;rintro _ g3 ⟨x',RN,rfl,fn,fv⟩;have Xn:bw _ x':=⟨by rw[RN];exact fn.ba,by rw[RN];exact fv.ba⟩;have st:∀{b':Nat},km 5 0 (.agg x'.row) b' (.b x.row)=some (az,.set b' (.b x'.row)):=λ{_}=>Xn.st
 refine Rs (A3 t0 t1 @st) ?_;obtain⟨H,hH⟩:∃H,H=B++g++[ak.b x'.row]++g1++g2++g3:=⟨_,rfl⟩;have hHg:∃gH,H=B++gH:=⟨_,by rw[hH];simp only[YR];rfl⟩;obtain⟨gH,hHB⟩:=hHg;have hex:Ext (B++g) H:=by rw[hH];exact Xx
 have oH:cF B.length H b V:=by obtain⟨z,hz⟩:=hex;rw[hz];exact o.app z
 have au:∀j,(B++g).length+1<=j->H[j]? =(B++g++[ak.b x.row]++g1++g2++g3)[j]? :=λj hj=>by
  rw[hH];simp only[YR];have e:∀C:ak,(B++(g++([C]++(g1++(g2++g3)))))[j]? =(g1++(g2++g3))[j-B.length-g.length-1]? :=λC=>by
   simp only[YP]at hj;rw[Y7 Om,Y7 Om,Y7 (by simp only[Zp];omega)];rfl
  rw[e,e]
 obtain⟨N,hN⟩:∃N,N=(B++g).length:=⟨_,rfl⟩;have fnl:=λj (hj:sB x'.sn=some j)=>fn.bN hj
 have fvl:=λj (hj:sB x'.sv=some j)=>fv.bN hj
 have Ve:H.length=(B++g++[ak.b x.row]++g1++g2++g3).length:=by rw[hH];simp only[YP,YV,YX]
 have lnn:∀j,sB x'.sn=some j\/sB x'.sv=some j->(B++g).length+1<=j/\j<H.length:=λj hj=>by
  rw[Ve];rcases hj with hj|hj
  ·have:=fnl j hj;exact z46
  ·have:=fvl j hj;exact z46
 have oxH:bw H x':=⟨by rw[RN];exact(fn.aD λj hj=>au j (lnn j (.inl hj)).1).ba,by rw[RN];exact(fv.aD λj hj=>au j (lnn j (.inr hj)).1).ba⟩;have eH:H[N]? =some (.b x'.row):=by rw[hH,hN];exact(show Ext (B++g++[ak.b x'.row]) _ from Xx).some a8
 rw[<-hH,<-hN];have hb:=oH.hb;have lb:=@eE _ _ _ hb;have le:=@eE _ _ _ eH;have bs:=@bw.GK _ _ oxH;have dH:=rH.1 oH.di;refine Rs (A6 t0 t1 @lb @le @cp @bs) ?_;refine WR.IX (N:=B.length) (cs:=V.c8.map EV.row) (ys:=[x'.row]) (oH.app _).oe (Fr.push (N:=0) (Zw _) [x'.row] (by intro y hy;rw[Zm]at hy;rw[hy];rfl)).ba (by rw[hHB];simp only[YP];omega) De Si (by simp only[YY,YV,YX];omega) ?_;intro h1 WN TD hk1;have hrow:V.c8.map EV.row++[x'.row]=(V.c8++[x']).map EV.row:=by rw[Y5];rfl
 rw[hrow]at TD;rw[hrow];obtain⟨Sy,Yn⟩:∃Sy,Sy=AV.slice (H++[ak.cells x'.row true true]).length 0 ((V.c8++[x']).map EV.row).length 5:=⟨_,rfl⟩;rw[<-Yn]at TD ⊢;have Wz:∀i,sB Sy=some i->H.length+1=i:=λi hi=>by rw[Yn]at hi;cases hi;simp
 have ose:Sy.one=true:=by rw[Yn];rfl
 have hk1':∀i,i<H.length->sB V.se≠some i->h1[i]? =H[i]? :=λi hi hne=>by rw[hk1 i (by simp;omega) hne,YT hi]
 have hbl:=oH.lt;have RY:sB V.se≠some b:=(dH.1 b rfl).1;have Sf:h1[b]? =some (.b [V.se,V.sc,V.sr]):=(hk1' b hbl RY).trans hb;have sb1:aW 1 (.ptr b 0) Sy (λz=>h1[z]?)=some (az,.set b (.b [Sy,V.sc,V.sr])):=by
  rw[aL Sf];exact bX ose Si
 refine Rs (A2 t0 @sb1) ?_;have hb1l:b<h1.length:=(YQ.1 Sf).1;obtain⟨H1,Wl⟩:∃H1,H1=h1.set b (.b [Sy,V.sc,V.sr]):=⟨_,rfl⟩;rw[<-Wl];have k1:∀i,i<H.length->sB V.se≠some i->i≠b->H1[i]? =H[i]? :=λi hi n1 n2=>by rw[Wl,Zc (aam n2)];exact hk1' i hi n1
 have m1:H1[b]? =some (.b [Sy,V.sc,V.sr]):=by rw[Wl,Zd hb1l]
 have Xq:∀i,i<(B++g).length->some i∉V.ex b->H1[i]? =(B++g)[i]? :=λi hi hn=>by
  rw[k1 i (by rw[Ve];simp only[YP]at hi ⊢;omega) (λe=>hn (by rw[<-e];simp[HV.ex])) (λe=>hn (by rw[e];simp[HV.ex]))];obtain⟨z,hz⟩:=hex;rw[hz,YT hi]
 have hB1:∃g',H1=B++g':=by
  have:=oH.hN;refine⟨H1.drop B.length,?_⟩;refine abd λi=>?_
  by_cases hi:i<B.length
  ·have e2:B.length<=H.length:=by rw[hHB];simp
   have n1:sB V.se≠some i:=λe=>by have:=(oH.oe.bN e).1;omega
   rw[k1 i Om n1 Om,hHB,YT hi,YT hi]
  ·exact z139
 have XH:∀j,some j∈V.ex b->j<(B++g).length:=λj hj=>o.Cy hj
 have oxm:bw (fJ (V.ex b) H) x':=oxH.fJ (λj hj hm=>by have:=(lnn j (.inl hj)).1;have:=XH j hm;omega) (λj hj hm=>by have:=(lnn j (.inr hj)).1;have:=XH j hm;omega);have U3:cF B.length H1 b {V with c8:=V.c8++[x'],se:=Sy}:=oH.Re k1 (TD.aD λi hi=>by rw[Wl,Zc (by have:=Wz i hi;omega)]) m1 (λi hi=>by have:=Wz i hi;omega) oxm;clear TD hk1 hk1' sb1 hb1l;have owc:Ow B.length H1 V.sc 5 (V.eV.map EV.row):=U3.oc;have owr:Ow B.length H1 V.sr 7 (V.cJ.map RV.row):=U3.og;obtain⟨V1,Uz⟩:∃V1:HV,V1={V with c8:=V.c8++[x'],se:=Sy}:=⟨_,rfl⟩;rw[<-Uz]at U3;have eN:H1[N]? =some (.b x'.row):=(k1 N (by rw[Ve,hN];simp only[YP,YV];omega) (λe=>by have:=(o.oe.bN e).2;omega) (by have:=o.lt;omega)).trans eH
 have oxm1:bw (fJ (V1.ex b) H1) x':=U3.ae x' (by rw[Uz];simp);have ox1:bw H1 x':=oxm1.sub (jB.fJ _ _);obtain⟨gH1,hB1⟩:=hB1;have lb1:=@eE _ _ _ m1;have le1:=@eE _ _ _ eN;have hkx:x'.ev.kind=x.ev.kind:=by rw[RN]
 have RM:kH x.ev=d:=by rw[kH,wx.kd];rfl
 by_cases h5:d=.eF
 ·have q5:decide (x.ev.kind=[117,110,100,111])=true:=YW (by rw[bW wx.kd,h5];rfl);refine Rs (A7 t0 @le1 @bj @hkx q5 @lb1 owc.ba.aJ) ?_;have hne:V.eV≠[]:=λe=>by
   rw[eb,kj,RM,Zb h5,show V.bU.eV.getLast? =none by simp[HV.bU,e]]at h2;split at h2<;>exact absurd h2 De
  have hcp:0<V.eV.length:=aaQ.2 hne;have e2:IntKind.i64.wrap ((V.eV.length:Int)-1)=((V.eV.length-1:Nat):Int):=by rw[bu Om Om];omega
  obtain⟨Sd,c1,c2,c3⟩:=owc.cut (n:=V.eV.length-1) Si (k:=.i64);obtain⟨SA,r1,r2,r3⟩:=owr.cut (n:=V.eV.length-1) (by simp;omega) (k:=.i64);refine Rs (A5 t0 e2 @lb1 @c1 @r1) ?_;have osc:Sd.one=true:=c3.ba.one;have osr:SA.one=true:=r3.ba.one;have sA:aW 1 (.ptr b 1) Sd (λz=>H1[z]?)=some (az,.set b (.b [Sy,Sd,V.sr])):=by
   rw[aL m1];exact bX osc Si
  have hbl1:b<H1.length:=U3.lt;have m2:(H1.set b (.b [Sy,Sd,V.sr]))[b]? =some (.b [Sy,Sd,V.sr]):=Zd hbl1;have sB2:aW 1 (.ptr b 2) SA (λz=>(H1.set b (.b [Sy,Sd,V.sr]))[z]?)=some (az,.set b (.b [Sy,Sd,SA])):=by
   rw[aL m2];exact bX osr Si
  refine Rs (A3 t0 @sA @sB2) ?_;rw[List.set_set];obtain⟨gz,hz⟩:=vh (X:=.b [Sy,Sd,SA]) U3.hN ⟨_,hB1⟩;have kz:∀i,i≠b->(H1.set b (.b [Sy,Sd,SA]))[i]? =H1[i]? :=λi hi=>Zc (aam hi)
  have d1:=rH.1 U3.di;have d2:=rH.1 o.di;have hfr:∀i,i<(B++g).length->some i∉V.ex b->(B++gz)[i]? =(B++g)[i]? :=λi hi hn=>by
   rw[<-hz,kz i (λe=>hn (by rw[e];simp[HV.ex])),Xq i hi hn]
  refine⟨gz,{V1 with eV:=V1.eV.take (V.eV.length-1),cJ:=V1.cJ.take (V.eV.length-1),sc:=Sd,sr:=SA},hz,by rw[h2],?_,?_,hfr,λj hj=>?_⟩
  ·rw[<-hz];subst Uz;rw[<-List.map_take]at c3 r3;refine U3.Rd (λi _ hi=>kz i hi) (c3.aD λi hi=>kz i λe=>?_) (r3.aD λi hi=>kz i λe=>?_) (Zd hbl1) c2 r2
   ·rw[c2]at hi;exact(d2.1 b rfl).2.1 (by rw[hi,e])
   ·rw[r2]at hi;exact(d2.1 b rfl).2.2 (by rw[hi,e])
  ·rw[Zb h2,iS,RM,Zb h5,Uz];simp only[HV.bU,Y5,List.map_take,ZP,aaF,RN,List.dropLast_eq_take,YY,Tl]
  ·subst Uz;simp only[HV.ex,ZC,ZY,aay,Zu]at hj ⊢;rcases hj with hj|hj|hj|hj
   ·exact .inl (.inl hj)
   ·have:=Wz j hj.symm;exact .inr (by rw[Ve]at this;simp only[YP]at this ⊢;omega)
   ·rw[c2]at hj;exact .inl (.inr (.inr (.inl hj)))
   ·rw[r2]at hj;exact .inl (.inr (.inr (.inr hj)))
 have q5:decide (x.ev.kind=[117,110,100,111])=false:=YS λz=>h5 (by
  have:=wx.kd;rw[z]at this;exact(ZU ((js .eF).symm.trans this)).symm)
 refine Rs (A5 t0 @le1 @bj @hkx q5) ?_;have Un:V1.now=V.now:=by rw[Uz];rfl
 have rd1:=U3.rd;have wn:eJ V1.now.an:=by rw[Un,V.jI];exact w.now
 refine WF.ce T.c79 (r79 T rd1 (by rw[Uz];show V.cJ.length<=1000;omega)) λg4=>?_
 refine Rs t0 ?_;refine WF.res T.c96 (r96 T (rd1.now.ext Xx) wn) ?_;rintro _ g5 ⟨VN,hVN,rfl,own⟩;have stN:∀{b':Nat}{a0 a1 a2 a3 a4 a5 a6:AV},km 7 0 (.agg VN.row) b' (.b [a0,a1,a2,a3,a4,a5,a6])=some (az,.set b' (.b VN.row)):=λ{_ _ _ _ _ _ _ _}=>own.ok.st
 repeat (first|simp (config:={maxSteps:=1000000}) only[aQ,aT,bo,bp,reduceAdd,reduceMul,reduceLeDiff,reduceEqDiff,bz,hlen,Zf,Zi,t0,stN]|simp (config:={maxSteps:=1000000}) (disch:=first|(simp only[YP,YV,YX]<;>omega)|rfl|omega|fail) only[fc,aQ,aT,bo,bp,reduceAdd,reduceMul,reduceLeDiff,reduceEqDiff,bz,hlen,Zf,Zi,t0,stN])
 refine WF.res T.c90 (r90 T) ?_;rintro _ g6 ⟨vf,rfl,hk⟩;obtain⟨hx3,VE⟩:∃z,z=H1++g4++g5++[ak.b VN.row]:=⟨_,rfl⟩;rw[<-VE]at hk ⊢;have lk:∀{z:AV},gX .s z false (.map hx3.length) (.str x.ev.kind) (λb=>(hx3++g6)[b]?)=lH z false ((gT x.ev.kind).map vf):=hk.look;rw[wx.kd]at lk;have Sl:∀{z:AV},_=some (vf d,iT.au):=@lk;obtain⟨rs,a,hv,hr,ha,hab⟩:=(hk.k d).ex;rw[hv]at Sl;have e1x:Ext H1 (hx3++g6):=by rw[VE];exact Xx
 have le2:∀{k n a},Ext (hx3++g6) k->aq n (.ptr N a) (λz=>k[z]?)=dE n a (.b x'.row):=λ{_ _ _} e=>le1 (e1x.trans e)
 have cd:=lJ d;obtain⟨rb,Wx⟩:∃rb,rb=(H1++g4++g5).length:=⟨_,rfl⟩;rw[<-Wx];refine Rs (A8 t0 @le2 @bj @hkx @bS @Sl @cd @cp) ?_;have Us:fY V.bU.now x.ev d=0:=by
  rw[eb,kj,RM,Y6 h5]at h2;split at h2
  ·exact absurd h2 De
  ·exact h2
 have Tx:x.ev.num=(V.bU.c8.length:Int)+1:=by
  rw[eb,kj]at h2;split at h2
  ·exact absurd h2 De
  case isFalse hh=>exact aaw.1 hh
 have hVR:VN.an=V.bU.now:=by rw[hVN,Un,V.jI]
 have R4:¬bH x.ev 0<V.bU.now.tick:=λz=>by rw[fY,Zb z]at Us;exact absurd Us De
 have T2:kD d V.bU.now x.ev=0:=by
  rw[fY,Y6 R4]at Us;split at Us
  case isTrue hh=>exact absurd Us hh
  case isFalse hh=>exact aaw.1 hh
 have Td:bC V.bU.now x.ev d=0:=by rw[fY,Y6 R4,Y6 (by rw[T2];decide)]at Us;exact Us
 obtain⟨G,hG⟩:=e1x;have hGl:H1.length<=rb/\rb<(H1++G).length:=by
  rw[<-hG,VE,Wx];simp only[YP,YV,YX];omega
 have rbk:bY H1.length (H1++G) rb VN:=by
  have:=(((own.app [ak.b VN.row]).app g6).low (M:=H1.length) Si);rw[<-VE,hG]at this;refine⟨this,hGl.1,?_,λhb'=>?_⟩
  ·rw[<-hG,VE,Wx];exact(Ext.app _ (Ext.refl _)).some a8
  ·have:=(own.dR hb').2;omega
 have glG:Gl (H1++G):=(gl.ext ⟨_,hB1⟩).ext ⟨_,rfl⟩;have cx:Cx (H1++G) VN x' d:=⟨rbk.o.ok,by rw[hVN];exact wn,ox1.ext ⟨_,rfl⟩,by rw[RN];exact wx,by rw[hVR,RN];exact vB T2⟩;rw[hG];refine FT T h5 rbk cx (by rw[hVR,RN];exact Td) glG ?_;rintro _ _ ⟨g7,V7,rfl,r7,hr7⟩;have e17:Ext H1 (H1++g7):=⟨_,rfl⟩;have le3:∀{k n a},Ext (H1++g7) k->aq n (.ptr N a) (λz=>k[z]?)=dE n a (.b x'.row):=λ{_ _ _} e=>le1 (e17.trans e)
 have SB:0<x'.ev.cB.length:=by rw[RN,wx.vl];cases d<;>first|exact absurd rfl h5|decide
 have qu:aS 1 x'.sv (.i 0)=some (cN x'.sv 1 0,.au):=ox1.v.qu SB;have ld0:∀{k':ah},Ext (H1++g7) k'->aq none (cN x'.sv 1 0) (λb=>k'[b]?)=some (.i (bH x.ev 0),.au):=λ{k'} e=>by
  have ev0:bH x.ev 0=x'.ev.cB[0]:=by rw[<-RN,bH,ZH,YU SB];rfl
  rw[ev0];exact ox1.v.kY SB rfl (e17.trans e)
 have s7:aW 1 (.ptr rb 0) (.i (bH x.ev 0)) (λz=>(H1++g7)[z]?)=some (az,.set rb (.b (V7.row.set 0 (.i (bH x.ev 0))))):=iO r7.m rfl De;obtain⟨g8,hg8,r8⟩:=r7.tk (bH x.ev 0);refine Rs (A6 t0 @le3 @aY @qu @ld0 @s7) ?_;rw[hg8];obtain⟨V8,hV8⟩:∃V8:RV,V8={V7 with tick:=bH x.ev 0}:=⟨_,rfl⟩;rw[<-hV8]at r8;have hr8:V8.an=jP V.bU.now x.ev d:=by
  rw[hV8,jP,<-hVR];have:dq VN.an x.ev d=V7.an:=by rw[hr7,RN]
  rw[this];rfl
 clear s7 le2 le3 ld0 Sl lk hk;have oV2:cF B.length (H1++g8) b V1:=U3.app g8;have e18:Ext H1 (H1++g8):=⟨_,rfl⟩;have lb2:∀{k n a},Ext (H1++g8) k->aq n (.ptr b a) (λz=>k[z]?)=dE n a (.b [Sy,V.sc,V.sr]):=λ{_ _ _} e=>lb1 (e18.trans e)
 have le2:∀{k n a},Ext (H1++g8) k->aq n (.ptr N a) (λz=>k[z]?)=dE n a (.b x'.row):=λ{_ _ _} e=>le1 (e18.trans e)
 have lr2:=@eE _ _ _ r8.m;have bs1:=@bw.GK _ _ ox1;have bs2:=@aC.GK _ _ r8.o.ok;obtain⟨H2,VQ⟩:∃H2,H2=H1++g8:=⟨_,rfl⟩;have m2:H2[b]? =some (.b [Sy,V.sc,V.sr]):=by rw[VQ];exact e18.some m1
 have e2:H2[N]? =some (.b x'.row):=by rw[VQ];exact e18.some eN
 have r2m:H2[rb]? =some (.b V8.row):=by rw[VQ];exact r8.m
 have hB2:∃g',H2=B++g':=⟨_,by rw[VQ,hB1,YR]⟩;rw[<-VQ]at r8 oV2 ⊢;have X9:Ow B.length H2 V.sc 5 (V.eV.map EV.row):=by have:=oV2.oc;rw[Uz]at this;exact this
 have Wp:Ow B.length H2 V.sr 7 (V.cJ.map RV.row):=by have:=oV2.og;rw[Uz]at this;exact this
 have d1:=rH.1 U3.di;have d1b:sB V.sc≠some b/\sB V.sr≠some b:=by have:=(d1.1 b rfl).2;rw[Uz]at this;exact this
 have d1c:∀i,sB V.sc=some i->sB V.sr≠some i:=by have:=d1.2.2;rw[Uz]at this;exact this
 have hBl:B.length<=H2.length:=by obtain⟨z,hz⟩:=hB2;rw[hz];simp
 refine pa (λh=>h[b]? =some (.b [Sy,V.sc,V.sr])/\h[N]? =some (.b x'.row)/\h[rb]? =some (.b V8.row)) ?_;have hS:(λh:ah=>h[b]? =some (.b [Sy,V.sc,V.sr])/\h[N]? =some (.b x'.row)/\h[rb]? =some (.b V8.row)) H2:=⟨m2,e2,r2m⟩;refine c9 hS rfl rfl ?_;refine Rs t0 ?_;refine c9 hS rfl rfl ?_;refine Rs t0 ?_;refine c9 hS rfl rfl ?_;refine Rs t0 ?_;refine c9 hS rfl rfl ?_;refine Rs t0 ?_;refine c9 hS rfl rfl ?_;refine Rs t0 ?_;refine kW hS (v:=V.sc) (λg hg=>?_) ?_
 ·exact Kz
 refine Rs t0 ?_;refine kW hS (v:=.agg x'.row) (λg hg=>?_) ?_
 ·simp only[aQ,aT,bo,bp,reduceAdd,reduceMul,reduceLeDiff,reduceEqDiff,bz,hlen,Zf,Zi,t0,aA hg.2.1,cp]
 refine Rs t0 ?_;refine c9 hS rfl rfl ?_;refine Rs (A2 t0 @bs1) ?_;have x3:Ext H2 (H2++[ak.cells x'.row true true]):=⟨_,rfl⟩;have hS3:(λh:ah=>h[b]? =some (.b [Sy,V.sc,V.sr])/\h[N]? =some (.b x'.row)/\h[rb]? =some (.b V8.row)) (H2++[ak.cells x'.row true true]):=⟨x3.some m2,x3.some e2,x3.some r2m⟩;refine c9 hS3 rfl rfl ?_;refine Rs t0 ?_;refine WR.IX (N:=B.length) (cs:=V.eV.map EV.row) (ys:=[x'.row]) (X9.aD λi hi=>YT (X9.bN hi).2) (Fr.push (N:=0) (Zw _) [x'.row] (by intro y hy;rw[Zm]at hy;rw[hy];rfl)).ba (by simp only[YP];omega) De Si (by simp only[YY,YV,YX];omega) ?_;intro h4 hl4 hs4 hk4
 have Xv:V.eV.map EV.row++[x'.row]=(V.eV++[x']).map EV.row:=by rw[Y5];rfl
 rw[Xv]at hs4;rw[Xv];obtain⟨Sd,hsc⟩:∃Sd,Sd=AV.slice (H2++[ak.cells x'.row true true]).length 0 ((V.eV++[x']).map EV.row).length 5:=⟨_,rfl⟩;rw[<-hsc]at hs4 ⊢;have hl4':h4.length=H2.length+2:=by rw[hl4];simp
 have WA:∀i,sB Sd=some i->H2.length+1=i:=λi hi=>by rw[hsc]at hi;cases hi;simp
 have osc:Sd.one=true:=by rw[hsc];rfl
 have k4:∀i,i<H2.length->sB V.sc≠some i->h4[i]? =H2[i]? :=λi hi hne=>by rw[hk4 i (by simp;omega) hne,YT hi]
 have hNl:N<H2.length:=(YQ.1 e2).1;have Tl:rb<H2.length:=(YQ.1 r2m).1;have hbl2:b<H2.length:=(YQ.1 m2).1;have Xc:∀j,some j∈V.ex b->j<N:=λj hj=>by rw[hN];exact o.Cy hj
 have ncN:sB V.sc≠some N:=λe=>by have:=Xc N (by rw[<-e];simp[HV.ex]);omega
 have nrN:sB V.sr≠some N:=λe=>by have:=Xc N (by rw[<-e];simp[HV.ex]);omega
 have hNr:N<rb:=by have:=(YQ.1 eN).1;omega
 have ncr:sB V.sc≠some rb:=λe=>by have:=Xc rb (by rw[<-e];simp[HV.ex]);omega
 have nrr:sB V.sr≠some rb:=λe=>by have:=Xc rb (by rw[<-e];simp[HV.ex]);omega
 have Xf:(λh:ah=>h[b]? =some (.b [Sy,V.sc,V.sr])/\h[N]? =some (.b x'.row)/\h[rb]? =some (.b V8.row)) h4:=⟨(k4 b hbl2 d1b.1).trans m2,(k4 N hNl ncN).trans e2,(k4 rb Tl ncr).trans r2m⟩;refine Rs t0 ?_;refine c9 Xf rfl rfl ?_;refine Rs t0 ?_;refine c9 Xf rfl rfl ?_;refine Rs t0 ?_;refine c9 Xf rfl rfl ?_;refine Rs t0 ?_;refine kW Xf (v:=V.sr) (λg hg=>?_) ?_
 ·exact Kz
 refine Rs t0 ?_;refine kW Xf (v:=.agg V8.row) (λg hg=>?_) ?_
 ·simp only[aQ,aT,bo,bp,reduceAdd,reduceMul,reduceLeDiff,reduceEqDiff,bz,hlen,Zf,Zi,t0,aA hg.2.2,aF]
 refine Rs t0 ?_;refine c9 Xf rfl rfl ?_;refine Rs (A2 t0 @bs2) ?_;have x5:Ext h4 (h4++[ak.cells V8.row true true]):=⟨_,rfl⟩;have hS5:(λh:ah=>h[b]? =some (.b [Sy,V.sc,V.sr])/\h[N]? =some (.b x'.row)/\h[rb]? =some (.b V8.row)) (h4++[ak.cells V8.row true true]):=⟨x5.some Xf.1,x5.some Xf.2.1,x5.some Xf.2.2⟩;have owr4:Ow B.length (h4++[ak.cells V8.row true true]) V.sr 7 (V.cJ.map RV.row):=Wp.aD λi hi=>by
  have hil:=(Wp.bN hi).2;rw[YT Om];exact k4 i hil λe=>d1c i e hi
 refine c9 hS5 rfl rfl ?_;refine Rs t0 ?_;refine WR.IX (N:=B.length) (cs:=V.cJ.map RV.row) (ys:=[V8.row]) owr4 (Fr.push (N:=0) (Zw _) [V8.row] (by intro y hy;rw[Zm]at hy;rw[hy];rfl)).ba (by simp only[YP];omega) De Si (by simp only[YY,YV,YX];omega) ?_;intro h6 hl6 hs6 hk6;have Xu:V.cJ.map RV.row++[V8.row]=(V.cJ++[V8]).map RV.row:=by rw[Y5];rfl
 rw[Xu]at hs6;rw[Xu];obtain⟨SA,hsr⟩:∃SA,SA=AV.slice (h4++[ak.cells V8.row true true]).length 0 ((V.cJ++[V8]).map RV.row).length 7:=⟨_,rfl⟩;rw[<-hsr]at hs6 ⊢;have hl6':h6.length=H2.length+4:=by rw[hl6];simp;omega
 have Wy:∀i,sB SA=some i->H2.length+3=i:=λi hi=>by rw[hsr]at hi;cases hi;simp;omega
 have osr:SA.one=true:=by rw[hsr];rfl
 have k6:∀i,i<H2.length->sB V.sc≠some i->sB V.sr≠some i->h6[i]? =H2[i]? :=λi hi n1 n2=>by
  rw[hk6 i (by simp;omega) n2,YT Om];exact k4 i hi n1
 have hS6:(λh:ah=>h[b]? =some (.b [Sy,V.sc,V.sr])/\h[N]? =some (.b x'.row)/\h[rb]? =some (.b V8.row)) h6:=⟨(k6 b hbl2 d1b.1 d1b.2).trans m2,(k6 N hNl ncN nrN).trans e2,(k6 rb Tl ncr nrr).trans r2m⟩;refine Rs t0 ?_;refine o9 hS6 rfl ?_;have m6:=hS6.1;have hb6:b<h6.length:=(YQ.1 m6).1;have sA:aW 1 (.ptr b 1) Sd (λz=>h6[z]?)=some (az,.set b (.b [Sy,Sd,V.sr])):=by
  rw[aL m6];exact bX osc Si
 have m7:(h6.set b (.b [Sy,Sd,V.sr]))[b]? =some (.b [Sy,Sd,V.sr]):=Zd hb6;have sB2:aW 1 (.ptr b 2) SA (λz=>(h6.set b (.b [Sy,Sd,V.sr]))[z]?)=some (az,.set b (.b [Sy,Sd,SA])):=by
  rw[aL m7];exact bX osr Si
 refine Rs (A3 t0 @sA @sB2) ?_;rw[List.set_set];obtain⟨gB2,hgB2⟩:=hB2;obtain⟨gz,hz⟩:=vh (X:=.b [Sy,Sd,SA]) oV2.hN (D7 (B:=B) (h:=h6) Om λi hi=>by
  rw[k6 i Om (λe=>by have:=(X9.bN e).1;omega) (λe=>by have:=(Wp.bN e).1;omega),hgB2,YT hi])
 have kz:∀i,i≠b->(h6.set b (.b [Sy,Sd,SA]))[i]? =h6[i]? :=λi hi=>Zc (aam hi)
 have oxm2:bw (fJ (V1.ex b) H2) x':=oV2.ae x' (by rw[Uz];simp);have oR2:aC (fJ (V1.ex b) H2) V8:=r8.o.ok.fJ λj hj hm=>by
  have h1:=(r8.o.dR hj).1;have h2:=U3.Cy hm;omega
 have hBH1:B.length<=H1.length:=by rw[hB1];simp
 have fin:cF B.length (h6.set b (.b [Sy,Sd,SA])) b {V1 with eV:=V1.eV++[x'],cJ:=V1.cJ++[V8],sc:=Sd,sr:=SA}:=by
  subst Uz;refine oV2.Rf (λi hi n1 n2 nb=>(kz i nb).trans (k6 i hi n1 n2)) (hs4.aD λi hi=>?_) (hs6.aD λi hi=>kz i ?_) (Zd hb6) (λi hi=>by have:=WA i hi;omega) (λi hi=>by have:=Wy i hi;omega) (λi h1 h2=>by have:=WA i h1;have:=Wy i h2;omega) oxm2 oR2 (λj hj=>ZL hBH1 (r8.o.dR hj).1)
  ·have h1:=WA i hi;rw[kz i Om,hk6 i (by simp;omega) (λe=>by have:=(Wp.bN e).2;omega),YT Om]
  ·have h1:=Wy i hi;omega
 have hfr:∀i,i<(B++g).length->some i∉V.ex b->(B++gz)[i]? =(B++g)[i]? :=λi hi hn=>by
  have hi1:=Xq i hi hn;have hil:i<H1.length:=by
   rw[YU hi]at hi1;exact(YQ.1 hi1).1
  rw[<-hz,kz i (λe=>hn (by rw[e];simp[HV.ex])),k6 i (by rw[VQ,YP];omega) (λe=>hn (by rw[<-e];simp[HV.ex])) (λe=>hn (by rw[<-e];simp[HV.ex])),VQ,YT hil,hi1]
 have hlo:(B++g).length<=H.length:=by rw[Ve];simp only[YP];omega
 have hlo2:H.length<=H2.length:=by rw[VQ,YP,Wl,ZI,WN];simp only[YP];omega
 have hexn:∀j,some j∈HV.ex b {V1 with eV:=V1.eV++[x'],cJ:=V1.cJ++[V8],sc:=Sd,sr:=SA}->some j∈V.ex b\/(B++g).length<=j:=λj hj=>by
  subst Uz;simp only[HV.ex,ZC,ZY,aay,Zu]at hj ⊢;rcases hj with hj|hj|hj|hj
  ·exact .inl (.inl hj)
  ·have:=Wz j hj.symm;exact .inr Om
  ·have:=WA j hj.symm;exact .inr Om
  ·have:=Wy j hj.symm;exact .inr Om
 refine⟨gz,_,hz,by rw[h2],by rw[<-hz];exact fin,?_,hfr,hexn⟩;rw[Zb h2,iS,RM,Y6 h5,Uz];simp only[HV.bU,Y5,ZP,aaF,RN,hr8]
end
def yo{H e}(h:kj H e=0):e.num=(H.c8.length:Int)+1/\(kH e=.eF->H.eV≠[])/\(kH e≠.eF->fY H.now e (kH e)=0):=by
 unfold kj at h;split at h
 ·exact absurd h De
 case isFalse h1=>
 refine⟨aaw.1 h1,λhk hn=>?_,λhk=>by rw[Y6 hk]at h;exact h⟩;rw[Zb hk,hn]at h;exact absurd h De
def yj{H e}(h:eC H e=0):gV e=0/\kj H e=0:=by
 unfold eC at h;split at h
 case isTrue h1=>exact absurd h h1
 case isFalse h1=>exact⟨aaw.1 h1,h⟩
theorem ko.kH{e d}(w:ko e d):Go.Abs.kH e=d:=by rw[Go.Abs.kH,w.kd];rfl
def kO.add{H e}(w:kO H)(h:eC H e=0):kO (iS H e):=by
 obtain⟨h1,h2⟩:=yj h;obtain⟨d,we⟩:=rL h1;obtain⟨h3,h4,h5⟩:=yo h2;have RM:=we.kH;unfold iS;split
 case isTrue hu=>
  have hl:=aaQ.2 (h4 hu);have e1:=w.ln;have e2:=w.le;refine⟨λR hR=>w.rg R ((List.dropLast_sublist _).mem hR),by simp[e1],?_,λx hx=>?_,λx hx=>w.cn x ((List.dropLast_sublist _).mem hx)⟩
  ·simp only[List.length_dropLast,YP,Zp];omega
  ·exact Kn
 case isFalse hu=>
  have e1:=w.ln;have e2:=w.le;have hs:=h5 hu;rw[RM]at hs hu;refine⟨λR hR=>?_,by simp[e1],by simp only[YP,Zp];omega,λx hx=>?_,λx hx=>?_⟩
  ·rcases YZ.1 hR with hR|hR
   ·exact w.rg R hR
   ·rw[Zm]at hR;rw[hR,RM];exact w.now.step we hu hs
  ·exact Kn
  ·rcases YZ.1 hx with hx|hx
   ·exact w.cn x hx
   ·rw[Zm]at hx;subst hx;exact⟨d,we⟩
def wJ{H e}:(iS H e).c8.length=H.c8.length+1:=by
 unfold iS;split<;>simp
def JA(h:ah)(l:List ed)(v:AV)(k:ah):Prop:=
 ∃p,v=.dM [p,.i (aP l).2.1,.i (aP l).2.2]/\((aP l).2.2≠0->p=.nilPtr)/\
  ((aP l).2.2=0->∃b V,p=.ptr b 0/\cF h.length k b V/\V.bU=(aP l).1/\kO V.bU/\V.c8.length=l.length/\l.length<=1000)
structure uO(L:List EV):Prop where
 l:L.length<=2^30
 e:∀x∈L,x.ev.names.length<=2^30/\x.ev.cB.length<=2^30
section
variable {P:Program}(T:fp P) {h:ah}
include T
def r78{L s}(o:dZ h L s)(sh:uO L)(gl:Gl h):ay P 78 [s] h (JA h (L.map EV.ev)):=by
 have T3:=sh.l;refine .kU 31 T.mix T.c78 ?_;intro ts hlen t0;unfold fn78 gA;by_cases h1:1000<L.length
 ·have q1:decide ((1000:Int)<(L.length:Int))=true:=YW Om;refine Rs (A3 t0 o.sl.aJ q1) ?_;have e:aP (L.map EV.ev)=(hO.zero,0,5):=by rw[aP,Zb (by simpa using h1)]
  unfold JA;rw[e];exact⟨_,rfl,λ_=>rfl,λz=>absurd z De⟩
 have q1:decide ((1000:Int)<(L.length:Int))=false:=YS Om;refine Rs (A3 t0 o.sl.aJ q1) ?_;have e0:aP (L.map EV.ev)=fD hO.zero (L.map EV.ev) 0:=by rw[aP,Y6 (by simpa using h1)]
 obtain⟨b,hb⟩:∃b,b=h.length:=⟨_,rfl⟩;rw[<-hb];refine WL.inv T.mix (λm ts h'=>∃(k:Nat) (g':ah) (V:HV),k<=L.length/\m=L.length-k/\h' =h++g'/\cF h.length (h++g') b V/\kO V.bU/\V.c8.length=k/\aP (L.map EV.ev)=fD V.bU ((L.drop k).map EV.ev) k/\ts.length=31/\slot ts 5=.ptr b 0/\slot ts 14=s/\slot ts 15=.i L.length/\slot ts 16=.i k) L.length
  ⟨0,[ak.b [AV.af,.af,.af]],⟨[],[],[],.af,.af,.af⟩,Om,rfl,rfl,⟨Om,by rw[hb];exact a8,.nil,.nil,.nil,rH.2 ⟨λ_ _=>⟨by simp[sB],by simp[sB],by simp[sB]⟩,λ_ z=>by simp[sB]at z,λ_ z=>by simp[sB]at z⟩,(λx hx=>by cases hx),(λx hx=>by cases hx),(λx hx=>by cases hx),(λx hx=>by cases hx)⟩,kO.zero,rfl,e0,Sn,Sw,(Sq t0),Sw,gM⟩ ?_
 rintro _ ts _ ⟨k,g',V,hk,rfl,rfl,oV,wV,hVl,RL,hlen,t5,t14,t15,t16⟩;by_cases hlt:k<L.length
 ·have e3:=ee hlt;have e5:=wrapN (n:=k) Om;have ix:=o.sl.dG (kk:=.i64) hlt;have ld:∀{k'},Ext (h++g') k'->aq (some 5) (cN s 5 k) (λb=>k'[b]?)=some (.agg (EV.row L[k]),.au):=λ{k'} e=>o.sl.jD hlt (Ext.trans (Ext.app g' (Ext.refl h)) e)
  obtain⟨x,hx⟩:∃x,x=L[k]:=⟨_,rfl⟩;have hm:x∈L:=by rw[hx];exact Za _
  have hd:L.drop k=x::L.drop (k+1):=by rw[hx];simp
  rw[<-hx]at ld;have ox:bw (h++g') x:=(o.all x hm).ext ⟨_,rfl⟩;have st:∀{b':Nat}{a0 a1 a2 a3 a4:AV},km 5 0 (.agg x.row) b' (.b [a0,a1,a2,a3,a4])=some (az,.set b' (.b x.row)):=λ{_ _ _ _ _ _}=>ox.st
  refine Rs (A9 t5 t14 t15 t16 e3 ix @ld @st @cp) ?_;rw[YR h g'];rw[hd,ZP,fD]at RL;refine WF.gen T.c112 (Mf T (B:=h) (x:=x) (by rw[<-YR];exact oV.app _) wV Om (by rw[<-YR];exact ox.ext Xx) ⟨by have:=(sh.e x hm).1;omega,by have:=(sh.e x hm).2;omega⟩ gl) ?_;rintro _ _ ⟨g2,V2,rfl,rfl,o2,hV2,-,-⟩;by_cases h2:eC V.bU x.ev=0
  ·have q2:decide (eC V.bU x.ev≠0)=false:=YS (λz=>z h2);rw[Zb h2]at hV2;rw[Y6 (λz=>z h2)]at RL;refine Rs (A6 t5 t14 t15 t16 q2 e5) ?_;refine⟨_,Om,k+1,g2,V2,Om,rfl,rfl,o2,by rw[hV2];exact wV.add h2,?_,by rw[hV2];exact RL,rfl⟩;have:V2.bU.c8.length=V.bU.c8.length+1:=by rw[hV2];exact wJ
   simpa [HV.bU,hVl]using this
  ·have q2:decide (eC V.bU x.ev≠0)=true:=YW h2;rw[Zb h2]at RL;refine Rs (A6 t5 t14 t15 t16 q2 e5) ?_;unfold JA;rw[RL];refine⟨_,?_,λ_=>rfl,λz=>absurd z h2⟩;simp
 ·have e3:=fo hlt;have e4:k=L.length:=Om
  have U6:aP (L.map EV.ev)=(V.bU,0,0):=by rw[RL,e4,ZX];rfl
  refine Rs (A5 t5 t14 t15 t16 e3) ?_;unfold JA;rw[U6];exact⟨_,rfl,λz=>absurd rfl z,λ_=>⟨b,V,rfl,oV,rfl,wV,by simp;omega,by simp;omega⟩⟩
end
def iU(t:Int):Int:=bg t 0 999999999
def Q6:decide ((0:Int)≠0)=false:=rfl
def gp(l:List ed)(t:Nat)(n:By):eM×Int:=if(aP l).2.2≠0 then(eM.zero,(aP l).2.2)else((aP l).1.now,bZ (!dC (aP l).1.now t n) 10)
def cF.HY{N h b V}(o:cF N h b V):∀j,some j∈V.now.bl->N<=j:=by
 rw[HV.now,aal];cases hx:V.cJ.getLast? with
 |none=>intro j hj;simp[RV.zero,RV.bl,sB]at hj
 |some R=>exact o.lo R (abg hx)
def ug{h X:ah}{A C:ak}{j:Nat}(hj:h.length+1<=j):(h++[A]++X)[j]? =(h++[C]++X)[j]? :=by
 exact Ns
section
variable {P:Program}(T:fp P) {h:ah}
include T
def r75(t:Int):ay P 75 [.i t] h (λv _=>v=.i (iU t)):=by
 refine .kU 5 T.mix T.c75 ?_;intro ts hlen t0;unfold fn75 gA;refine Rs t0 ?_;refine WF.ce T.c94 (r94 T _ _ _) λg1=>?_
 refine Rs t0 ?_;rfl
def BK{l v k}(r:JA h l v k)(he:(aP l).2.2≠0):v=.dM [.nilPtr,.i (aP l).2.1,.i (aP l).2.2]:=by
 have:=T.mix;obtain⟨p,rfl,h1,_⟩:=r;rw[h1 he]
def yM{l v k}(r:JA h l v k)(he:(aP l).2.2=0):∃b V,v=.dM [.ptr b 0,.i 0,.i 0]/\cF h.length k b V/\V.bU=(aP l).1/\kO V.bU/\V.c8.length=l.length/\l.length<=1000/\V.cJ.length<=1000/\(aP l).2.1=0/\eJ V.now.an/\V.now.an=(aP l).1.now/\aC k V.now/\∀j,some j∈V.now.bl->h.length<=j:=by
 have:=T.mix;obtain⟨p,rfl,_,h2⟩:=r;obtain⟨b,V,rfl,h3,h4,h5,h6,h7⟩:=h2 he;have hz:(aP l).2.1=0:=by
  revert he
  unfold aP;split
  ·intro _;rfl
  ·have key:∀(l:List ed) (H:hO) (i:Nat),(fD H l i).2.2=0->(fD H l i).2.1=0:=by
    intro l
    induction l with
    |nil=>intro H i _;rfl
    |cons e l ih=>
     intro H i;rw[fD];split
     case isTrue hb=>intro hc;exact absurd hc hb
     case isFalse hb=>exact ih _ _
   exact key l _ _
 have hr:V.cJ.length<=1000:=by
  have e1:=h5.ln;have e2:=h5.le;exact Kp
 exact⟨b,V,by rw[hz,he],h3,h4,h5,h6,h7,hr,hz,by rw[V.jI];exact h5.now,by rw[V.jI,h4],h3.rd.now,h3.HY⟩
def r73{L:List EV}{s:AV}(o:dZ h L s)(sh:uO L)(gl:Gl h){t:Nat}(ht:t<6)(n:By):ay P 73 [s,.i t,.str n] h (λv k=>∃V:RV,v=.dM [.agg V.row,.i (gp (L.map EV.ev) t n).2]/\V.an=(gp (L.map EV.ev) t n).1/\aC k V/\eJ V.an):=by
 refine .nM 31 T.mix T.c73 ?_;intro ts hlen t0 t1 t2;unfold fn73 gA;refine Rs (A3 t0 t1 t2) ?_;refine WF.res T.c78 (r78 T (o.ext Xx) sh (gl.ext Xx)) ?_;intro v g hv;by_cases he:(aP (L.map EV.ev)).2.2=0
 ·obtain⟨b,V,rfl,oV,hV,wV,_,_,hr,_,wn,hn,on,lo⟩:=yM T hv he;have st:=@aC.st _ _ on;refine Rs (A4 t0 t1 t2 @Q6) ?_;refine WF.ce T.c79 (r79 T (oV.rd.ext Xx) hr) λg2=>?_
  refine Rs (A5 t0 t1 t2 @st @aF) ?_;refine WF.ce T.c86 (r86 T (on.ext Xx) wn.len ht _) λg3=>?_
  refine Rs (A4 t0 t1 t2 @aF) ?_;refine WF.ce T.c85 (r85 T _ _) λg4=>?_
  refine Rs (A5 t0 t1 t2 @st @aF) ?_;refine⟨V.now,?_,?_,?_,wn⟩
  ·rw[gp,Y6 (λz=>z he),hn]
  ·rw[gp,Y6 (λz=>z he),hn]
  ·refine(on.au (k:=h++[ak.b V.now.row]++g) λj hj=>ug (by have:=lo j hj;simpa using this)).ext Xx
 ·have Tk:=BK T hv he;subst Tk;have q:decide ((aP (L.map EV.ev)).2.2≠0)=true:=YW he;refine Rs (A4 t0 t1 t2 q) ?_;refine⟨RV.zero,?_,?_,aC.zero,eJ.zero⟩
  ·rw[gp,Zb he];rfl
  ·rw[gp,Zb he];rfl
def r34{L s}(o:dZ h L s)(sh:uO L)(gl:Gl h):ay P 34 [s] h (λv k=>∃V:RV,v=.dM [.agg V.row,.i (aP (L.map EV.ev)).2.1,.i (aP (L.map EV.ev)).2.2]/\V.an=(aP (L.map EV.ev)).1.now/\aC k V/\eJ V.an):=by
 refine .kU 22 T.mix T.c34 ?_;intro ts hlen t0;unfold fn34 gA;refine Rs t0 ?_;refine WF.res T.c78 (r78 T (o.ext Xx) sh (gl.ext Xx)) ?_;intro v g hv;by_cases he:(aP (L.map EV.ev)).2.2=0
 ·obtain⟨b,V,rfl,oV,hV,wV,_,_,hr,hz,wn,hn,on,lo⟩:=yM T hv he;refine Rs (A2 t0 @Q6) ?_;refine WF.ce T.c79 (r79 T (oV.rd.ext Xx) hr) λg2=>?_
  refine Rs t0 ?_;refine WF.res T.c96 (r96 T (on.ext Xx) wn) ?_;rintro _ g3 ⟨VN,hVN,rfl,own⟩;have st:∀{b':Nat}{a0 a1 a2 a3 a4 a5 a6:AV},km 7 0 (.agg VN.row) b' (.b [a0,a1,a2,a3,a4,a5,a6])=some (az,.set b' (.b VN.row)):=λ{_ _ _ _ _ _ _ _}=>own.ok.st
  refine Rs (A3 t0 @st @aF) ?_;refine⟨VN,by rw[he,hz],by rw[hVN,hn],?_,by rw[hVN];exact wn⟩;have:=own.ok.au (k:=h++[ak.b VN.row]++(g++g2++g3)) λj hj=>by
   have:=(own.dR hj).1;rw[show h++[ak.b [AV.int IntKind.i64 0,AV.af,AV.af,AV.af,AV.af,AV.af,AV.af]]++g++g2++g3=h++[ak.b [AV.int IntKind.i64 0,AV.af,AV.af,AV.af,AV.af,AV.af,AV.af]]++(g++g2++g3) by simp only[YR]];exact ug (by simp only[YP,Zp]at this;omega)
  simpa only[YR]using this
 ·have Tk:=BK T hv he;subst Tk;have q:decide ((aP (L.map EV.ev)).2.2≠0)=true:=YW he;refine Rs (A2 t0 q) ?_;have hz:(aP (L.map EV.ev)).1=hO.zero:=by
   revert he
   unfold aP;split
   ·intro _;rfl
   ·have key:∀(l:List ed) (H:hO) (i:Nat),(fD H l i).2.2≠0->(fD H l i).1=hO.zero:=by
     intro l
     induction l with
     |nil=>intro H i z;exact absurd rfl z
     |cons e l ih=>
      intro H i;rw[fD];split
      case isTrue hb=>intro _;rfl
      case isFalse hb=>exact ih _ _
    exact key _ _ _
  exact⟨RV.zero,rfl,by rw[hz];rfl,aC.zero,eJ.zero⟩
end
def HH{l t n}(h:(gp l t n).2=0):(aP l).2.2=0/\(gp l t n).1=(aP l).1.now/\n∈Jr (aP l).1.now t:=by
 unfold gp at h ⊢;split at h
 case isTrue h1=>exact absurd h h1
 case isFalse h1=>
  rw[Y6 h1];refine⟨aaw.1 h1,rfl,?_⟩;by_cases hh:dC (aP l).1.now t n=true
  ·unfold dC at hh;exact aad hh
  ·have:dC (aP l).1.now t n=false:=by simpa using hh
   simp only[this,bZ]at h;exact absurd h De
def gW(l:List ed)(n:By)(t:Int):Bool×Int:=
 if aZ [(gp l 2 n).2,iU t]≠0 then(false,aZ [(gp l 2 n).2,iU t])else(cG (gp l 2 n).1 (kV (gp l 2 n).1 n) t,0)
def fB(l:List ed)(t:Int):List (By)×Int:=
 if aZ [(aP l).2.2,iU t]≠0 then([],aZ [(aP l).2.2,iU t])else(fj (aP l).1.now t,0)
def x6{a b}(h:aZ [a,b]=0):a=0/\b=0:=by
 simp only[aZ]at h;split at h
 ·rename_i ha;split at h
  ·rename_i hb;exact⟨ha,hb⟩
  ·rename_i hb;exact absurd h hb
 ·rename_i ha;exact absurd h ha
section
variable {P:Program}(T:fp P) {h:ah}
include T
def r16{L s}(o:dZ h L s)(sh:uO L)(gl:Gl h)(n:By)(t:Int):ay P 16 [s,.str n,.i t] h (λv _=>v=.dM [.bool (gW (L.map EV.ev) n t).1,.i (gW (L.map EV.ev) n t).2]):=by
 refine .nM 31 T.mix T.c16 ?_;intro ts hlen t0 t1 t2;unfold fn16 gA;refine Rs (A3 t0 t1 t2) ?_;refine WF.res T.c73 (r73 T (o.ext Xx) sh (gl.ext Xx) (t:=2) De n) ?_;rintro _ g ⟨V,rfl,hV,oV,wV⟩;have st:∀{b':Nat}{a0 a1 a2 a3 a4 a5 a6:AV},km 7 0 (.agg V.row) b' (.b [a0,a1,a2,a3,a4,a5,a6])=some (az,.set b' (.b V.row)):=λ{_ _ _ _ _ _ _ _}=>oV.st
 refine Rs (A5 t0 t1 t2 @st @aF) ?_;refine WF.ce T.c75 (r75 T t) λg1=>?_
 refine Rs (A3 t0 t1 t2) ?_;refine WF.ce T.c74 (r74 T (cj [_,_]) Si) λg2=>?_
 obtain⟨f,hf⟩:∃f,f=aZ [(gp (L.map EV.ev) 2 n).2,iU t]:=⟨_,rfl⟩;rw[<-hf,gW,<-hf];by_cases h0:f=0
 case neg=>
  have q:decide (f≠0)=true:=YW h0;rw[Zb h0];exact Rs (A4 t0 t1 t2 q) Tv
 have q:decide (f≠0)=false:=YS (λz=>z h0);rw[Y6 (λz=>z h0)];rw[hf]at h0;obtain⟨he,hne,hm⟩:=HH (x6 h0).1;rw[<-hne,<-hV]at hm;refine Rs (A5 t0 t1 t2 q @aF) ?_;refine WF.res T.c77 (r77 T (oV.ext Xx) wV.len hm) ?_;rintro _ g3 ⟨x,hx,UM,rfl⟩;refine Rs (A3 t0 t1 t2) ?_;refine WF.ce T.c76 (r76 T (oV.ext Xx) wV.len ((oV.e2 x hx).ext Xx) (wV.ue.sh x hx).2 (wV.ue.sh x hx).1 t) λg4=>?_
 refine Rs (A3 t0 t1 t2) ?_;rw[UM,hV]
def r17{L s}(o:dZ h L s)(sh:uO L)(gl:Gl h)(t:Int):ay P 17 [s,.i t] h (λv k=>∃s',v=.dM [s',.i (fB (L.map EV.ev) t).2]/\aH k s' 1 ((fB (L.map EV.ev) t).1.map ao)):=by
 refine .eP 28 T.mix T.c17 ?_;intro ts hlen t0 t1;unfold fn17 gA;refine Rs (A2 t0 t1) ?_;refine WF.res T.c78 (r78 T (o.ext Xx) sh (gl.ext Xx)) ?_;intro v g hv;obtain⟨p,hvp⟩:∃p,v=.dM [p,.i (aP (L.map EV.ev)).2.1,.i (aP (L.map EV.ev)).2.2]:=by obtain⟨p,h1,_⟩:=hv;exact⟨p,h1⟩
 rw[hvp];refine Rs (A2 t0 t1) ?_;refine WF.ce T.c75 (r75 T t) λg1=>?_
 refine Rs (A2 t0 t1) ?_;refine WF.ce T.c74 (r74 T (cj [_,_]) Si) λg2=>?_
 obtain⟨f,hf⟩:∃f,f=aZ [(aP (L.map EV.ev)).2.2,iU t]:=⟨_,rfl⟩;rw[<-hf,fB,<-hf];by_cases h0:f=0
 case neg=>
  have q:decide (f≠0)=true:=YW h0;rw[Zb h0];refine Rs (A3 t0 t1 q) ?_;exact⟨_,rfl,.nil⟩
 have q:decide (f≠0)=false:=YS (λz=>z h0);rw[Y6 (λz=>z h0)];rw[hf]at h0;obtain⟨b,V,hvb,oV,hV,wV,VJ,hle,hr,hz,wn,hn,on,lo⟩:=yM T hv (x6 h0).1;rw[hvp]at hvb;have hpb:p=.ptr b 0:=by injection hvb with h1;injection h1
 rw[hpb];refine Rs (A3 t0 t1 q) ?_;refine WF.ce T.c79 (r79 T (oV.rd.ext Xx) hr) λg3=>?_
 refine Rs (A2 t0 t1) ?_;refine WF.res T.c80 (r80 T (on.ext Xx) wn.len wn.ue t) ?_;rintro v4 g4 h4;refine Rs (A2 t0 t1) ?_;rw[hn]at h4;exact⟨_,rfl,h4⟩
def r219{x:gN×AV}(ox:x.2.one=true){S:List gZ}{s:AV}(hs:aH h s 3 (S.map bV))(hl:S.length<2^63){b:Nat}(hb:h[b]? =some (.b [s])):
  ay P 219 [.agg (aX x),.ptr b 0] h (λv _=>v=.bool (decide (x.1.line∈S.map gZ.name))):=by
 refine .eP 9 T.mix T.c219 ?_;intro ts hlen t0 t1;unfold fn219 gA;have lb:∀{k:ah}{n':Option Nat}{a:Nat},Ext h k->aq n' (.ptr b a) (λz=>k[z]?)=dE n' a (.b [s]):=λe=>aA (e.some hb)
 unfold aX at t0;refine Rs (A4 t0 t1 @ox @lb) ?_;refine WF.ce T.c142 (r142 T (hs.ext Xx) hl _) λg1=>?_
 rw[show(λy:gZ=>decide (y.name=x.1.line))=λy=>decide (gZ.name y=x.1.line)from rfl];refine Rs (A2 t0 t1) ?_;rw[fk]
def r126{V:RV}(o:aC h V)(w:eJ V.an){p:By}(hp:p∈lh V.an):ay P 126 [.agg V.row,.str p] h (λv h'=>aH h' v 1 ((s9 V.an p).map ao)):=by
 refine .eP 20 T.mix T.c126 ?_;intro ts hlen t0 t1;unfold fn126 gA;have RF:=@aC.box _ _ o;have l:=w.len;have hpc:=gI (f:=qo.name) (l:=V.an.aN) (n:=p) (d:=HM) hp;have hj:=(w.pc _ hpc).1;refine Rs (A4 t0 t1 @RF @aF) ?_;refine WF.ce T.c218 (r218 T (o.ext Xx) l hp) λg1=>?_
 have pj:(dh (j5 V.an p))[1]? =some (.str (j5 V.an p).Cn):=rfl;unfold dh;refine Rs (A3 t0 t1 @aF) ?_;refine WF.res T.c124 (r124 T (o.ext Xx) l hj) ?_;rintro _ g2 ⟨x,hx,UM,rfl⟩;unfold bO;refine Rs (A3 t0 t1 @aF) ?_;have hin:∀x∈V.aE,x.1.bA.length<2^30:=λx hx=>by have:=(w.md x.1 (Zo hx)).2.1;omega
 refine WF.res T.c122 (r122 T (o.ext Xx) l hin _) ?_;rintro v3 g3 h3;have ov:=h3.one;have hsl:(jd V.an x.1.mod).length<2^30:=by
  have h1:(jd V.an x.1.mod).length<=V.an.lines.length:=by unfold jd;exact ZD _ _
  have:=w.l0;omega
 have sn:∀{N:Nat},km 1 0 v3 N (.b [.af])=some (az,.set N (.b [v3])):=λ{_}=>bX ov Si
 refine Rs (A6 t0 t1 @fP @dy @ov @sn) ?_;refine WF.res T.c138 (r138 T (o.i2.ext Xx) o.jw.1 (by have:=l.l2;omega) (λy=>decide (y.1.line∈(jd V.an x.1.mod).map gZ.name)) (λy hy k e=>bF.of (a:=[]) T.c219 (r219 T (o.jw.1 y hy) (h3.ext (Ext.trans Xx e)) Om (e.some a8)))) ?_;rintro s4 g4 h4;have Sg:(V.aj.filter λy=>decide (y.1.line∈(jd V.an x.1.mod).map gZ.name)).length<=V.aj.length:=ZD _ _;refine Rs (A2 t0 t1) ?_;refine WF.res T.c137 (r137 T h4.ba (λx hx=>o.jw.1 x ((aaa.1 hx).1)) (by have:=l.l2;omega) (λx=>x.1.name) (λx hx k e=>bF.of (a:=[]) (c:=[]) T.c140 (r140 T x (o.jw.1 x ((aaa.1 hx).1))))) ?_
 rintro s5 g5 h5;have:=h5.ba;refine Rs (A2 t0 t1) ?_;have e:s9 V.an p=(V.aj.filter λy=>decide (y.1.line∈(jd V.an x.1.mod).map gZ.name)).map λx=>x.1.name:=by
  rw[s9,<-UM];simp only[RV.an,aaM,aaA];rfl
 rw[e];exact this
def EK(l:List Int):Int×Int:=
 if aZ [bZ (decide (l.length=0)) 12,bZ (decide (32<l.length)) 5]≠0 then(0,aZ [bZ (decide (l.length=0)) 12,bZ (decide (32<l.length)) 5])
 else if aZ (l.map λn=>bg n 0 999999999)≠0 then(0,aZ (l.map λn=>bg n 0 999999999))else(fZ l,0)
def r93(n:Int):ay P 93 [.i n] h (λv _=>v=.i (bg n 0 999999999)):=by
 refine .kU 5 T.mix T.c93 ?_;intro ts hlen t0;unfold fn93 KH;refine Rs t0 ?_;refine WF.ce T.c94 (r94 T _ _ _) λg1=>?_
 exact Rs t0 Tv
def r27{s l}(hs:aH h s 1 (l.map aK))(hl:l.length<2^30):ay P 27 [s] h (λv _=>v=.dM [.i (EK l).1,.i (EK l).2]):=by
 refine .kU 27 T.mix T.c27 ?_;intro ts hlen t0;unfold fn27 gA;refine Rs (A2 t0 hs.aJ) ?_;refine WF.ce T.c85 (r85 T _ _) λg1=>?_
 refine Rs (A2 t0 hs.aJ) ?_;refine WF.ce T.c85 (r85 T _ _) λg2=>?_
 refine Rs t0 ?_;refine WF.ce T.c74 (r74 T (cj [_,_]) Si) λg3=>?_
 have e1:decide ((l.length:Int)=0)=decide (l.length=0):=aaI.2 Om;have e2:decide ((32:Int)<(l.length:Int))=decide (32<l.length):=aaI.2 Om;rw[e1,e2];obtain⟨f,hf⟩:∃f,f=aZ [bZ (decide (l.length=0)) 12,bZ (decide (32<l.length)) 5]:=⟨_,rfl⟩;rw[<-hf,EK,<-hf];by_cases h0:f=0
 case neg=>
  have q:decide (f≠0)=true:=YW h0;rw[Zb h0];exact Rs (A2 t0 q) Tv
 have q:decide (f≠0)=false:=YS (λz=>z h0);rw[Y6 (λz=>z h0)];refine Rs (A2 t0 q) ?_;refine WF.res T.c92 (r92 T (hs.ext Xx) Om (λn=>bg n 0 999999999) (λn _ k _=>bF.of (a:=[]) (c:=[]) T.c93 (r93 T n))) ?_;rintro s4 g4 hf4;refine Rs t0 ?_;refine WF.ce T.c74 (r74 T hf4.ba (by simp;omega)) λg5=>?_
 by_cases h1:aZ (l.map λn=>bg n 0 999999999)=0
 case neg=>
  have q:decide (aZ (l.map λn=>bg n 0 999999999)≠0)=true:=YW h1;rw[Zb h1];exact Rs (A2 t0 q) Tv
 have q1:decide (aZ (l.map λn=>bg n 0 999999999)≠0)=false:=YS (λz=>z h1);rw[Y6 (λz=>z h1)];have hb:∀n∈l,-1<=n/\n<=999999999:=λn hn=>by
  rw[p9]at h1;split at h1
  ·exact absurd h1 De
  case isFalse hh=>
   have:=iH (n:=n) (lo:=0) (hi:=999999999) λz=>hh (aaj.2 ⟨n,hn,by simpa using z⟩)
   omega
 refine Rs (A2 t0 q1) ?_;refine WF.ce T.c95 (r95 T (hs.ext Xx) hl hb) λg6=>?_
 exact Rs t0 Tv
end
def yU(l:List ed)(n:By):List (By)×Int:=if(gp l 3 n).2≠0 then([],(gp l 3 n).2)else((mI (gp l 3 n).1 n).map iE.name,0)
def EH{h X:ah}{A A' R R':ak}{j:Nat}(hj:h.length+2<=j):(h++[A]++[R]++X)[j]? =(h++[A']++[R']++X)[j]? :=by
 exact Ns
def Fs:ai:=((fn213).body.tl).hd
def MH:ai:=Fs.tl.tv
def P9:ai:=(fn213).body.tl.tl
def MG:(fn213).body=.seq ((fn213).body.hd) (.seq (.seq Fs.hd (.block 0 (.fL (.t 6) [7] MH.DZ MH.Dm))) P9):=rfl
section
variable {P:Program}(T:fp P) {h:ah}
include T
def r213{f:FuncId}{A:ar}(hA:bQ P f=some A){a c:List AV}{L:List (iE×AV)}{pre:ah->Prop}(hi:IterM P f a c (L.map λx=>[.agg (aV x)]) pre)(ho:∀x∈L,x.2.one=true)(hl:L.length<=2^30)(hp:pre h)(hpe:∀k,Ext h k->pre k):
  ay P 213 [.af,.func (.func f) a c] h (λv k=>aH k v 4 (L.map aV)):=by
 refine .of T.mix T.c213 ?_;obtain⟨ts,RG⟩:∃ts,ts=aR 13 [.af,.func (.func f) a c]:=⟨_,rfl⟩;have hlen:ts.length=13:=by rw[RG];rfl
 have t0:slot ts 0=.af:=by rw[RG];rfl
 have t1:slot ts 1=.func (.func f) a c:=by rw[RG];rfl
 show WC P bL (fn213).body [] (aR 13 [.af,.func (.func f) a c]) h _;rw[<-RG,MG];clear RG;obtain⟨RR,SJ⟩:∃RR,RR=P9:=⟨_,rfl⟩;obtain⟨RA,XL⟩:∃RA,RA=MH.DZ:=⟨_,rfl⟩;obtain⟨RB,XK⟩:∃RB,RB=MH.Dm:=⟨_,rfl⟩;rw[<-SJ,<-XL,<-XK];unfold Fs fn213 gA;simp only[ai.tl,ai.hd];refine Rs (A2 t0 t1) ?_;refine WC.iterM T.mix hA (a:=a) (c:=c) (Sq t0) hi (λy hy=>by obtain⟨z,_,rfl⟩:=Zv.1 hy;rfl)
  (λmm i h' g=>∃sl:AV,h' =h++[ak.b [sl]]/\h'.length+1<=mm/\mm<=h'.length+1+g.length/\i<=L.length/\∀R:ak,Fr mm (h'++[R]++g) sl 4 ((L.take i).map aV)) (λ_ _ _=>False)
  (λg=>⟨.af,rfl,Om,Y9 _,Zw _,λR=>.nil⟩)
  (λmm i h' g g' hI=>by
   obtain⟨sl,a1,a2,a3,a4,a5⟩:=hI;exact⟨sl,a1,a2,by rw[YP];omega,a4,λR=>by rw[<-YR];exact(a5 R).app _⟩)
  (λX=>hpe _ Xx) (λmm i h' g X RT hI=>by obtain⟨sl,rfl,_⟩:=hI;exact hpe _ Xx) (λmm i hi' h' g R B RT hI=>?_) (λe h' g RT hI=>?_)
 ·obtain⟨sl,rfl,Ty,We,hi0,hfr⟩:=hI;have hiL:i<L.length:=by simpa using hi'
  rw[Z6,XL,XK];obtain⟨x,hx⟩:∃x,x=L[i]:=⟨_,rfl⟩;have ox:=ho x (by rw[hx];exact Za _);have R4:L.take (i+1)=L.take i++[x]:=by rw[hx,ZF,YU hiL];rfl
  rw[<-hx];unfold MH Fs fn213 gA;simp only[ai.tl,ai.hd,ai.tv,ai.DZ,ai.Dm,setArgs,aV];refine Rs (A3 t0 t1 @ox) ?_;refine⟨_,g++[ak.b [AV.str x.1.name,.str x.1.gives,.str x.1.line,x.2]],by rw[<-YR],RT,?_⟩;rw[<-YR];have lb:∀{Z:ah}{n a},aq n (.ptr h.length a) (λz=>(h++[ak.b [sl]]++[B]++g++Z)[z]?)=dE n a (.b [sl]):=λ{_ _ _}=>aA sG
  have lx:∀{n a},aq n (.ptr (h++[ak.b [sl]]++[R]++g).length a) (λz=>(h++[ak.b [sl]]++[B]++g++[ak.b [AV.str x.1.name,.str x.1.gives,.str x.1.line,x.2]])[z]?)=dE n a (.b [AV.str x.1.name,.str x.1.gives,.str x.1.line,x.2]):=λ{_ _}=>by
   have:(h++[ak.b [sl]]++[R]++g).length=(h++[ak.b [sl]]++[B]++g).length:=Si
   rw[this];exact aA a8
  refine Rs (A5 t0 t1 @ox @lb @lx) ?_;obtain⟨gt,UX⟩:∃gt,gt=g.take (mm-(h.length+2)):=⟨_,rfl⟩;have WD:h.length+2<=mm/\mm<=h.length+2+g.length:=by
   simp only[YP,YV,YX]at Ty We;omega
  have hgl:gt.length=mm-(h.length+2):=by rw[UX,ZR];omega
  have hgs:g=gt++g.drop (mm-(h.length+2)):=by rw[UX,aah]
  have h0l:(h++[ak.b [sl]]++[B]++gt).length=mm:=by
   exact J0
  have hfs:Fr (h++[ak.b [sl]]++[B]++gt).length (h++[ak.b [sl]]++[B]++g++[ak.b [AV.str x.1.name,.str x.1.gives,.str x.1.line,x.2]]++[ak.cells [AV.str x.1.name,.str x.1.gives,.str x.1.line,x.2] true true]) sl 4 ((L.take i).map aV):=by
   rw[h0l];exact((hfr B).app _).app _
  have hext:Ext (h++[ak.b [sl]]++[B]++gt) (h++[ak.b [sl]]++[B]++g++[ak.b [AV.str x.1.name,.str x.1.gives,.str x.1.line,x.2]]++[ak.cells [AV.str x.1.name,.str x.1.gives,.str x.1.line,x.2] true true]):=by
   refine⟨g.drop (mm-(h.length+2))++[ak.b [AV.str x.1.name,.str x.1.gives,.str x.1.line,x.2]]++[ak.cells [AV.str x.1.name,.str x.1.gives,.str x.1.line,x.2] true true],?_⟩
   conv=>lhs;rw[hgs]
   simp only[YR]
  refine WR.fG (h0:=h++[ak.b [sl]]++[B]++gt) (cs:=(L.take i).map aV) (ys:=[aV x]) hfs (Fr.push (N:=0) (Zw _) [aV x] (by simp[aV])).ba De Si (by simp only[YY,ZR,YV,YX];omega) hext ?_;intro g' hlg hff hkp;have hrow:(L.take i).map aV++[aV x]=(L.take (i+1)).map aV:=by rw[R4,Y5];rfl
  rw[hrow]at hff;rw[hrow];obtain⟨sn,Sx⟩:∃sn,sn=AV.slice (h++[ak.b [sl]]++[B]++g++[ak.b [AV.str x.1.name,.str x.1.gives,.str x.1.line,x.2]]++[ak.cells [AV.str x.1.name,.str x.1.gives,.str x.1.line,x.2] true true]).length 0 ((L.take (i+1)).map aV).length 4:=⟨_,rfl⟩;rw[<-Sx]at hff ⊢;have osn:sn.one=true:=by rw[Sx];rfl
  have st:aW 1 (.ptr h.length 0) sn (λz=>(h++[ak.b [sl]]++[B]++gt++g')[z]?)=some (az,.set h.length (.b [sn])):=by
   have:(h++[ak.b [sl]]++[B]++gt++g')[h.length]? =some (.b [sl]):=sG;rw[aL this];exact bX osn Si
  refine Rs (A3 t0 t1 @st) ?_;refine⟨h++[ak.b [sn]],gt++g',by simp only[YR],Si,λy hy=>?_,sn,rfl,by simp only[YP,YV,YX];omega,?_,Om,λR'=>?_⟩
  ·have S2:y<gt.length:=by
    simp only[YP,YV,YX]at hy;omega
   rw[YT S2]
   conv=>rhs;rw[hgs]
   rw[YT S2]
  ·exact J0
  ·rw[<-h0l];refine hff.aD λb hb=>?_
   have hbb:=(hff.bN hb).1;rw[h0l]at hbb;rw[YR _ gt];exact EH Om
 ·by_cases Sm:e=.normal
  case neg=>rw[Y6 Sm]at hI;exact hI.elim
  subst Sm;rw[Zb rfl]at hI;obtain⟨mm,sl,rfl,_,_,_,hfr⟩:=hI;rw[YY,ZA]at hfr;rw[SJ];have hf:=(hfr ak.dead).ba;have lb:∀{n a},aq n (.ptr h.length a) (λz=>(h++[ak.b [sl]]++[ak.dead]++g)[z]?)=dE n a (.b [sl]):=λ{_ _}=>aA yk
  unfold P9 fn213 gA;simp only[ai.tl,ai.hd];refine Rs (A3 t0 t1 @lb) ?_;exact hf
def r118{f:FuncId}{A:ar}(hA:bQ P f=some A){a c:List AV}{L:List (iE×AV)}{pre:ah->Prop}(hi:IterM P f a c (L.map λx=>[.agg (aV x)]) pre)(ho:∀x∈L,x.2.one=true)(hl:L.length<=2^30)(hp:pre h)(hpe:∀k,Ext h k->pre k):
  ay P 118 [.func (.func f) a c] h (λv k=>aH k v 4 (L.map aV)):=by
 refine .kU 5 T.mix T.c118 ?_;intro ts hlen t0;unfold fn118 gA;refine Rs t0 ?_;refine WF.res T.c213 (r213 T hA hi ho hl hp hpe) ?_;rintro v g1 h1;refine Rs t0 ?_;exact h1
def r51{L:List EV}{s:AV}(o:dZ h L s)(sh:uO L)(gl:Gl h)(n:By):ay P 51 [s,.str n] h (λv k=>∃s',v=.dM [s',.i (yU (L.map EV.ev) n).2]/\aH k s' 1 ((yU (L.map EV.ev) n).1.map ao)):=by
 refine .eP 22 T.mix T.c51 ?_;intro ts hlen t0 t1;unfold fn51 gA;refine Rs (A2 t0 t1) ?_;refine WF.res T.c73 (r73 T (o.ext Xx) sh (gl.ext Xx) (t:=3) De n) ?_;rintro _ g ⟨V,rfl,hV,oV,wV⟩;have st:∀{b':Nat}{a0 a1 a2 a3 a4 a5 a6:AV},km 7 0 (.agg V.row) b' (.b [a0,a1,a2,a3,a4,a5,a6])=some (az,.set b' (.b V.row)):=λ{_ _ _ _ _ _ _ _}=>oV.st
 rw[yU];by_cases h0:(gp (L.map EV.ev) 3 n).2=0
 case neg=>
  have q:decide ((gp (L.map EV.ev) 3 n).2≠0)=true:=YW h0;rw[Zb h0];refine Rs (A4 t0 t1 @st q) ?_;exact⟨_,rfl,.nil⟩
 have q:decide ((gp (L.map EV.ev) 3 n).2≠0)=false:=YS (λz=>z h0);rw[Y6 (λz=>z h0)];refine Rs (A5 t0 t1 @st q @aF) ?_;have hin:∀x∈V.aE,x.1.bA.length<2^30:=λx hx=>by have:=(wV.md x.1 (Zo hx)).2.1;omega
 have ov1:∀x∈iV V n,x.2.one=true:=λx hx=>oV.jw.2.1 x (aaa.1 hx).1
 have hnl:(iV V n).length<=2^30:=by
  have h1:(iV V n).length<=V.aE.length:=by unfold iV;exact ZD _ _
  have:=wV.len.l3;omega
 refine WF.res T.c119 (r119 T (oV.ext Xx) n) ?_;rintro _ g1 ⟨rfl,hp⟩;refine Rs (A2 t0 t1) ?_;refine WF.res T.c118 (r118 T T.c214 (a:=[]) (rA T wV.len hin n _ _) ov1 hnl hp (λk e=>qh.ext hp e)) ?_;rintro v2 g2 h2;refine Rs (A2 t0 t1) ?_;refine WF.res T.c117 (r117 T h2 ov1 Om (λx=>x.1.name) (λx hx k _=>bF.of (a:=[]) (c:=[]) T.c120 (r120 T x (ov1 x hx)))) ?_;rintro v3 g3 h3;refine Rs (A2 t0 t1) ?_;refine⟨_,rfl,?_⟩;have:=h3.ba;rw[<-hV,<-pr,aaA (g:=iE.name)];exact this
end
structure AY(N:Nat)(h:ah)(out:AV)(x:EV):Prop where
 n:Fr N h x.sn 1 (x.ev.names.map ao)
 v:Fr N h x.sv 1 (x.ev.cB.map aK)
 dn:∀j,sB x.sn=some j->sB out≠some j
 dv:∀j,sB x.sv=some j->sB out≠some j
def AY.ok{N h out x}(o:AY N h out x):bw h x:=⟨o.n.ba,o.v.ba⟩
theorem AY.app{N h out x}(o:AY N h out x)(g:ah):AY N (h++g) out x:=⟨o.n.app g,o.v.app g,o.dn,o.dv⟩
def pJ(n:By)(e:ed):Bool:=
 match Es (kH e)with
 |none=>false
 |some 3=>true
 |some i=>decide (aM e i=n)
def La(l:List ed):List ed:=l.mapIdx λi e=>{e with num:=(i:Int)+1}
def mX(l:List ed)(n:By):List ed×Int:=
 if aZ [(aP l).2.2,bZ (decide ((aP l).2.2=0) && !dC (aP l).1.now 0 n) 10]≠0 then([],aZ [(aP l).2.2,bZ (decide ((aP l).2.2=0) && !dC (aP l).1.now 0 n) 10])
 else(La ((aP l).1.eV.filter (pJ n)),0)
section
variable {P:Program}(T:fp P) {h:ah}
include T
def r87{L s}(hs:dZ h L s)(hl:L.length<=2^30)(hle:∀x∈L,x.ev.names.length<=2^30/\x.ev.cB.length<=2^30):
  ay P 87 [s,.func (.func 91) [] []] h (λv h'=>∃L':List EV,L'.map EV.ev=L.map EV.ev/\Fr h.length h' v 5 (L'.map EV.row)/\∀x∈L',AY h.length h' v x):=by
 refine .eP 22 T.mix T.c87 ?_;intro ts hlen t0 t1;unfold fn87;refine Rs (A3 t0 t1 hs.sl.aJ) ?_;refine WL.inv T.mix (λn ts h'=>∃(k:Nat) (out:AV) (L':List EV) (g:ah),k<=L.length/\n=L.length-k/\h' =h++g/\L'.map EV.ev=(L.take k).map EV.ev/\Fr h.length (h++g) out 5 (L'.map EV.row)/\(∀x∈L',AY h.length (h++g) out x)/\
   ts.length=22/\slot ts 1=.func (.func 91) [] []/\slot ts 5=out/\slot ts 8=s/\slot ts 9=.i L.length/\slot ts 10=.i k) L.length
  ⟨0,.af,[],[],Om,rfl,Si,rfl,.nil,(λx hx=>by cases hx),Sn,(Sq t1),Sw,(Sq t0),Sw,gM⟩ ?_
 rintro _ ts _ ⟨k,out,L',g,hk,rfl,rfl,hm,hfr,hin,hlen,t1,t5,t8,t9,t10⟩;have Wj:L'.length=k:=by have:=Zz List.length hm;simp at this;omega
 by_cases hlt:k<L.length
 ·have e3:=ee hlt;have e5:=wrapN (n:=k) Om;have ix:=hs.sl.dG (kk:=.i64) hlt;have ld:∀{k'},Ext (h++g) k'->aq (some 5) (cN s 5 k) (λb=>k'[b]?)=some (.agg (EV.row L[k]),.au):=λ{k'} e=>hs.sl.jD hlt (Ext.trans Xx e)
  obtain⟨x,hx⟩:∃x,x=L[k]:=⟨_,rfl⟩;have Ty:x∈L:=by rw[hx];exact Za _
  have R4:L.take (k+1)=L.take k++[x]:=by rw[hx,ZF,YU hlt];rfl
  rw[<-hx]at ld;have ox:=hs.all x Ty;have st:∀{b':Nat}{a0 a1 a2 a3 a4:AV},km 5 0 (.agg x.row) b' (.b [a0,a1,a2,a3,a4])=some (az,.set b' (.b x.row)):=λ{_ _ _ _ _ _}=>ox.st
  refine Rs (lQ t1 t5 t8 t9 t10 e3 ix @ld @st @cp) ?_;refine WF.res T.c91 (r91 T x (ox.ext Xx) ⟨by have:=(hle x Ty).1;omega,by have:=(hle x Ty).2;omega⟩) ?_;rintro _ g1 ⟨x',RN,rfl,fn,fv⟩;have Xn:bw (h++g++[ak.b x.row]++g1) x':=⟨by rw[RN];exact fn.ba,by rw[RN];exact fv.ba⟩;have bs:=@bw.GK _ _ Xn;refine Rs (A6 t1 t5 t8 t9 t10 @bs) ?_;refine WR.fG (h0:=h) (cs:=L'.map EV.row) (ys:=[x'.row]) (((hfr.app _).app _).app _) (Fr.push (N:=0) (Zw _) [x'.row] (by intro y hy;rw[Zm]at hy;rw[hy];rfl)).ba De Si (by simp only[YY,YV,YX];omega) Xx ?_;intro g' RT hff hkp;have hrow:L'.map EV.row++[x'.row]=(L'++[x']).map EV.row:=by rw[Y5];rfl
  rw[hrow]at hff;rw[hrow];obtain⟨sn,Sx⟩:∃sn,sn=AV.slice (h++g++[ak.b x.row]++g1++[ak.cells x'.row true true]).length 0 ((L'++[x']).map EV.row).length 5:=⟨_,rfl⟩;rw[<-Sx]at hff ⊢;have Um:∀i,sB sn=some i->(h++g++[ak.b x.row]++g1).length+1=i:=λi hi=>by rw[Sx]at hi;cases hi;simp;omega
  have hout:∀b,sB out=some b->b<(h++g).length:=λb hb=>(hfr.bN hb).2
  have kp:∀i,i<(h++g++[ak.b x.row]++g1).length->sB out≠some i->(h++g')[i]? =(h++g++[ak.b x.row]++g1)[i]? :=λi hi hne=>by
   rw[hkp i (by rw[YP];omega) (λb0 o n e he zz=>hne (by rw[he,zz];rfl)),YT hi]
  refine Rs (A6 t1 t5 t8 t9 t10 e5) ?_;refine⟨_,Om,k+1,sn,L'++[x'],g',Om,rfl,rfl,?_,hff,λy hy=>?_,rfl,rfl⟩
  ·rw[Y5,hm,R4,Y5];simp[RN]
  ·rcases YZ.1 hy with hy|hy
   ·have oy:=hin y hy;have ln:=λj (hj:sB y.sn=some j)=>(oy.n.bN hj).2
    have lv:=λj (hj:sB y.sv=some j)=>(oy.v.bN hj).2
    refine⟨((oy.n.app [ak.b x.row]).app g1).aD λj hj=>kp j (by have:=ln j hj;simp only[YP]at this ⊢;omega) (oy.dn j hj),((oy.v.app [ak.b x.row]).app g1).aD λj hj=>kp j (by have:=lv j hj;simp only[YP]at this ⊢;omega) (oy.dv j hj),λj hj e=>?_,λj hj e=>?_⟩
    ·have h1:=ln j hj;have h2:=Um j e;simp only[YP]at h1 h2;omega
    ·have h1:=lv j hj;have h2:=Um j e;simp only[YP]at h1 h2;omega
   ·rw[Zm]at hy;subst hy;have ln:=λj (hj:sB y.sn=some j)=>fn.bN hj
    have lv:=λj (hj:sB y.sv=some j)=>fv.bN hj
    have en:(h++g++[ak.b x.row]).length=(h++g).length+1:=by rw[YP];rfl
    rw[<-RN]at fn fv;exact z31
 ·have e3:=fo hlt;have e4:k=L.length:=Om
  refine Rs (A6 t1 t5 t8 t9 t10 e3) ?_;rw[e4,ZA]at hm;exact⟨L',hm,hfr,hin⟩
def r240{x}(ox:bw h x){b i:Nat}(hb:h[b]? =some (.b [.i (i:Int)]))(hi:i<x.ev.names.length)(n:By):ay P 240 [.agg x.row,.str n,.ptr b 0] h (λv _=>v=.bool (decide (aM x.ev i=n))):=by
 refine .nM 13 T.mix T.c240 ?_;intro ts hlen t0 t1 t2;unfold fn240 gA;have RF:=@bw.box _ _ ox;have lb:∀{k:ah}{n':Option Nat}{a:Nat},Ext h k->aq n' (.ptr b a) (λz=>k[z]?)=dE n' a (.b [.i (i:Int)]):=λe=>aA (e.some hb)
 have ix:=ox.n.dG (kk:=.i64) hi;have ev:aM x.ev i=x.ev.names[i]:=by rw[aM,ZH,YU hi];rfl
 have ld:∀{k':ah},Ext h k'->aq none (cN x.sn 1 i) (λb=>k'[b]?)=some (.str (aM x.ev i),.au):=λ{k'} e=>by
  rw[ev];exact ox.n.kY hi rfl e
 exact Rs (A8 t0 t1 t2 @RF @lb @aI ix @ld) Tv
def r153{x}(ox:bw h x)(n:By):ay P 153 [.agg x.row,.str n] h (λv _=>v=.bool true):=by
 refine .eP 5 T.mix T.c153 ?_;intro ts hlen t0 t1;unfold fn153 gA;have RF:=@bw.box _ _ ox;exact Rs (A3 t0 t1 @RF) Tv
def r89{x d}(ox:bw h x)(wx:ko x.ev d){b n}(hb:h[b]? =some (.b [.str n])):ay P 89 [.agg x.row,.ptr b 0] h (λv _=>v=.bool (pJ n x.ev)):=by
 refine .eP 18 T.mix T.c89 ?_;intro ts hlen t0 t1;unfold fn89 gA;have RF:=@bw.box _ _ ox;have lb:∀{k:ah}{n':Option Nat}{a:Nat},Ext h k->aq n' (.ptr b a) (λz=>k[z]?)=dE n' a (.b [.str n]):=λe=>aA (e.some hb)
 refine Rs (A3 t0 t1 @RF) ?_;refine WF.res T.c90 (r90 T) ?_;rintro _ g2 ⟨vf,rfl,hk⟩;have lk:∀{z:AV},gX .s z false (.map (h++[ak.b x.row]).length) (.str x.ev.kind) (λb=>(h++[ak.b x.row]++g2)[b]?)=lH z false ((gT x.ev.kind).map vf):=hk.look;rw[wx.kd]at lk;have Sl:∀{z:AV},_=some (vf d,iT.au):=@lk;obtain⟨rs,a,hv,hr,ha,hab⟩:=(hk.k d).ex;rw[hv]at Sl;unfold pJ;rw[wx.kH];unfold yt at hab;have hnl:=wx.nl;cases RM:Es d with
 |none=>
  rw[RM]at hab;have hab:a=.nilFunc:=hab;subst hab;have en:um true (pB .qj .nilFunc .nilFunc)=some (.bool false):=rfl;exact Rs (A6 t0 t1 @bj @bS @Sl @en) Tv
 |some i=>
  rw[RM]at hab;by_cases h3:i=3
  ·subst h3;have hab:a=.func (.func 153) [] []:=hab;subst hab;have en:∀{A C:List AV},um true (pB .qj (.func (.func 153) A C) .nilFunc)=some (.bool true):=rfl;refine Rs (A8 t0 t1 @bj @bS @Sl @en @cp @lb) ?_;refine WF.ce T.c153 (r153 T (ox.ext Xx) n) λg3=>?_
   exact Rs t0 Tv
  ·obtain⟨b3,rfl,Ue⟩:∃b',a=.func (.func 240) [] [.ptr b' 0]/\(h++[ak.b x.row]++g2)[b']? =some (.b [.i (i:Int)]):=by
    split at hab
    ·rename_i hz;cases hz
    ·rename_i hz;cases hz;exact absurd rfl h3
    ·rename_i hz;cases hz;exact hab
   have hil:i<x.ev.names.length:=by
    rw[hnl];cases d<;>simp[Es]at RM<;>first|(subst RM;decide)|exact absurd RM.symm h3
   have en:∀{A C:List AV},um true (pB .qj (.func (.func 240) A C) .nilFunc)=some (.bool true):=rfl;refine Rs (A8 t0 t1 @bj @bS @Sl @en @cp @lb) ?_;refine WF.ce T.c240 (a:=[]) (c:=[.ptr b3 0]) (r240 T (ox.ext Xx) (Ext.some Xx Ue) hil n) λg3=>?_
   exact Rs t0 Tv
def r26{L s}(o:dZ h L s)(sh:uO L)(gl:Gl h)(n:By):ay P 26 [s,.str n] h (λv k=>∃s' L',v=.dM [s',.i (mX (L.map EV.ev) n).2]/\dZ k L' s'/\L'.map EV.ev=(mX (L.map EV.ev) n).1):=by
 refine .eP 54 T.mix T.c26 ?_;intro ts hlen t0 t1;unfold fn26 gA;refine Rs (A2 t0 t1) ?_;refine WF.res T.c78 (r78 T (o.ext Xx) sh (gl.ext Xx)) ?_;intro v g hv;obtain⟨p,hvp⟩:∃p,v=.dM [p,.i (aP (L.map EV.ev)).2.1,.i (aP (L.map EV.ev)).2.2]:=by obtain⟨p,h1,_⟩:=hv;exact⟨p,h1⟩
 rw[hvp];by_cases he:(aP (L.map EV.ev)).2.2=0
 case neg=>
  have q:decide ((aP (L.map EV.ev)).2.2=0)=false:=YS he;refine Rs (A3 t0 t1 q) ?_;refine WF.ce T.c85 (r85 T _ _) λg1=>?_
  refine Rs (A2 t0 t1) ?_;refine WF.ce T.c74 (r74 T (cj [_,_]) Si) λg2=>?_
  have e1:aZ [(aP (L.map EV.ev)).2.2,bZ false 10]=(aP (L.map EV.ev)).2.2:=by rw[aZ,Y6 he]
  have q2:decide ((aP (L.map EV.ev)).2.2≠0)=true:=YW he;rw[e1];refine Rs (A3 t0 t1 q2) ?_;have e2:mX (L.map EV.ev) n=([],(aP (L.map EV.ev)).2.2):=by
   rw[mX,q,aaV,e1,Zb he]
  rw[e2];exact JL
 obtain⟨b,V,hvb,oV,hV,wV,VJ,hle,hr,hz,wn,hn,on,lo⟩:=yM T hv he;rw[hvp]at hvb;have hpb:p=.ptr b 0:=by injection hvb with h1;injection h1
 rw[hpb];have q:decide ((aP (L.map EV.ev)).2.2=0)=true:=YW he;refine Rs (A3 t0 t1 q) ?_;refine WF.ce T.c79 (r79 T (oV.rd.ext Xx) hr) λg1=>?_
 refine Rs (A3 t0 t1 @aF) ?_;refine WF.ce T.c86 (r86 T (on.ext Xx) wn.len (t:=0) De _) λg2=>?_
 refine Rs (A2 t0 t1) ?_;refine WF.ce T.c85 (r85 T _ _) λg3=>?_
 refine Rs (A2 t0 t1) ?_;refine WF.ce T.c74 (r74 T (cj [_,_]) Si) λg4=>?_
 rw[hn];rw[mX,q,aao];obtain⟨f,hf⟩:∃f,f=aZ [(aP (L.map EV.ev)).2.2,bZ (!dC (aP (L.map EV.ev)).1.now 0 n) 10]:=⟨_,rfl⟩;rw[<-hf];by_cases h0:f=0
 case neg=>
  have q:decide (f≠0)=true:=YW h0;rw[Zb h0];refine Rs (A3 t0 t1 q) ?_;exact JL
 have q2:decide (f≠0)=false:=YS (λz=>z h0);rw[Y6 (λz=>z h0)];obtain⟨Hs,YL⟩:∃Hs,Hs=h++[ak.b [AV.str n]]++g++g1++g2++g3++[ak.cells [AV.i (aP (L.map EV.ev)).2.2,.i (bZ (!dC (aP (L.map EV.ev)).1.now 0 n) 10)] true true]++g4:=⟨_,rfl⟩;have oH:zt Hs b V:=by rw[YL];exact oV.rd.ext Xx
 have mn:Hs[h.length]? =some (.b [.str n]):=by rw[YL];exact(show Ext (h++[ak.b [AV.str n]]) _ from Xx).some a8
 rw[<-YL];have hb:=oH.hb;have lb:=@eE _ _ _ hb;have hcl:V.eV.length<=1000:=by
  have e1:=wV.le;have e2:V.bU.eV.length=V.eV.length:=by simp[HV.bU]
  have e3:V.bU.c8.length=V.c8.length:=by simp[HV.bU]
  have e4:(L.map EV.ev).length<=1000:=hle;omega
 have wc:∀x∈V.eV,∃d,ko x.ev d:=λx hx=>wV.cn x.ev (Zo hx)
 have oone:∀x∈V.eV,x.sn.one=true/\x.sv.one=true:=λx hx=>⟨(oH.ac x hx).n.one,(oH.ac x hx).v.one⟩
 refine Rs (A4 t0 t1 q2 @lb) ?_;refine WF.res T.c88 (r88 T oH.ic oone Om (λx=>pJ n x.ev) (λx hx k e=>by
  obtain⟨d,wx⟩:=wc x hx;exact bF.of (a:=[]) T.c89 (r89 T ((oH.ac x hx).ext e) wx (e.some mn)))) ?_
 rintro s5 g5 h5;refine Rs (A2 t0 t1) ?_;obtain⟨F,hF⟩:∃F,F=V.eV.filter λx=>pJ n x.ev:=⟨_,rfl⟩
 rw[<-hF]at h5;have hFm:∀x∈F,x∈V.eV:=λx hx=>by rw[hF]at hx;exact(aaa.1 hx).1
 have hFl:F.length<=1000:=by have:F.length<=V.eV.length:=by(rw[hF];exact ZD _ _)
                             omega
 have oF:dZ (Hs++g5) F s5:=⟨h5.ba,λx hx=>(oH.ac x (hFm x hx)).ext Xx⟩;refine WF.res T.c87 (r87 T oF Om (λx hx=>by
  obtain⟨d,wx⟩:=wc x (hFm x hx);have h1:=wx.nl;have h2:=wx.vl;have h3:(bK d).length<=3/\cC d<=3:=by cases d<;>decide
  omega)) ?_
 rintro s6 g6 ⟨L6,XM,f6,i6⟩;obtain⟨Hb,hHb⟩:∃Hb,Hb=Hs++g5:=⟨_,rfl⟩;rw[<-hHb]at f6 i6 ⊢;have hl6:L6.length=F.length:=by have:=Zz List.length XM;simpa using this
 refine Rs (A3 t0 t1 f6.ba.aJ) ?_;refine WL.inv T.mix (λm ts h'=>∃(k:Nat) (g':ah) (L':List EV),k<=L6.length/\m=L6.length-k/\h' =Hb++g'/\L'.length=L6.length/\(∀i (h1:i<L'.length) (h2:i<L6.length),(L'[i]).ev=if i<k then { (L6[i]).ev with num:=(i:Int)+1} else(L6[i]).ev)/\Fr Hb.length (Hb++g') s6 5 (L'.map EV.row)/\(∀x∈L',AY Hb.length (Hb++g') s6 x)/\
   ts.length=54/\slot ts 10=s6/\slot ts 41=s6/\slot ts 42=.i L6.length/\slot ts 43=.i k) L6.length
  ⟨0,g6,L6,Om,rfl,rfl,rfl,λi _ _=>by rw[Y6 Om],f6,i6,Sn,Sw,Sw,Sw,gM⟩ ?_
 clear t0 t1 hlen lb;clear ts;rintro _ ts _ ⟨k,g',L',hk,rfl,rfl,hlL,hev,hfr,hin,hlen,t10,t41,t42,t43⟩;by_cases hlt:k<L6.length
 ·have e3:=ee hlt;have e5:=wrapN (n:=k) Om;have Sk:k<L'.length:=Om
  have ix:=hfr.ba.dG (kk:=.i64) Sk;refine Rs (A7 t10 t41 t42 t43 e3 e5 ix) ?_;obtain⟨x,hx⟩:∃x,x=L'[k]:=⟨_,rfl⟩;have SG:x∈L':=by rw[hx];exact Za _
  refine WR.vt (h0:=Hb) (x':={x with ev:={x.ev with num:=((k+1:Nat):Int) } }) hfr Sk De rfl (by rw[<-hx];rfl) ?_;intro g2 hlg hff hkp;have kp:∀j,sB s6≠some j->(Hb++g2)[j]? =(Hb++g')[j]? :=λj hj=>hkp j λb0 o n e he zz=>hj (by rw[he,zz];rfl)
  have Xp:∀y:EV,AY Hb.length (Hb++g') s6 y->AY Hb.length (Hb++g2) s6 y:=λy oy=>⟨oy.n.aD λj hj=>kp j (oy.dn j hj),oy.v.aD λj hj=>kp j (oy.dv j hj),oy.dn,oy.dv⟩
  refine Rs (A5 t10 t41 t42 t43 e5) ?_;refine⟨_,Om,k+1,g2,L'.set k {x with ev:={x.ev with num:=((k+1:Nat):Int) } },Om,rfl,rfl,by rw[ZI];exact hlL,λi h1 h2=>?_,hff,λy hy=>?_,rfl⟩
  ·by_cases TO:i=k
   ·subst TO;simp only[aaT];rw[Zb Om];have:=hev i Sk h2;rw[Y6 Om]at this;rw[hx,this];rfl
   ·simp only[abi (aam TO)];rw[hev i (by simpa using h1) h2];by_cases hil:i<k
    ·rw[Zb hil,Zb Om]
    ·rw[Y6 hil,Y6 Om]
  ·rcases aaE hy with hy|hy
   ·exact Xp y (hin y hy)
   ·rw[hy];have:=Xp x (hin x SG);exact⟨this.n,this.v,this.dn,this.dv⟩
 ·have e3:=fo hlt;have e4:k=L6.length:=Om
  refine Rs (A5 t10 t41 t42 t43 e3) ?_;refine⟨by rw[hHb,YL];exact Xx,s6,L',rfl,⟨hfr.ba,λx hx=>(hin x hx).ok⟩,?_⟩;have e6:(aP (L.map EV.ev)).1.eV.filter (pJ n)=L6.map EV.ev:=by
   rw[XM,hF,<-hV];show List.filter _ (V.eV.map EV.ev)=_;rw[aaM];rfl
  rw[e6,La];refine List.ext_getElem (by simp[hlL]) λi h1 h2=>?_
  have h1':i<L'.length:=by simpa using h1
  rw[Z6,hev i h1' Om,Zb Om,List.getElem_mapIdx,Z6]
end
end Go.Abs
