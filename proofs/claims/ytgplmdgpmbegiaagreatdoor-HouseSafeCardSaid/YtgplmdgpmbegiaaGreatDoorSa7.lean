/- A part of the proof that HouseSafe holds. No condition. -/
import Derived.Test.YtgplmdgpmbegiaaGreatDoorSa6
import Derived.Test.YtgplmdgpmbegiaaGreatDoorSa0
set_option maxHeartbeats 4000000
set_option linter.all false
open Nat (reduceAdd reduceMul reduceLeDiff reduceEqDiff)
namespace Go.Abs
theorem bo.row{h x}(o:bo h x):x.row.all AV.one=true:=by
 simp only[EV.row,Cf,Ce,Bl,Fq,o.n.one,o.v.one,Bool.and_self]
def bo.box{h x}(o:bo h x){N}:o8 (.agg x.row) N=some (.ptr N 0,.push (.b x.row)):=by
 have: (AV.agg x.row).cells=x.row:=rfl;simp only[o8,this,o.row,XR]
def mN{x:EV}:x.row[0]? =some (.i x.ev.num):=rfl
def bA{x:EV}:x.row[1]? =some (.str x.ev.kind):=rfl
def aO{x:EV}:x.row[2]? =some x.sn:=rfl
def aY{x:EV}:x.row[3]? =some x.sv:=rfl
def wZ{x:EV}:x.row[4]? =some (.str x.ev.text):=rfl
def cg{x:EV}{mu tl:Bool}:cp (some 5) 0 (.cells x.row mu tl)=some (.agg x.row,.az):=rfl
def lJ(d:Kd): (jr d).one=true:=by cases d<;>rfl
def k9(d:Kd): (nK d).one=true:=by cases d<;>rfl
def wX{l:List (By)}:aX (l.map fun s=>bX (!dU s) 8)=if l.any (fun s=>!dU s)then 8 else 0:=by
 induction l with
 | nil=>rfl
 | cons a l ih=>
  rw[Yr,aX,ih,ZT,bX];cases h:dU a<;>simp
def pN{l:List Int}:aX (l.map fun n=>bh n 0 999999999)=if l.any (fun n=>decide (bh n 0 999999999≠0))then 3 else 0:=by
 induction l with
 | nil=>rfl
 | cons a l ih=>
  rw[Yr,aX,ih,ZT];by_cases h:bh a 0 999999999=0
  ·simp[h]
  ·have h3:bh a 0 999999999=3:=by unfold bh at h ⊢;split<;>simp_all
   simp[h3]
def tu{n lo hi}(h:bh n lo hi≠0):bh n lo hi=3:=by unfold bh at h ⊢;split<;>simp_all
set_option maxRecDepth 10000
attribute [local irreducible] WP WC WE WB WR WF WL WG fV
section
variable {P:Program} (T:fA P) {h:ah}
include T
theorem r131(s:By):aA P 131 [.str s] h (fun v _=>v= .i (bX (!dU s) 8)):=by
 refine .of T.mix T.c131 ?_;unfold fn131;refine Wn ?_;refine WF.ce T.c132 (r132 T s) fun g1=>?_
 refine Wn ?_;refine WF.ce T.c85 (r85 T _ _) fun g2=>?_
 exact Wn Tv
theorem r133(n:Int):aA P 133 [.i n] h (fun v _=>v= .i (bh n 0 999999999)):=by
 refine .of T.mix T.c133 ?_;unfold fn133 yS;refine Wn ?_;refine WF.ce T.c94 (r94 T _ _ _) fun g1=>?_
 exact Wn Tv
theorem r67{x:EV}(o:bo h x)(hl:x.ev.names.length≤2^40∧x.ev.cC.length≤2^40):aA P 67 [.agg x.row] h (fun v _=>v= .i (gI x.ev)):=by
 refine .kE 53 T.mix T.c67 ?_;intro ts hlen t0;unfold fn67;have Qm:=@bo.box _ _ o;refine Rs (A3 t0 @Qm @mN) ?_;refine WF.ce T.c94 (r94 T _ _ _) fun g1=>?_
 by_cases h0:bh x.ev.num 1 1000=0
 case neg=>
  have e0:decide (bh x.ev.num 1 1000≠0)=true:=Xz h0;refine Rs (A2 t0 e0) ?_;rw[gI,XI h0];exact X6 (AV.int .i64) (tu h0)
 have e0:decide (bh x.ev.num 1 1000≠0)=false:=Xu (fun z=>z h0);refine Rs (A2 t0 e0) ?_;refine WF.res T.c90 (r90 T) ?_;rintro _ g2 ⟨vf,rfl,hk⟩;have lk:∀{z:AV},gV .s z true (.map (h++ [aq.b x.row]++g1).length) (.str x.ev.kind) (fun b=>(h++ [aq.b x.row]++g1++g2)[b]?)=k5 z true ((gF x.ev.kind).map vf):=hk.look;cases hd:gF x.ev.kind with
 | none=>
  rw[hd]at lk;have QY:∀{z:AV},_=some (AV.dJ [z,.bool false],ia.az):=@lk;refine Rs (A6 t0 @bA @bT @QY @hP @XY) ?_;rw[gI,XG (by simpa using h0),hd]
 | some d=>
  rw[hd]at lk;have QY:∀{z:AV},_=some (AV.dJ [vf d,.bool true],ia.az):=@lk;obtain⟨rs,a,hv,hr,ha,hab⟩:=(hk.k d).ex;rw[hv]at QY;have hlr:=hr.aP;have c1:=lJ d;have c2:=k9 d;have c3:=hr.one;refine Rs (zU t0 @bA @aO @aY @bT @QY @XW @c1 @c2 @c3 @ha @hlr o.n.aP o.v.aP) ?_;have esh:gI x.ev=if x.ev.names.length≠(bL d).length∨x.ev.cC.length≠cB d then 2 else aX [aX (x.ev.names.map fun s=>bX (!dU s) 8),aX (x.ev.cC.map fun n=>bh n 0 999999999),bX (decide (x.ev.text≠[])) 1]:=by
   rw[gI,XG (by simpa using h0),hd,wX,pN];simp only;split
   ·rfl
   cases x.ev.names.any (fun s=>!dU s)with
   | true=>rfl
   | false=>
    cases x.ev.cC.any (fun n=>decide (bh n 0 999999999≠0))with
    | true=>rfl
    | false=>by_cases ht:x.ev.text= []<;>simp[aX,bX,ht]
  rw[esh];by_cases h1:x.ev.names.length= (bL d).length∧x.ev.cC.length=cB d
  case neg=>
   have e1: (!(decide ((x.ev.names.length:Int)= ((bL d).length:Int)) && (decide ((x.ev.cC.length:Int)= (cB d:Int)) && true)))=true:=by
    by_cases q1:x.ev.names.length= (bL d).length
    ·have q2:¬x.ev.cC.length=cB d:=fun z=>h1 ⟨q1,z⟩
     have q3:¬ (x.ev.cC.length:Int)= (cB d:Int):=Om
     simp[q3]
    ·have q3:¬ (x.ev.names.length:Int)= ((bL d).length:Int):=Om
     simp[q3]
   rw[e1,XI Om];exact Rs t0 Tv
  have e1: (!(decide ((x.ev.names.length:Int)= ((bL d).length:Int)) && (decide ((x.ev.cC.length:Int)= (cB d:Int)) && true)))=false:=by
   rw[h1.1,h1.2];simp
  rw[e1,XG Om];refine Rs (A3 t0 @aO @aY) ?_;refine WF.res T.c130 (r130 T (o.n.ext Xx) hl.1 (fun s=>bX (!dU s) 8) (fun s _ k _=>bG.of (a:=[]) (c:=[]) T.c131 (r131 T s))) ?_;rintro s6 g6 hf6;refine Rs (A3 t0 @aO @aY) ?_;refine WF.res T.c92 (r92 T (o.v.ext Xx) hl.2 (fun n=>bh n 0 999999999) (fun n _ k _=>bG.of (a:=[]) (c:=[]) T.c133 (r133 T n))) ?_;rintro s7 g7 hf7;refine Rs (A3 t0 @aO @aY) ?_;refine WF.ce T.c74 (r74 T (hf6.a8.ext Xx) (by simp;omega)) fun g8=>?_
  refine Rs t0 ?_;refine WF.ce T.c74 (r74 T (hf7.a8.ext Xx) (by simp;omega)) fun g9=>?_
  refine Rs (A2 t0 @wZ) ?_;refine WF.ce T.c85 (r85 T _ _) fun g10=>?_
  refine Rs t0 ?_;refine WF.ce T.c74 (r74 T (b9 [_,_,_]) Si) fun g11=>?_
  refine Rs t0 ?_;exact⟨Xx,trivial⟩
end
def PM:List AV:=[.str dM,.str dM,.str dM,.str lK,.str lK,.str nO,.str nO,.str nO]
def Gl(h:ah):Prop:=∃mu tl,h[0]? =some (.cells PM mu tl)
def Gl.ext{h k}(o:Gl h)(e:Ext h k):Gl k:=by obtain⟨mu,tl,h1⟩:=o;exact⟨mu,tl,e.some h1⟩
structure Cx(h:ah)(V:RV)(x:EV)(d:Kd):Prop where
 o:aD h V
 w:fo V.ar
 e:bo h x
 we:kC x.ev d
 nk:rO V.ar x.ev d
def Cx.nm{h V x d}(c:Cx h V x d){i:Nat}(hi:i < (bL d).length):aZ 1 x.sn (.i (i:Int))=some (cV x.sn 1 i,.az)∧∀{k},Ext h k→ao none (cV x.sn 1 i) (fun b=>k[b]?)=some (.str (aN x.ev i),.az):=by
 have hi':i < x.ev.names.length:=by rw[c.we.nl];exact hi
 refine⟨c.e.n.dG hi',fun {k} e=>?_⟩;have:aN x.ev i=x.ev.names[i]:=by rw[aN,Yc,Xw hi'];rfl
 rw[this];exact c.e.n.kO hi' rfl e
theorem Cx.vl{h V x d}(c:Cx h V x d){i:Nat}(hi:i < cB d):aZ 1 x.sv (.i (i:Int))=some (cV x.sv 1 i,.az)∧(∀{k},Ext h k→ao none (cV x.sv 1 i) (fun b=>k[b]?)=some (.i (bI x.ev i),.az))∧0≤bI x.ev i∧bI x.ev i≤999999999:=by
 have hi':i < x.ev.cC.length:=by rw[c.we.vl];exact hi
 have:bI x.ev i=x.ev.cC[i]:=by rw[bI,Yc,Xw hi'];rfl
 refine⟨c.e.v.dG hi',fun {k} e=>?_,c.we.vr _ (p7 hi')⟩;rw[this];exact c.e.v.kO hi' rfl e
theorem Cx.ext{h k V x d}(c:Cx h V x d)(e:Ext h k):Cx k V x d:=⟨c.o.ext e,c.w,c.e.ext e,c.we,c.nk⟩
def dK{c e l}(he:e≠0):aX (bX c e::l)=if c=true then e else aX l:=by
 cases c<;>simp[aX,bX,he]
def tI{a b c l}:aX (bh a b c::l)=if bh a b c≠0 then 3 else aX l:=by
 by_cases h:bh a b c=0
 ·simp[aX,h]
 ·simp[aX,h,tu h]
section
variable {P:Program} (T:fA P) {h:ah}
include T
theorem r148{V x}(c:Cx h V x .line):aA P 148 [.agg V.row,.agg x.row] h (fun v _=>v= .i (bB V.ar x.ev .line)):=by
 refine .eF 17 T.mix T.c148 ?_;intro ts hlen t0 t1;unfold fn148;have Qm:=@aD.box _ _ c.o;have hex:=@bo.box _ _ c.e;have i1:aZ 1 x.sv (.i 1)=_:=(c.vl (i:=1) De).1;have d1:=@(c.vl (i:=1) De).2.1;refine Rs (A7 t0 t1 @Qm @hex @aY @i1 @d1) ?_;refine WF.ce T.c94 (r94 T _ _ _) fun g1=>?_
 refine Rs (A4 t0 t1 @fT c.o.i0.aP) ?_;refine WF.ce T.c85 (r85 T _ _) fun g2=>?_
 refine Rs (A2 t0 t1) ?_;refine WF.ce T.c74 (r74 T (b9 [_,_]) Si) fun g3=>?_
 refine Rs (A2 t0 t1) ?_;rw[tI,dK De,bB];congr 2;simp only[Yg,aX];congr 1;exact propext ⟨fun z=>(by have:V.ar.lines.length=V.lines.length:=rfl;omega),fun z=>(by have:V.ar.lines.length=V.lines.length:=rfl;omega)⟩
theorem r151{V x}(c:Cx h V x .tape):aA P 151 [.agg V.row,.agg x.row] h (fun v _=>v= .i (bB V.ar x.ev .tape)):=by
 refine .eF 23 T.mix T.c151 ?_;intro ts hlen t0 t1;unfold fn151;have Qm:=@aD.box _ _ c.o;have hex:=@bo.box _ _ c.e;have i0:aZ 1 x.sv (.i 0)=_:=(c.vl (i:=0) De).1;have d0:=@(c.vl (i:=0) De).2.1;have i1:aZ 1 x.sv (.i 1)=_:=(c.vl (i:=1) De).1;have d1:=@(c.vl (i:=1) De).2.1;have q0:=(c.vl (i:=0) De).2.2;have q1:=(c.vl (i:=1) De).2.2;have hw:IntKind.i64.wrap (bI x.ev 0+bI x.ev 1)=bI x.ev 0+bI x.ev 1:=bp Om Om;refine Rs (mY t0 t1 @Qm @hex @aY @i0 @d0 @i1 @d1 @hw) ?_;refine WF.ce T.c85 (r85 T _ _) fun g1=>?_
 refine Rs (A4 t0 t1 @kU c.o.i1.aP) ?_;refine WF.ce T.c85 (r85 T _ _) fun g2=>?_
 refine Rs (A2 t0 t1) ?_;refine WF.ce T.c74 (r74 T (b9 [_,_]) Si) fun g3=>?_
 refine Rs (A2 t0 t1) ?_;rw[dK De,dK De,bB];congr 1;simp only[Yg,aX];have e: ((16:Int)≤(V.aJ.length:Int))= (16≤V.ar.aJ.length):=propext ⟨fun z=>(by have:V.ar.aJ.length=V.aJ.length:=rfl;omega),fun z=>(by have:V.ar.aJ.length=V.aJ.length:=rfl;omega)⟩;simp only[e]
theorem r241{V x n d}(c:Cx h V x d)(hd:0 < cB d)(hn:n∈jA V.ar):aA P 241 [.agg V.row,.agg x.row,.str n] h (fun v _=>v= .i (bX (!jn V.ar (bI x.ev 0) n) 30)):=by
 refine .nj 17 T.mix T.c241 ?_;intro ts hlen t0 t1 t2;unfold fn241;have Qm:=@aD.box _ _ c.o;have hex:=@bo.box _ _ c.e;have i0:aZ 1 x.sv (.i 0)=_:=(c.vl (i:=0) hd).1;have d0:=@(c.vl (i:=0) hd).2.1;refine Rs (A6 t0 t1 t2 @Qm @hex @aF) ?_;refine WF.ce T.c134 (r134 T (c.o.ext Xx) c.w.len hn) fun g1=>?_
 refine Rs (A6 t0 t1 t2 @aY @i0 @d0) ?_;refine WF.ce T.c135 (r135 T _ _) fun g2=>?_
 refine Rs (A3 t0 t1 t2) ?_;refine WF.ce T.c85 (r85 T _ _) fun g3=>?_
 refine Rs (A3 t0 t1 t2) ?_;rfl
theorem r155{V x}(c:Cx h V x .fY):aA P 155 [.agg V.row,.agg x.row] h (fun v _=>v= .i (bB V.ar x.ev .fY)):=by
 refine .eF 27 T.mix T.c155 ?_;intro ts hlen t0 t1;unfold fn155;have Qm:=@aD.box _ _ c.o;have hex:=@bo.box _ _ c.e;have i1:aZ 1 x.sn (.i 1)=_:=(c.nm (i:=1) De).1;have d1:=@(c.nm (i:=1) De).2;have i2:aZ 1 x.sn (.i 2)=_:=(c.nm (i:=2) De).1;have d2:=@(c.nm (i:=2) De).2;have k1:aN x.ev 1∈gB V.ar:=c.nk.kn 1 0 rfl;have k2:aN x.ev 2∈jA V.ar:=c.nk.kn 2 1 rfl;refine Rs (A8 t0 t1 @Qm @hex @aF @aO @i1 @d1) ?_;refine WF.ce T.c205 (r205 T (c.o.ext Xx) c.w.len k1) fun g1=>?_
 unfold cj;refine Rs (A2 t0 t1) ?_;refine WF.ce T.c85 (r85 T _ _) fun g2=>?_
 refine Rs (A7 t0 t1 @aF @cg @aO @i2 @d2) ?_;refine WF.ce T.c241 (r241 T (c.ext Xx) De k2) fun g3=>?_
 refine Rs (A4 t0 t1 @eJ c.o.i2.aP) ?_;refine WF.ce T.c85 (r85 T _ _) fun g4=>?_
 refine Rs (A2 t0 t1) ?_;refine WF.ce T.c74 (r74 T (b9 [_,_,_]) Si) fun g5=>?_
 refine Rs (A2 t0 t1) ?_;rw[dK De,dK De,dK De,bB];simp only[Yg,aX];have e: ((64:Int)≤(V.ak.length:Int))= (64≤V.ar.ak.length):=by
  have:V.ar.ak.length=V.ak.length:=by simp[RV.ar]
  exact F8
 simp only[e]
end
def Ar{R a b}(ha:a∈jA R)(hb:b∈jA R): (decide ((jm R a).name= (jm R b).name) && (decide ((jm R a).last= (jm R b).last) && true))=decide (a=b):=by
 have e1: (jm R a).name=a:=gO ha;have e2: (jm R b).name=b:=gO hb;by_cases h:a=b
 ·subst h;simp
 ·rw[e1,e2];simp[h]
section
variable {P:Program} (T:fA P) {h:ah}
include T
theorem r157{V x}(c:Cx h V x .copy):aA P 157 [.agg V.row,.agg x.row] h (fun v _=>v= .i (bB V.ar x.ev .copy)):=by
 refine .eF 35 T.mix T.c157 ?_;intro ts hlen t0 t1;unfold fn157;have Qm:=@aD.box _ _ c.o;have hex:=@bo.box _ _ c.e;have i0:aZ 1 x.sn (.i 0)=_:=(c.nm (i:=0) De).1;have d0:=@(c.nm (i:=0) De).2;have i1:aZ 1 x.sn (.i 1)=_:=(c.nm (i:=1) De).1;have d1:=@(c.nm (i:=1) De).2;have k0:aN x.ev 0∈jA V.ar:=c.nk.kn 0 1 rfl;have k1:aN x.ev 1∈jA V.ar:=c.nk.kn 1 1 rfl;refine Rs (A8 t0 t1 @Qm @hex @aF @aO @i0 @d0) ?_;refine WF.ce T.c134 (r134 T (c.o.ext Xx) c.w.len k0) fun g1=>?_
 refine Rs (A6 t0 t1 @aF @aO @i1 @d1) ?_;refine WF.ce T.c134 (r134 T (c.o.ext Xx) c.w.len k1) fun g2=>?_
 unfold dO;refine Rs (A2 t0 t1) ?_;refine WF.ce T.c85 (r85 T _ _) fun g3=>?_
 rw[Ar k0 k1];have n0: (jm V.ar (aN x.ev 0)).name=aN x.ev 0:=gO k0;have n1: (jm V.ar (aN x.ev 1)).name=aN x.ev 1:=gO k1;refine Rs (A6 t0 t1 @aF @cg @n0 @n1) ?_;refine WF.ce T.c241 (r241 T (c.ext Xx) De k0) fun g4=>?_
 refine Rs (A6 t0 t1 @aF @cg @n0 @n1) ?_;refine WF.ce T.c241 (r241 T (c.ext Xx) De k1) fun g5=>?_
 refine Rs (A2 t0 t1) ?_;refine WF.ce T.c74 (r74 T (b9 [_,_,_]) Si) fun g6=>?_
 refine Rs (A2 t0 t1) ?_;rw[dK De,dK De,dK De,bB];simp only[Yg,aX];exact⟨Xx,trivial⟩
theorem r161{V x}(o:aD h V)(e:bo h x):aA P 161 [.agg V.row,.agg x.row] h (fun v _=>v= .i (bX (decide (32≤V.ar.aE.length)) 5)):=by
 refine .eF 10 T.mix T.c161 ?_;intro ts hlen t0 t1;unfold fn161;have Qm:=@aD.box _ _ o;have hex:=@bo.box _ _ e;refine Rs (A6 t0 t1 @Qm @hex @fE o.i3.aP) ?_;refine WF.ce T.c85 (r85 T _ _) fun g1=>?_
 refine Rs (A2 t0 t1) ?_;have e:decide ((32:Int)≤(V.aE.length:Int))=decide (32≤V.ar.aE.length):=by
  have:V.ar.aE.length=V.aE.length:=by simp[RV.ar]
  rw[Zi];omega
 rw[e]
theorem r244{V x d}(c:Cx h V x d)(hd:0 < cB d){y}(hm:y∈V.ak){b b'}(hb:h[b]? =some (.b V.row))(hb':h[b']? =some (.b x.row)):
  aA P 244 [.agg (bg y),.ptr b 0,.ptr b' 0] h (fun v _=>v= .bool (!eI V.ar y.1 (bI x.ev 0))):=by
 refine .nj 13 T.mix T.c244 ?_;intro ts hlen t0 t1 t2;unfold fn244;have oy:=(c.o.e2 y hm).one;have lb:∀{k:ah} {n:Option Nat} {a:Nat},Ext h k→ao n (.ptr b a) (fun z=>k[z]?)=cp n a (.b V.row):=fun e=>an (e.some hb)
 have lc:∀{k:ah} {n:Option Nat} {a:Nat},Ext h k→ao n (.ptr b' a) (fun z=>k[z]?)=cp n a (.b x.row):=fun e=>an (e.some hb')
 have i0:aZ 1 x.sv (.i 0)=_:=(c.vl (i:=0) hd).1;have d0:=@(c.vl (i:=0) hd).2.1;have hsf:=fun(k:ah) (e:Ext h k)=>r76 T (c.o.ext e) c.w.len ((c.o.e2 y hm).ext e) (c.w.vS.sh y hm).2 (c.w.vS.sh y hm).1 (bI x.ev 0)
 unfold bg at t0 hsf;refine Rs (mY t0 t1 t2 @oy @lb @lc @aF @aY @i0 @d0) ?_;refine WF.ce T.c76 (hsf _ Xx) fun g1=>?_
 exact Fa
theorem r159{V x}(c:Cx h V x .accept):aA P 159 [.agg V.row,.agg x.row] h (fun v _=>v= .i (bB V.ar x.ev .accept)):=by
 refine .eF 36 T.mix T.c159 ?_;intro ts hlen t0 t1;unfold fn159;have Qm:=@aD.box _ _ c.o;have hex:=@bo.box _ _ c.e;have i0:aZ 1 x.sn (.i 0)=_:=(c.nm (i:=0) De).1;have d0:=@(c.nm (i:=0) De).2;have k0:aN x.ev 0∈gB V.ar:=c.nk.kn 0 0 rfl;refine Rs (A8 t0 t1 @Qm @hex @aF @aO @i0 @d0) ?_;refine WF.ce T.c205 (r205 T (c.o.ext Xx) c.w.len k0) fun g1=>?_
 unfold cj;refine Rs (A6 t0 t1 @aF @aO @i0 @d0) ?_;refine WF.res T.c206 (r206 T (c.o.ext Xx) c.w.len _) ?_;rintro s2 g2 QV;refine Rs (A2 t0 t1) ?_;have hin:∀y∈V.ak.filter (fun y=>decide (y.1.line=aN x.ev 0)),y∈V.ak:=fun y hy=>(YI.1 hy).1
 have QT: (V.ak.filter (fun y=>decide (y.1.line=aN x.ev 0))).length≤V.ak.length:=Ya _ _;have Sz:=c.w.len.l2;refine WF.res T.c243 (r243 T (QV.ext Xx) Om (fun y=>!eI V.ar y.1 (bI x.ev 0)) (fun y hy k e=>bG.of (a:=[]) (c:=[.ptr h.length 0,.ptr (h++ [aq.b V.row]).length 0]) T.c244 (r244 T (c.ext (Ext.trans Xx e)) De (hin y hy) (e.some ?_) (e.some ?_)))) ?_
 ·exact tN
 ·exact rM
 rintro _ g3 rfl;refine Rs (A2 t0 t1) ?_;refine WF.ce T.c85 (r85 T _ _) fun g4=>?_
 have hl2:=QV.aP;refine Rs (A3 t0 t1 @hl2) ?_;refine WF.ce T.c85 (r85 T _ _) fun g5=>?_
 refine Rs (A2 t0 t1) ?_;refine WF.ce T.c85 (r85 T _ _) fun g6=>?_
 refine Rs (A2 t0 t1) ?_;refine WF.ce T.c74 (r74 T (b9 [_,_,_]) Si) fun g7=>?_
 refine Rs (A2 t0 t1) ?_;rw[dK De,dK De,dK De,bB];have e1: (zd V.ar (aN x.ev 0))= (V.ak.filter (fun y=>decide (y.1.line=aN x.ev 0))).map Prod.fst:=by
  show List.filter _ (List.map Prod.fst V.ak)=_;rw[ZA];rfl
 rw[e1,XB,List.any_map];simp only[Yg,aX];refine⟨Xx,?_⟩;rfl
theorem r163{V x}(c:Cx h V x .fL)(gl:Gl h):aA P 163 [.agg V.row,.agg x.row] h (fun v _=>v= .i (bB V.ar x.ev .fL)):=by
 refine .eF 35 T.mix T.c163 ?_;intro ts hlen t0 t1;unfold fn163;have Qm:=@aD.box _ _ c.o;have hex:=@bo.box _ _ c.e;have i1:aZ 1 x.sn (.i 1)=_:=(c.nm (i:=1) De).1;have d1:=@(c.nm (i:=1) De).2;have j1:aZ 1 x.sv (.i 1)=_:=(c.vl (i:=1) De).1;have f1:=@(c.vl (i:=1) De).2.1;have k1:aN x.ev 1∈gM V.ar:=c.nk.kn 1 3 rfl;obtain⟨gmu,gtl,hg0⟩:=gl;rw[bB];by_cases hn:1≤bI x.ev 1∧bI x.ev 1≤4
 case neg=>
  have hr:bh (bI x.ev 1) 1 4≠0:=by unfold bh;rw[XI Om];decide
  rw[XI hr];by_cases ha:bI x.ev 1 < 1
  ·have q1:decide (bI x.ev 1 < 1)=true:=Xz ha;exact Rs (A8 t0 t1 @Qm @hex @aY @j1 @f1 q1) Tv
  ·have q1:decide (bI x.ev 1 < 1)=false:=Xu ha;have q2:decide (4 < bI x.ev 1)=true:=Xz Om;exact Rs (A9 t0 t1 @Qm @hex @aY @j1 @f1 q1 q2) Tv
 have hr:¬bh (bI x.ev 1) 1 4≠0:=by unfold bh;rw[XG Om];decide
 rw[XG hr];have q1:decide (bI x.ev 1 < 1)=false:=Xu Om;have q2:decide (4 < bI x.ev 1)=false:=Xu Om;have hw:IntKind.i64.wrap (bI x.ev 1 - 1)=bI x.ev 1 - 1:=bp Om Om;have a1:mg 4 2 (.ptr 0 0) (.i (bI x.ev 1 - 1))=some (.ptr 0 ((bI x.ev 1 - 1).toNat * 2)):=by simp only[mg];rw[XI Om,Yk]
 have a2:mg 2 1 (.ptr 0 ((bI x.ev 1 - 1).toNat * 2)) (.i 0)=some (.ptr 0 ((bI x.ev 1 - 1).toNat * 2)):=by simp[mg]
 have lg:∀{k:ah},Ext h k→ao none (.ptr 0 ((bI x.ev 1 - 1).toNat * 2)) (fun b=>k[b]?)=some (.str (my (bI x.ev 1)),.az):=by
  intro k e;exact Pc
 refine Rs (Cw t0 t1 @Qm @hex @aO @aY @j1 @f1 q1 q2 @aF @i1 @d1) ?_;refine WF.res T.c245 (r245 T (c.o.ext Xx) c.w.len k1) ?_;rintro _ g1 ⟨y,hy,TV,rfl⟩;unfold aU;refine Rs (A6 t0 t1 @hw @a1 @a2 @lg) ?_;refine WF.ce T.c85 (r85 T _ _) fun g2=>?_
 refine Rs (A4 t0 t1 @aF @cg) ?_;refine WF.ce T.c161 (r161 T (c.o.ext Xx) (c.e.ext Xx)) fun g3=>?_
 refine Rs (A2 t0 t1) ?_;refine WF.ce T.c74 (r74 T (b9 [_,_]) Si) fun g4=>?_
 refine Rs (A2 t0 t1) ?_;rw[dK De,dK De,TV];simp only[Yg,aX]
theorem r165{V x}(c:Cx h V x .merge):aA P 165 [.agg V.row,.agg x.row] h (fun v _=>v= .i (bB V.ar x.ev .merge)):=by
 refine .eF 36 T.mix T.c165 ?_;intro ts hlen t0 t1;unfold fn165;have Qm:=@aD.box _ _ c.o;have hex:=@bo.box _ _ c.e;have i1:aZ 1 x.sn (.i 1)=_:=(c.nm (i:=1) De).1;have d1:=@(c.nm (i:=1) De).2;have i2:aZ 1 x.sn (.i 2)=_:=(c.nm (i:=2) De).1;have d2:=@(c.nm (i:=2) De).2;have k1:aN x.ev 1∈gM V.ar:=c.nk.kn 1 3 rfl;have k2:aN x.ev 2∈gM V.ar:=c.nk.kn 2 3 rfl;refine Rs (A9 t0 t1 @Qm @hex @aO @i1 @d1 @i2 @d2) ?_;refine WF.ce T.c85 (r85 T _ _) fun g1=>?_
 refine Rs (A6 t0 t1 @aF @aO @i1 @d1) ?_;refine WF.res T.c245 (r245 T (c.o.ext Xx) c.w.len k1) ?_;rintro _ g2 ⟨y,hy,TV,rfl⟩;unfold aU;refine Rs (A6 t0 t1 @aF @aO @i2 @d2) ?_;refine WF.res T.c245 (r245 T (c.o.ext Xx) c.w.len k2) ?_;rintro _ g3 ⟨z,hz,hz1,rfl⟩;unfold aU;refine Rs (A2 t0 t1) ?_;refine WF.ce T.c85 (r85 T _ _) fun g4=>?_
 refine Rs (A4 t0 t1 @aF @cg) ?_;refine WF.ce T.c161 (r161 T (c.o.ext Xx) (c.e.ext Xx)) fun g5=>?_
 refine Rs (A2 t0 t1) ?_;refine WF.ce T.c74 (r74 T (b9 [_,_,_]) Si) fun g6=>?_
 refine Rs (A2 t0 t1) ?_;rw[dK De,dK De,dK De,bB,TV,hz1];simp only[Yg,aX]
theorem r247(y:gQ):aA P 247 [.agg (cj y)] h (fun v _=>v= .bool (!y.acc)):=by
 refine .of T.mix T.c247 ?_;unfold fn247 cj;exact Wn Tv
theorem r167{V x}(c:Cx h V x .run):aA P 167 [.agg V.row,.agg x.row] h (fun v _=>v= .i (bB V.ar x.ev .run)):=by
 refine .eF 27 T.mix T.c167 ?_;intro ts hlen t0 t1;unfold fn167;have Qm:=@aD.box _ _ c.o;have hex:=@bo.box _ _ c.e;have i1:aZ 1 x.sn (.i 1)=_:=(c.nm (i:=1) De).1;have d1:=@(c.nm (i:=1) De).2;have j1:aZ 1 x.sv (.i 1)=_:=(c.vl (i:=1) De).1;have f1:=@(c.vl (i:=1) De).2.1;have hin:∀y∈V.aE,y.1.bu.length < 2^30:=fun y hy=>by have:=(c.w.md y.1 (XZ hy)).2.1;omega
 refine Rs (A8 t0 t1 @Qm @hex @aF @aO @i1 @d1) ?_;refine WF.res T.c122 (r122 T (c.o.ext Xx) c.w.len hin _) ?_;rintro s1 g1 R8;have hsl: (iG V.ar (aN x.ev 1)).length≤V.lines.length:=Ya _ _;have Sz:=c.w.len.l0;refine Rs (A2 t0 t1) ?_;refine WF.ce T.c246 (r246 T R8 Om (fun y=>!y.acc) (fun y hy k e=>bG.of (a:=[]) (c:=[]) T.c247 (r247 T y))) fun g2=>?_
 refine Rs (A2 t0 t1) ?_;refine WF.ce T.c85 (r85 T _ _) fun g3=>?_
 refine Rs (A5 t0 t1 @aY @j1 @f1) ?_;refine WF.ce T.c94 (r94 T _ _ _) fun g4=>?_
 refine Rs (A4 t0 t1 @fS c.o.i4.aP) ?_;refine WF.ce T.c85 (r85 T _ _) fun g5=>?_
 refine Rs (A2 t0 t1) ?_;refine WF.ce T.c74 (r74 T (b9 [_,_,_]) Si) fun g6=>?_
 refine Rs (A2 t0 t1) ?_;rw[dK De,tI,dK De,bB];simp only[Yg,aX];have e: ((16:Int)≤(V.aH.length:Int))= (16≤V.ar.aH.length):=by
  have:V.ar.aH.length=V.aH.length:=by simp[RV.ar]
  exact F8
 simp only[e]
end
theorem sI:∀{l m} {i},cU (l++m) i=cU l i++cU m (i+l.length)
 | [],m,i=>by simp[cU]
 | x::l,m,i=>by
  have e:i+1+l.length=i+ (x::l).length:=by simp;omega
  rw[YL,cU,cU,sI,e];split<;>simp
theorem jL:∀{l} {i},(cU l i).length≤l.length
 | [],i=>by simp[cU]
 | x::l,i=>by
  have:=jL (l:=l) (i:=i+1);rw[cU];split<;>simp<;>omega
section
variable {P:Program} (T:fA P) {h:ah}
include T
theorem r125{x}(hx:aK h x.2 1 (x.1.bw.map aL))(hl:x.1.bw.length < 2^30)(hs:∀s∈x.1.bw,-1≤s):aA P 125 [.agg (bO x)] h (fun v h'=>aK h' v 1 ((cU x.1.bw 0).map aL)):=by
 refine .kE 23 T.mix T.c125 ?_;intro ts hlen t0;unfold fn125;have ox:=hx.one;unfold bO at t0;refine Rs (A3 t0 @ox hx.aP) ?_;obtain⟨H0,Ut⟩:∃H0,H0=h++ [aq.b [AV.str x.1.name,.str x.1.mod,x.2]]:=⟨_,rfl⟩;have e0:Ext h H0:=by rw[Ut];exact Xx
 have lb:∀{k n a},Ext H0 k→ao n (.ptr h.length a) (fun z=>k[z]?)=cp n a (.b [AV.str x.1.name,.str x.1.mod,x.2]):=fun {_ _ _} e=>an (e.some (by rw[Ut];exact bf))
 rw[←Ut];refine WL.inv T.mix (fun n ts h'=>∃ (k:Nat) (out:AV),k≤x.1.bw.length∧n=x.1.bw.length - k∧Ext H0 h'∧Fr H0.length h' out 1 ((cU (x.1.bw.take k) 0).map aL)∧
   ts.length=23∧slot ts 1= .ptr h.length 0∧slot ts 3=out∧slot ts 7= .i x.1.bw.length∧slot ts 8= .i k) x.1.bw.length
  ⟨0,.af,Om,rfl,Ext.refl _,.nil,Sn,(Sq t0),(Sq t0),(Sq t0),iF⟩ ?_
 rintro _ ts _ ⟨k,out,hk',rfl,⟨g,rfl⟩,hfr,hlen,t1,t3,t7,t8⟩;by_cases hlt:k < x.1.bw.length
 ·have e3:=fk hlt;have ix:=hx.dG (kk:=.i64) hlt;have ld:∀{k':ah},Ext H0 k'→ao none (cV x.2 1 k) (fun b=>k'[b]?)=some (.i x.1.bw[k],.az):=fun {k'} e=>hx.kO hlt rfl (e0.trans e)
  have e5:IntKind.i64.wrap ((k:Int)+1)= ((k+1:Nat):Int):=wrapN Om;have QJ:cU (x.1.bw.take (k+1)) 0=cU (x.1.bw.take k) 0++ (if x.1.bw[k] < 0 then [(k:Int)]else []):=by
   exact Pb
  have hsk:=hs _ (XJ hlt);by_cases hn:x.1.bw[k]= -1
  ·have q:decide (x.1.bw[k]= -1)=true:=Xz hn;rw[XI Om]at QJ;refine Rs (A9 t1 t3 t7 t8 e3 @lb ix @ld q) ?_;have Sz:=jL (l:=x.1.bw.take k) (i:=0);refine WR.fw (h0:=H0) (cs:=(cU (x.1.bw.take k) 0).map aL) (ys:=[aL (k:Int)]) (hfr.app _) (Fr.push (N:=0) (X3 _) [aL (k:Int)] Si).a8 De Si (by simp only[XB,Yq,Xy,XA]at Sz ⊢;omega) Xx ?_;intro g' Qz hff hkp;have hrow: (cU (x.1.bw.take k) 0).map aL++ [aL (k:Int)]= (cU (x.1.bw.take (k+1)) 0).map aL:=by rw[QJ,XD];rfl
   rw[hrow]at hff;rw[hrow];refine Rs (A5 t1 t3 t7 t8 e5) ?_;exact F3
  ·have q:decide (x.1.bw[k]= -1)=false:=Xu hn;rw[XG Om,XU]at QJ;rw[←QJ]at hfr;refine Rs (mY t1 t3 t7 t8 e3 @lb ix @ld q e5) ?_;exact⟨_,Om,k+1,_,Om,rfl,hfr,rfl,rfl⟩
 ·have e3:=gq hlt;have e4:k=x.1.bw.length:=Om
  rw[e4,X8]at hfr;have:=hfr.a8;refine Rs (A5 t1 t3 t7 t8 e3) ?_;exact⟨e0.trans Xx,this⟩
theorem r249{V x d}(c:Cx h V x d)(hd:1 < cB d)(h0:0 < (bL d).length)(k0:aN x.ev 0∈iA V.ar):aA P 249 [.agg V.row,.agg x.row] h (fun v _=>v= .i (jE V.ar x.ev)):=by
 refine .eF 28 T.mix T.c249 ?_;intro ts hlen t0 t1;unfold fn249;have Qm:=@aD.box _ _ c.o;have hex:=@bo.box _ _ c.e;have i0:aZ 1 x.sn (.i 0)=_:=(c.nm (i:=0) h0).1;have d0:=@(c.nm (i:=0) h0).2;have j1:aZ 1 x.sv (.i 1)=_:=(c.vl (i:=1) hd).1;have f1:=@(c.vl (i:=1) hd).2.1;have q1:=(c.vl (i:=1) hd).2.2;refine Rs (A8 t0 t1 @Qm @hex @aF @aO @i0 @d0) ?_;refine WF.ce T.c251 (r251 T (c.o.ext Xx) c.w.len _) fun g1=>?_
 refine Rs (A2 t0 t1) ?_;refine WF.ce T.c85 (r85 T _ _) fun g2=>?_
 refine Rs (A9 t0 t1 @aY @j1 @f1 @aF @aO @i0 @d0) ?_;refine WF.res T.c124 (r124 T (c.o.ext Xx) c.w.len k0) ?_;rintro _ g3 ⟨y,hy,TV,rfl⟩;have RW:=(c.o.e4 y hy).aP;have Tg:=(c.w.jb y.1 (XZ hy)).2;have hw:IntKind.i64.wrap ((y.1.bw.length:Int) - 1)= (y.1.bw.length:Int) - 1:=bp Om Om;unfold bO;refine Rs (A4 t0 t1 @RW @hw) ?_;refine WF.ce T.c94 (r94 T _ _ _) fun g4=>?_
 refine Rs (A2 t0 t1) ?_;refine WF.ce T.c74 (r74 T (b9 [_,_]) Si) fun g5=>?_
 refine Rs (A2 t0 t1) ?_;rw[dK De,tI,jE,←TV];have e: (bh (bI x.ev 1) 0 ((y.1.bw.length:Int) - 1)≠0)= ((y.1.bw.length:Int)≤bI x.ev 1):=by
  unfold bh;refine propext ⟨fun z=>?_,fun z=>?_⟩
  ·split at z
   ·omega
   ·exact absurd rfl z
  ·rw[XI Om];decide
 simp only[e,aX]
theorem r169{V x}(c:Cx h V x .fK):aA P 169 [.agg V.row,.agg x.row] h (fun v _=>v= .i (bB V.ar x.ev .fK)):=by
 refine .eF 27 T.mix T.c169 ?_;intro ts hlen t0 t1;unfold fn169;have Qm:=@aD.box _ _ c.o;have hex:=@bo.box _ _ c.e;have i0:aZ 1 x.sn (.i 0)=_:=(c.nm (i:=0) De).1;have d0:=@(c.nm (i:=0) De).2;have j1:aZ 1 x.sv (.i 1)=_:=(c.vl (i:=1) De).1;have f1:=@(c.vl (i:=1) De).2.1;have q1:=(c.vl (i:=1) De).2.2;have k0:aN x.ev 0∈iA V.ar:=c.nk.kn 0 4 rfl;refine Rs (A6 t0 t1 @Qm @hex @aF @cg) ?_;refine WF.ce T.c249 (r249 T (c.ext Xx) De De k0) fun g1=>?_
 by_cases hb:jE V.ar x.ev=0
 case neg=>
  exact Jo
 have e1:decide (jE V.ar x.ev≠0)=false:=Xu (fun z=>z hb);refine Rs (A7 t0 t1 e1 @aF @aO @i0 @d0) ?_;refine WF.res T.c124 (r124 T (c.o.ext Xx) c.w.len k0) ?_;rintro _ g2 ⟨y,hy,TV,rfl⟩;have Tg:=(c.w.jb y.1 (XZ hy)).2;have hlt: (bI x.ev 1).toNat < y.1.bw.length:=by
  exact z157
 have Vr:bI x.ev 1= ((bI x.ev 1).toNat:Int):=Om
 have iy:aZ 1 y.2 (.i (bI x.ev 1))=some (cV y.2 1 (bI x.ev 1).toNat,.az):=by
  rw[Vr];exact(c.o.e4 y hy).dG hlt
 have hsm:fx V.ar x.ev=y.1.bw[(bI x.ev 1).toNat]:=by
  exact Ja
 have ly:∀{k:ah},Ext h k→ao none (cV y.2 1 (bI x.ev 1).toNat) (fun b=>k[b]?)=some (.i (fx V.ar x.ev),.az):=fun {k} e=>by
  rw[hsm];exact(c.o.e4 y hy).kO hlt rfl e
 have hsb:=Tg.2.2 _ (XJ hlt);rw[←hsm]at hsb;unfold bO;refine Rs (A7 t0 t1 @aY @j1 @f1 @iy @ly) ?_;refine WF.ce T.c85 (r85 T _ _) fun g3=>?_
 refine Rs (A2 t0 t1) ?_;rw[bB,XG (fun z=>z hb),bX];have e2: (decide (fx V.ar x.ev≠-1)=true)= (0≤fx V.ar x.ev):=by
  exact I6
 simp only[e2]
theorem r171{V x}(c:Cx h V x .fail):aA P 171 [.agg V.row,.agg x.row] h (fun v _=>v= .i (bB V.ar x.ev .fail)):=by
 refine .eF 27 T.mix T.c171 ?_;intro ts hlen t0 t1;unfold fn171;have Qm:=@aD.box _ _ c.o;have hex:=@bo.box _ _ c.e;have i0:aZ 1 x.sn (.i 0)=_:=(c.nm (i:=0) De).1;have d0:=@(c.nm (i:=0) De).2;have j1:aZ 1 x.sv (.i 1)=_:=(c.vl (i:=1) De).1;have f1:=@(c.vl (i:=1) De).2.1;have q1:=(c.vl (i:=1) De).2.2;have k0:aN x.ev 0∈iA V.ar:=c.nk.kn 0 4 rfl;refine Rs (A6 t0 t1 @Qm @hex @aF @cg) ?_;refine WF.ce T.c249 (r249 T (c.ext Xx) De De k0) fun g1=>?_
 by_cases hb:jE V.ar x.ev=0
 case neg=>
  exact Jo
 have e1:decide (jE V.ar x.ev≠0)=false:=Xu (fun z=>z hb);refine Rs (A7 t0 t1 e1 @aF @aO @i0 @d0) ?_;refine WF.res T.c124 (r124 T (c.o.ext Xx) c.w.len k0) ?_;rintro _ g2 ⟨y,hy,TV,rfl⟩;have Tg:=(c.w.jb y.1 (XZ hy)).2;have hlt: (bI x.ev 1).toNat < y.1.bw.length:=by
  exact z157
 have Vr:bI x.ev 1= ((bI x.ev 1).toNat:Int):=Om
 have iy:aZ 1 y.2 (.i (bI x.ev 1))=some (cV y.2 1 (bI x.ev 1).toNat,.az):=by
  rw[Vr];exact(c.o.e4 y hy).dG hlt
 have hsm:fx V.ar x.ev=y.1.bw[(bI x.ev 1).toNat]:=by
  exact Ja
 have ly:∀{k:ah},Ext h k→ao none (cV y.2 1 (bI x.ev 1).toNat) (fun b=>k[b]?)=some (.i (fx V.ar x.ev),.az):=fun {k} e=>by
  rw[hsm];exact(c.o.e4 y hy).kO hlt rfl e
 have hsb:=Tg.2.2 _ (XJ hlt);rw[←hsm]at hsb;unfold bO;refine Rs (A7 t0 t1 @aY @j1 @f1 @iy @ly) ?_;refine WF.ce T.c85 (r85 T _ _) fun g3=>?_
 refine Rs (A2 t0 t1) ?_;rw[bB,XG (fun z=>z hb),bX];have e2: (decide (fx V.ar x.ev= -1)=true)= (fx V.ar x.ev < 0):=by
  exact I6
 simp only[e2]
theorem r173{V x}(c:Cx h V x .fZ):aA P 173 [.agg V.row,.agg x.row] h (fun v _=>v= .i (bB V.ar x.ev .fZ)):=by
 refine .eF 31 T.mix T.c173 ?_;intro ts hlen t0 t1;unfold fn173;have Qm:=@aD.box _ _ c.o;have hex:=@bo.box _ _ c.e;have i1:aZ 1 x.sn (.i 1)=_:=(c.nm (i:=1) De).1;have d1:=@(c.nm (i:=1) De).2;have k1:aN x.ev 1∈iA V.ar:=c.nk.kn 1 4 rfl;refine Rs (A8 t0 t1 @Qm @hex @aF @aO @i1 @d1) ?_;refine WF.res T.c124 (r124 T (c.o.ext Xx) c.w.len k1) ?_;rintro _ g1 ⟨y,hy,TV,rfl⟩;have Tg:=(c.w.jb y.1 (XZ hy)).2;refine Rs (A2 t0 t1) ?_;refine WF.res T.c125 (r125 T (x:=y) ((c.o.e4 y hy).ext Xx) Om (fun s hs=>(Tg.2.2 s hs).1)) ?_;rintro s2 g2 QV;have hl2:=QV.aP;refine Rs (A6 t0 t1 @aF @aO @i1 @d1) ?_
 refine WF.ce T.c251 (r251 T (c.o.ext Xx) c.w.len _) fun g3=>?_
 refine Rs (A2 t0 t1) ?_;refine WF.ce T.c85 (r85 T _ _) fun g4=>?_
 refine Rs (A3 t0 t1 @hl2) ?_;refine WF.ce T.c85 (r85 T _ _) fun g5=>?_
 refine Rs (A4 t0 t1 @gR c.o.i5.aP) ?_;refine WF.ce T.c85 (r85 T _ _) fun g6=>?_
 refine Rs (A2 t0 t1) ?_;refine WF.ce T.c74 (r74 T (b9 [_,_,_]) Si) fun g7=>?_
 refine Rs (A2 t0 t1) ?_;rw[dK De,dK De,dK De,bB,←TV];have e1: (decide ((0:Int)< ((cU y.1.bw 0).length:Int))=true)= (cU y.1.bw 0≠[]):=by
  rw[Yg];refine propext ⟨fun z e=>by rw[e]at z;simp at z,fun z=>by have:=Zr.2 z;omega⟩
 have e2: (decide ((16:Int)≤(V.aQ.length:Int))=true)= (16≤V.ar.aQ.length):=by
  rw[Yg];have:V.ar.aQ.length=V.aQ.length:=rfl;exact F8
 simp only[e1,e2,aX];exact⟨Xx,trivial⟩
theorem r175{V x}(c:Cx h V x .rel):aA P 175 [.agg V.row,.agg x.row] h (fun v _=>v= .i (bB V.ar x.ev .rel)):=by
 refine .eF 13 T.mix T.c175 ?_;intro ts hlen t0 t1;unfold fn175;have Qm:=@aD.box _ _ c.o;have hex:=@bo.box _ _ c.e;have i0:aZ 1 x.sn (.i 0)=_:=(c.nm (i:=0) De).1;have d0:=@(c.nm (i:=0) De).2;have k0:aN x.ev 0∈kN V.ar:=c.nk.kn 0 5 rfl;refine Rs (A8 t0 t1 @Qm @hex @aF @aO @i0 @d0) ?_;refine WF.ce T.c218 (r218 T (c.o.ext Xx) c.w.len k0) fun g1=>?_
 unfold da;refine Rs (A2 t0 t1) ?_;refine WF.ce T.c85 (r85 T _ _) fun g2=>?_
 refine Rs (A2 t0 t1) ?_;rw[bB,bX]
theorem OB{V x d}(hd:d≠.e8)(c:Cx h V x d)(gl:Gl h):bG P (jr d) [.agg V.row,.agg x.row] h (fun v _=>v= .i (bB V.ar x.ev d)):=by
 cases d with
 | e8=>exact absurd rfl hd
 | line=>exact bG.of (a:=[]) (c:=[]) T.c148 (r148 T c)
 | tape=>exact bG.of (a:=[]) (c:=[]) T.c151 (r151 T c)
 | fY=>exact bG.of (a:=[]) (c:=[]) T.c155 (r155 T c)
 | copy=>exact bG.of (a:=[]) (c:=[]) T.c157 (r157 T c)
 | accept=>exact bG.of (a:=[]) (c:=[]) T.c159 (r159 T c)
 | source=>
  refine bG.of (a:=[]) (c:=[]) T.c161 ((r161 T c.o c.e).mono fun v g hv=>?_);rw[hv,bB,bX];simp only[Yg]
 | fL=>exact bG.of (a:=[]) (c:=[]) T.c163 (r163 T c gl)
 | merge=>exact bG.of (a:=[]) (c:=[]) T.c165 (r165 T c)
 | run=>exact bG.of (a:=[]) (c:=[]) T.c167 (r167 T c)
 | fK=>exact bG.of (a:=[]) (c:=[]) T.c169 (r169 T c)
 | fail=>exact bG.of (a:=[]) (c:=[]) T.c171 (r171 T c)
 | fZ=>exact bG.of (a:=[]) (c:=[]) T.c173 (r173 T c)
 | rel=>exact bG.of (a:=[]) (c:=[]) T.c175 (r175 T c)
end
def iK{l1 l2:List (Option Nat)}{a y:Option Nat}(h:y∈l1∨y∈l2):y∈l1++a::l2:=by rcases h with h| h<;>simp[h]
def uQ{l1 l2:List (Option Nat)}{a y:Option Nat}(h:y∈l1++a::l2):y∈l1∨y=a∨y∈l2:=by simpa using h
def kP.wI{l1 l2 a x}(h:kP (l1++a::l2))(hx:∀i,x=some i→a=some i∨((∀y∈l1,y≠some i)∧∀y∈l2,y≠some i)):kP (l1++x::l2):=by
 obtain⟨h1,h2,h3⟩:=YG.1 h;obtain⟨h4,h5⟩:=Yv.1 h2;refine YG.2 ⟨h1,Yv.2 ⟨fun y hy b hb=>?_,h5⟩,fun y hy z hz b hb=>?_⟩
 ·rcases hx b hb with ha| ⟨_,ha⟩
  ·exact h4 y hy b ha
  ·exact ha y hy
 ·rcases X9.1 hz with rfl| hz
  ·intro e;rcases hx b e with ha| ⟨ha,_⟩
   ·exact h3 y hy a Si b hb ha
   ·exact ha y hy hb
  ·exact h3 y hy z (Yb _ hz) b hb
def kP.ins{l1 l2 x}(h:kP (l1++l2))(hx:∀i,x=some i→(∀y∈l1,y≠some i)∧∀y∈l2,y≠some i):kP (l1++x::l2):=by
 obtain⟨h1,h2,h3⟩:=YG.1 h;refine YG.2 ⟨h1,Yv.2 ⟨fun y hy b hb=>(hx b hb).2 y hy,h2⟩,fun y hy z hz b hb=>?_⟩;rcases X9.1 hz with rfl| hz
 ·exact fun e=>(hx b e).1 y hy hb
 ·exact h3 y hy z hz b hb
structure bW(N:Nat)(h:ah)(b:Nat)(V:RV):Prop where
 o:cG N h V
 hN:N≤b
 m:h[b]? =some (.b V.row)
 ne:some b∉V.bl
def bW.lt{N h b V}(r:bW N h b V):b < h.length:=(Xr.1 r.m).1
theorem bW.app{N h b V}(r:bW N h b V)(g:ah):bW N (h++g) b V:=⟨r.o.app g,r.hN,(Ext.app g (Ext.refl h)).some r.m,r.ne⟩
section
variable {N b:Nat} {h k:ah} {V:RV}
def bW.LU(r:bW N h b V){s:AV}{L:List gQ}(hs:Fr N k s 3 (L.map cj))(hn:∀i,sB s=some i→sB V.s0=some i∨h.length≤i)(hm:k[b]? =some (.cells { V with lines:=L,s0:=s }.row true false))
  (hk:∀i,i < h.length→sB V.s0≠some i→i≠b→k[i]? =h[i]?):bW N k b { V with lines:=L,s0:=s }:=by
 have hd:V.bl= []++sB V.s0:: ([sB V.s1,sB V.s2,sB V.s3,sB V.s4,sB V.s5]++ (V.ak.map fun x=>sB x.2)++ (V.aE.map fun x=>sB x.2)++ (V.aH.map fun x=>sB x.2)):=rfl;have hin:∀i,some i∈V.bl→N≤i∧i < h.length:=fun i hi=>r.o.dN hi
 have Ra:=r.o.di;rw[hd]at Ra;have az:∀i,(some i∈[]∨some i∈([sB V.s1,sB V.s2,sB V.s3,sB V.s4,sB V.s5]++ (V.ak.map fun x=>sB x.2)++ (V.aE.map fun x=>sB x.2)++ (V.aH.map fun x=>sB x.2)))→k[i]? =h[i]? :=fun i hi=>by
  exact z7
 have own:cG N k { V with lines:=L,s0:=s }:=by
  refine⟨hs,(r.o.i1.aC fun i hi=>az i (.inr (by rw[←hi];simp))),(r.o.i2.aC fun i hi=>az i (.inr (by rw[←hi];simp))),(r.o.i3.aC fun i hi=>az i (.inr (by rw[←hi];simp))),(r.o.i4.aC fun i hi=>az i (.inr (by rw[←hi];simp))),(r.o.i5.aC fun i hi=>az i (.inr (by rw[←hi];simp))),(fun x hx=>(r.o.e2 x hx).aC fun i hi=>az i (.inr (by rw[←hi];simp only[XC,X2];exact .inl (.inl (.inr ⟨x,hx,rfl⟩))))),(fun x hx=>(r.o.e3 x hx).aC fun i hi=>az i (.inr (by rw[←hi];simp only[XC,X2];exact .inl (.inr ⟨x,hx,rfl⟩)))),(fun x hx=>(r.o.e4 x hx).aC fun i hi=>az i (.inr (by rw[←hi];simp only[XC,X2];exact .inr ⟨x,hx,rfl⟩))),?_⟩
  have hx:∀i,sB s=some i→sB V.s0=some i∨((∀y∈[],y≠some i)∧∀y∈([sB V.s1,sB V.s2,sB V.s3,sB V.s4,sB V.s5]++ (V.ak.map fun x=>sB x.2)++ (V.aE.map fun x=>sB x.2)++ (V.aH.map fun x=>sB x.2)),y≠some i):=fun i hi=>by
   exact z9
  exact Ra.wI hx
 refine⟨own,r.hN,hm,fun hb=>?_⟩;have hbl:=r.lt;have SA:=r.ne;rw[hd]at SA;have e:{ V with lines:=L,s0:=s }.bl= []++sB s:: ([sB V.s1,sB V.s2,sB V.s3,sB V.s4,sB V.s5]++ (V.ak.map fun x=>sB x.2)++ (V.aE.map fun x=>sB x.2)++ (V.aH.map fun x=>sB x.2)):=rfl;exact z28
def bW.PK(r:bW N h b V){s:AV}{L:List rA}(hs:Fr N k s 2 (L.map dO))(hn:∀i,sB s=some i→sB V.s1=some i∨h.length≤i)(hm:k[b]? =some (.cells { V with aJ:=L,s1:=s }.row true false))
  (hk:∀i,i < h.length→sB V.s1≠some i→i≠b→k[i]? =h[i]?):bW N k b { V with aJ:=L,s1:=s }:=by
 have hd:V.bl= [sB V.s0]++sB V.s1:: ([sB V.s2,sB V.s3,sB V.s4,sB V.s5]++ (V.ak.map fun x=>sB x.2)++ (V.aE.map fun x=>sB x.2)++ (V.aH.map fun x=>sB x.2)):=rfl;have hin:∀i,some i∈V.bl→N≤i∧i < h.length:=fun i hi=>r.o.dN hi
 have Ra:=r.o.di;rw[hd]at Ra;have az:∀i,(some i∈[sB V.s0]∨some i∈([sB V.s2,sB V.s3,sB V.s4,sB V.s5]++ (V.ak.map fun x=>sB x.2)++ (V.aE.map fun x=>sB x.2)++ (V.aH.map fun x=>sB x.2)))→k[i]? =h[i]? :=fun i hi=>by
  exact z7
 have own:cG N k { V with aJ:=L,s1:=s }:=by
  refine⟨(r.o.i0.aC fun i hi=>az i (.inl (by rw[←hi];simp))),hs,(r.o.i2.aC fun i hi=>az i (.inr (by rw[←hi];simp))),(r.o.i3.aC fun i hi=>az i (.inr (by rw[←hi];simp))),(r.o.i4.aC fun i hi=>az i (.inr (by rw[←hi];simp))),(r.o.i5.aC fun i hi=>az i (.inr (by rw[←hi];simp))),(fun x hx=>(r.o.e2 x hx).aC fun i hi=>az i (.inr (by rw[←hi];simp only[XC,X2];exact .inl (.inl (.inr ⟨x,hx,rfl⟩))))),(fun x hx=>(r.o.e3 x hx).aC fun i hi=>az i (.inr (by rw[←hi];simp only[XC,X2];exact .inl (.inr ⟨x,hx,rfl⟩)))),(fun x hx=>(r.o.e4 x hx).aC fun i hi=>az i (.inr (by rw[←hi];simp only[XC,X2];exact .inr ⟨x,hx,rfl⟩))),?_⟩
  have hx:∀i,sB s=some i→sB V.s1=some i∨((∀y∈[sB V.s0],y≠some i)∧∀y∈([sB V.s2,sB V.s3,sB V.s4,sB V.s5]++ (V.ak.map fun x=>sB x.2)++ (V.aE.map fun x=>sB x.2)++ (V.aH.map fun x=>sB x.2)),y≠some i):=fun i hi=>by
   exact z9
  exact Ra.wI hx
 refine⟨own,r.hN,hm,fun hb=>?_⟩;have hbl:=r.lt;have SA:=r.ne;rw[hd]at SA;have e:{ V with aJ:=L,s1:=s }.bl= [sB V.s0]++sB s:: ([sB V.s2,sB V.s3,sB V.s4,sB V.s5]++ (V.ak.map fun x=>sB x.2)++ (V.aE.map fun x=>sB x.2)++ (V.aH.map fun x=>sB x.2)):=rfl;exact z28
def bW.PJ(r:bW N h b V){s t:AV}{y:jh}(hs:Fr N k s 3 ((V.ak++ [(y,t)]).map bg))(ht:Fr N k t 1 (y.aJ.map au))(hn:∀i,sB s=some i→sB V.s2=some i∨h.length≤i)(hnt:∀i,sB t=some i→h.length≤i∧sB s≠some i)
  (hm:k[b]? =some (.cells { V with ak:=V.ak++ [(y,t)],s2:=s }.row true false))
  (hk:∀i,i < h.length→sB V.s2≠some i→i≠b→k[i]? =h[i]?):bW N k b { V with ak:=V.ak++ [(y,t)],s2:=s }:=by
 have hd:V.bl= [sB V.s0,sB V.s1]++sB V.s2:: ([sB V.s3,sB V.s4,sB V.s5]++ (V.ak.map fun x=>sB x.2)++ (V.aE.map fun x=>sB x.2)++ (V.aH.map fun x=>sB x.2)):=rfl;have hin:∀i,some i∈V.bl→N≤i∧i < h.length:=fun i hi=>r.o.dN hi
 have Ra:=r.o.di;rw[hd]at Ra;have az:∀i,(some i∈[sB V.s0,sB V.s1]∨some i∈([sB V.s3,sB V.s4,sB V.s5]++ (V.ak.map fun x=>sB x.2)++ (V.aE.map fun x=>sB x.2)++ (V.aH.map fun x=>sB x.2)))→k[i]? =h[i]? :=fun i hi=>by
  exact z7
 have own:cG N k { V with ak:=V.ak++ [(y,t)],s2:=s }:=by
  refine⟨(r.o.i0.aC fun i hi=>az i (.inl (by rw[←hi];simp))),(r.o.i1.aC fun i hi=>az i (.inl (by rw[←hi];simp))),hs,(r.o.i3.aC fun i hi=>az i (.inr (by rw[←hi];simp))),(r.o.i4.aC fun i hi=>az i (.inr (by rw[←hi];simp))),(r.o.i5.aC fun i hi=>az i (.inr (by rw[←hi];simp))),(fun x hx=>by
   rcases XC.1 hx with hx| hx
   ·exact(r.o.e2 x hx).aC fun i hi=>az i (.inr (by rw[←hi];simp only[XC,X2];exact .inl (.inl (.inr ⟨x,hx,rfl⟩))))
   ·rw[XT]at hx;subst hx;exact ht),(fun x hx=>(r.o.e3 x hx).aC fun i hi=>az i (.inr (by rw[←hi];simp only[XC,X2];exact .inl (.inr ⟨x,hx,rfl⟩)))),(fun x hx=>(r.o.e4 x hx).aC fun i hi=>az i (.inr (by rw[←hi];simp only[XC,X2];exact .inr ⟨x,hx,rfl⟩))),?_⟩
  have hx:∀i,sB s=some i→sB V.s2=some i∨((∀y∈[sB V.s0,sB V.s1],y≠some i)∧∀y∈([sB V.s3,sB V.s4,sB V.s5]++ (V.ak.map fun x=>sB x.2)++ (V.aE.map fun x=>sB x.2)++ (V.aH.map fun x=>sB x.2)),y≠some i):=fun i hi=>by
   exact z9
  have h1:=Ra.wI hx;have h2:kP (([sB V.s0,sB V.s1,sB s,sB V.s3,sB V.s4,sB V.s5]++ (V.ak.map fun x=>sB x.2))++ ((V.aE.map fun x=>sB x.2)++ (V.aH.map fun x=>sB x.2))):=by
   have: [sB V.s0,sB V.s1]++sB s:: ([sB V.s3,sB V.s4,sB V.s5]++ (V.ak.map fun x=>sB x.2)++ (V.aE.map fun x=>sB x.2)++ (V.aH.map fun x=>sB x.2))= ([sB V.s0,sB V.s1,sB s,sB V.s3,sB V.s4,sB V.s5]++ (V.ak.map fun x=>sB x.2))++ ((V.aE.map fun x=>sB x.2)++ (V.aH.map fun x=>sB x.2)):=Si
   rw[←this];exact h1
  have h3:=h2.ins (x:=sB t) (fun i hi=>by
   obtain⟨n1,n2⟩:=hnt i hi;refine⟨fun y hy e=>?_,fun y hy e=>?_⟩
   ·exact Mk
   ·subst e;have:=(hin i (by rw[hd];simp only[XC,X9,Yt,Y7]at hy ⊢<;>grind)).2;omega)
  have:{ V with ak:=V.ak++ [(y,t)],s2:=s }.bl= ([sB V.s0,sB V.s1,sB s,sB V.s3,sB V.s4,sB V.s5]++ (V.ak.map fun x=>sB x.2))++sB t:: ((V.aE.map fun x=>sB x.2)++ (V.aH.map fun x=>sB x.2)):=by
   simp[RV.bl]
  rw[this];exact h3
 exact Mp
def bW.PI(r:bW N h b V){s t:AV}{y:gP}(hs:Fr N k s 4 ((V.aE++ [(y,t)]).map aU))(ht:Fr N k t 1 (y.bu.map au))(hn:∀i,sB s=some i→sB V.s3=some i∨h.length≤i)(hnt:∀i,sB t=some i→h.length≤i∧sB s≠some i)
  (hm:k[b]? =some (.cells { V with aE:=V.aE++ [(y,t)],s3:=s }.row true false))
  (hk:∀i,i < h.length→sB V.s3≠some i→i≠b→k[i]? =h[i]?):bW N k b { V with aE:=V.aE++ [(y,t)],s3:=s }:=by
 have hd:V.bl= [sB V.s0,sB V.s1,sB V.s2]++sB V.s3:: ([sB V.s4,sB V.s5]++ (V.ak.map fun x=>sB x.2)++ (V.aE.map fun x=>sB x.2)++ (V.aH.map fun x=>sB x.2)):=rfl;have hin:∀i,some i∈V.bl→N≤i∧i < h.length:=fun i hi=>r.o.dN hi
 have Ra:=r.o.di;rw[hd]at Ra;have az:∀i,(some i∈[sB V.s0,sB V.s1,sB V.s2]∨some i∈([sB V.s4,sB V.s5]++ (V.ak.map fun x=>sB x.2)++ (V.aE.map fun x=>sB x.2)++ (V.aH.map fun x=>sB x.2)))→k[i]? =h[i]? :=fun i hi=>by
  exact z7
 have own:cG N k { V with aE:=V.aE++ [(y,t)],s3:=s }:=by
  refine⟨(r.o.i0.aC fun i hi=>az i (.inl (by rw[←hi];simp))),(r.o.i1.aC fun i hi=>az i (.inl (by rw[←hi];simp))),(r.o.i2.aC fun i hi=>az i (.inl (by rw[←hi];simp))),hs,(r.o.i4.aC fun i hi=>az i (.inr (by rw[←hi];simp))),(r.o.i5.aC fun i hi=>az i (.inr (by rw[←hi];simp))),(fun x hx=>(r.o.e2 x hx).aC fun i hi=>az i (.inr (by rw[←hi];simp only[XC,X2];exact .inl (.inl (.inr ⟨x,hx,rfl⟩))))),(fun x hx=>by
   rcases XC.1 hx with hx| hx
   ·exact(r.o.e3 x hx).aC fun i hi=>az i (.inr (by rw[←hi];simp only[XC,X2];exact .inl (.inr ⟨x,hx,rfl⟩)))
   ·rw[XT]at hx;subst hx;exact ht),(fun x hx=>(r.o.e4 x hx).aC fun i hi=>az i (.inr (by rw[←hi];simp only[XC,X2];exact .inr ⟨x,hx,rfl⟩))),?_⟩
  have hx:∀i,sB s=some i→sB V.s3=some i∨((∀y∈[sB V.s0,sB V.s1,sB V.s2],y≠some i)∧∀y∈([sB V.s4,sB V.s5]++ (V.ak.map fun x=>sB x.2)++ (V.aE.map fun x=>sB x.2)++ (V.aH.map fun x=>sB x.2)),y≠some i):=fun i hi=>by
   exact z9
  have h1:=Ra.wI hx;have h2:kP (([sB V.s0,sB V.s1,sB V.s2,sB s,sB V.s4,sB V.s5]++ (V.ak.map fun x=>sB x.2)++ (V.aE.map fun x=>sB x.2))++ ((V.aH.map fun x=>sB x.2))):=by
   have: [sB V.s0,sB V.s1,sB V.s2]++sB s:: ([sB V.s4,sB V.s5]++ (V.ak.map fun x=>sB x.2)++ (V.aE.map fun x=>sB x.2)++ (V.aH.map fun x=>sB x.2))= ([sB V.s0,sB V.s1,sB V.s2,sB s,sB V.s4,sB V.s5]++ (V.ak.map fun x=>sB x.2)++ (V.aE.map fun x=>sB x.2))++ ((V.aH.map fun x=>sB x.2)):=Si
   rw[←this];exact h1
  have h3:=h2.ins (x:=sB t) (fun i hi=>by
   obtain⟨n1,n2⟩:=hnt i hi;refine⟨fun y hy e=>?_,fun y hy e=>?_⟩
   ·exact Mk
   ·subst e;have:=(hin i (by rw[hd];simp only[XC,X9,Yt,Y7]at hy ⊢<;>grind)).2;omega)
  have:{ V with aE:=V.aE++ [(y,t)],s3:=s }.bl= ([sB V.s0,sB V.s1,sB V.s2,sB s,sB V.s4,sB V.s5]++ (V.ak.map fun x=>sB x.2)++ (V.aE.map fun x=>sB x.2))++sB t:: ((V.aH.map fun x=>sB x.2)):=by
   simp[RV.bl]
  rw[this];exact h3
 exact Mp
def bW.PH(r:bW N h b V){s t:AV}{y:kK}(hs:Fr N k s 3 ((V.aH++ [(y,t)]).map bO))(ht:Fr N k t 1 (y.bw.map aL))(hn:∀i,sB s=some i→sB V.s4=some i∨h.length≤i)(hnt:∀i,sB t=some i→h.length≤i∧sB s≠some i)
  (hm:k[b]? =some (.cells { V with aH:=V.aH++ [(y,t)],s4:=s }.row true false))
  (hk:∀i,i < h.length→sB V.s4≠some i→i≠b→k[i]? =h[i]?):bW N k b { V with aH:=V.aH++ [(y,t)],s4:=s }:=by
 have hd:V.bl= [sB V.s0,sB V.s1,sB V.s2,sB V.s3]++sB V.s4:: ([sB V.s5]++ (V.ak.map fun x=>sB x.2)++ (V.aE.map fun x=>sB x.2)++ (V.aH.map fun x=>sB x.2)):=rfl;have hin:∀i,some i∈V.bl→N≤i∧i < h.length:=fun i hi=>r.o.dN hi
 have Ra:=r.o.di;rw[hd]at Ra;have az:∀i,(some i∈[sB V.s0,sB V.s1,sB V.s2,sB V.s3]∨some i∈([sB V.s5]++ (V.ak.map fun x=>sB x.2)++ (V.aE.map fun x=>sB x.2)++ (V.aH.map fun x=>sB x.2)))→k[i]? =h[i]? :=fun i hi=>by
  exact z7
 have own:cG N k { V with aH:=V.aH++ [(y,t)],s4:=s }:=by
  refine⟨(r.o.i0.aC fun i hi=>az i (.inl (by rw[←hi];simp))),(r.o.i1.aC fun i hi=>az i (.inl (by rw[←hi];simp))),(r.o.i2.aC fun i hi=>az i (.inl (by rw[←hi];simp))),(r.o.i3.aC fun i hi=>az i (.inl (by rw[←hi];simp))),hs,(r.o.i5.aC fun i hi=>az i (.inr (by rw[←hi];simp))),(fun x hx=>(r.o.e2 x hx).aC fun i hi=>az i (.inr (by rw[←hi];simp only[XC,X2];exact .inl (.inl (.inr ⟨x,hx,rfl⟩))))),(fun x hx=>(r.o.e3 x hx).aC fun i hi=>az i (.inr (by rw[←hi];simp only[XC,X2];exact .inl (.inr ⟨x,hx,rfl⟩)))),(fun x hx=>by
   rcases XC.1 hx with hx| hx
   ·exact(r.o.e4 x hx).aC fun i hi=>az i (.inr (by rw[←hi];simp only[XC,X2];exact .inr ⟨x,hx,rfl⟩))
   ·rw[XT]at hx;subst hx;exact ht),?_⟩
  have hx:∀i,sB s=some i→sB V.s4=some i∨((∀y∈[sB V.s0,sB V.s1,sB V.s2,sB V.s3],y≠some i)∧∀y∈([sB V.s5]++ (V.ak.map fun x=>sB x.2)++ (V.aE.map fun x=>sB x.2)++ (V.aH.map fun x=>sB x.2)),y≠some i):=fun i hi=>by
   exact z9
  have h1:=Ra.wI hx;have h2:kP (([sB V.s0,sB V.s1,sB V.s2,sB V.s3,sB s,sB V.s5]++ (V.ak.map fun x=>sB x.2)++ (V.aE.map fun x=>sB x.2)++ (V.aH.map fun x=>sB x.2))++ ([])):=by
   have: [sB V.s0,sB V.s1,sB V.s2,sB V.s3]++sB s:: ([sB V.s5]++ (V.ak.map fun x=>sB x.2)++ (V.aE.map fun x=>sB x.2)++ (V.aH.map fun x=>sB x.2))= ([sB V.s0,sB V.s1,sB V.s2,sB V.s3,sB s,sB V.s5]++ (V.ak.map fun x=>sB x.2)++ (V.aE.map fun x=>sB x.2)++ (V.aH.map fun x=>sB x.2))++ ([]):=Si
   rw[←this];exact h1
  have h3:=h2.ins (x:=sB t) (fun i hi=>by
   obtain⟨n1,n2⟩:=hnt i hi;refine⟨fun y hy e=>?_,fun y hy e=>?_⟩
   ·exact Mk
   ·subst e;have:=(hin i (by rw[hd];simp only[XC,X9,Yt,Y7]at hy ⊢<;>grind)).2;omega)
  have:{ V with aH:=V.aH++ [(y,t)],s4:=s }.bl= ([sB V.s0,sB V.s1,sB V.s2,sB V.s3,sB s,sB V.s5]++ (V.ak.map fun x=>sB x.2)++ (V.aE.map fun x=>sB x.2)++ (V.aH.map fun x=>sB x.2))++sB t:: ([]):=by
   simp[RV.bl]
  rw[this];exact h3
 exact Mp
def bW.LS(r:bW N h b V){s:AV}{L:List p6}(hs:Fr N k s 4 (L.map da))(hn:∀i,sB s=some i→sB V.s5=some i∨h.length≤i)(hm:k[b]? =some (.cells { V with aQ:=L,s5:=s }.row true false))
  (hk:∀i,i < h.length→sB V.s5≠some i→i≠b→k[i]? =h[i]?):bW N k b { V with aQ:=L,s5:=s }:=by
 have hd:V.bl= [sB V.s0,sB V.s1,sB V.s2,sB V.s3,sB V.s4]++sB V.s5:: ([]++ (V.ak.map fun x=>sB x.2)++ (V.aE.map fun x=>sB x.2)++ (V.aH.map fun x=>sB x.2)):=rfl;have hin:∀i,some i∈V.bl→N≤i∧i < h.length:=fun i hi=>r.o.dN hi
 have Ra:=r.o.di;rw[hd]at Ra;have az:∀i,(some i∈[sB V.s0,sB V.s1,sB V.s2,sB V.s3,sB V.s4]∨some i∈([]++ (V.ak.map fun x=>sB x.2)++ (V.aE.map fun x=>sB x.2)++ (V.aH.map fun x=>sB x.2)))→k[i]? =h[i]? :=fun i hi=>by
  exact z7
 have own:cG N k { V with aQ:=L,s5:=s }:=by
  refine⟨(r.o.i0.aC fun i hi=>az i (.inl (by rw[←hi];simp))),(r.o.i1.aC fun i hi=>az i (.inl (by rw[←hi];simp))),(r.o.i2.aC fun i hi=>az i (.inl (by rw[←hi];simp))),(r.o.i3.aC fun i hi=>az i (.inl (by rw[←hi];simp))),(r.o.i4.aC fun i hi=>az i (.inl (by rw[←hi];simp))),hs,(fun x hx=>(r.o.e2 x hx).aC fun i hi=>az i (.inr (by rw[←hi];simp only[XC,X2];exact .inl (.inl (.inr ⟨x,hx,rfl⟩))))),(fun x hx=>(r.o.e3 x hx).aC fun i hi=>az i (.inr (by rw[←hi];simp only[XC,X2];exact .inl (.inr ⟨x,hx,rfl⟩)))),(fun x hx=>(r.o.e4 x hx).aC fun i hi=>az i (.inr (by rw[←hi];simp only[XC,X2];exact .inr ⟨x,hx,rfl⟩))),?_⟩
  have hx:∀i,sB s=some i→sB V.s5=some i∨((∀y∈[sB V.s0,sB V.s1,sB V.s2,sB V.s3,sB V.s4],y≠some i)∧∀y∈([]++ (V.ak.map fun x=>sB x.2)++ (V.aE.map fun x=>sB x.2)++ (V.aH.map fun x=>sB x.2)),y≠some i):=fun i hi=>by
   exact z9
  exact Ra.wI hx
 refine⟨own,r.hN,hm,fun hb=>?_⟩;have hbl:=r.lt;have SA:=r.ne;rw[hd]at SA;have e:{ V with aQ:=L,s5:=s }.bl= [sB V.s0,sB V.s1,sB V.s2,sB V.s3,sB V.s4]++sB s:: ([]++ (V.ak.map fun x=>sB x.2)++ (V.aE.map fun x=>sB x.2)++ (V.aH.map fun x=>sB x.2)):=rfl;exact z28
end
def te(B:ah)(b:Nat)(V:RV)(e:gy)(d:Kd)(k:ah):Prop:=∃g' V',k=B++g'∧bW B.length (B++g') b V'∧V'.ar=dq V.ar e d
def gZ{B g:ah}{b i:Nat}{V:RV}{v:AV}(hb: (B++g)[b]? =some (.b V.row))(hv:v.one=true)(hi:i < 7):aW 1 (.ptr b i) v (fun z=>(B++g)[z]?)=some (aB,.set b (.b (V.row.set i v))):=by
 rw[aM hb];exact bV hv (by show i+1≤7;omega)
def mR{B g:ah}{b:Nat}{V:RV}(X:aq)(hN:B.length≤b)(hb: (B++g)[b]? =some (.b V.row)): (B++g).set b X=B++g.set (b - B.length) X∧(B++g.set (b - B.length) X)[b]? =some X∧∀i,i≠b→(B++g.set (b - B.length) X)[i]? = (B++g)[i]? :=by
 have h1: (B++g).set b X=B++g.set (b - B.length) X:=Yp _ _ hN;refine⟨h1,?_,fun i hi=>?_⟩
 ·rw[←h1,XL (Xr.1 hb).1]
 ·rw[←h1,XK (YP hi)]
def eM{ts h}:cN [] ts h=some (.dJ []):=rfl
section
variable {B g g':ah} {b:Nat} {V:RV} {e:gy} {d:Kd}
def K7(r:bW B.length (B++g) b V){s:AV}{L:List gQ}(hff:Fr B.length (B++g') s 3 (L.map cj))(hb':∀i,sB s=some i→sB V.s0=some i∨(B++g).length≤i)(hk1:∀i,i < (B++g).length→sB V.s0≠some i→(B++g')[i]? = (B++g)[i]?)
  (hreg:{ V with lines:=L,s0:=s }.ar=dq V.ar e d):te B b V e d ((B++g').set b (.b (V.row.set 1 s))):=by
 have hbl:=r.lt;have QD:sB V.s0≠some b:=fun z=>r.ne (by rw[←z];simp[RV.bl])
 have mB: (B++g')[b]? =some (.b V.row):=(hk1 b hbl QD).trans r.m;obtain⟨h1,h2,h3⟩:=mR (.b (V.row.set 1 s)) r.hN mB;have hsb:∀i,sB s=some i→i≠b:=fun i hi z=>by
  exact Il
 exact⟨_,_,h1,r.LU (hff.aC fun i hi=>h3 i (hsb i hi)) hb' h2 (fun i hi hne QD=>(h3 i QD).trans (hk1 i hi hne)),hreg⟩
def K6(r:bW B.length (B++g) b V){s:AV}{L:List rA}(hff:Fr B.length (B++g') s 2 (L.map dO))(hb':∀i,sB s=some i→sB V.s1=some i∨(B++g).length≤i)(hk1:∀i,i < (B++g).length→sB V.s1≠some i→(B++g')[i]? = (B++g)[i]?)
  (hreg:{ V with aJ:=L,s1:=s }.ar=dq V.ar e d):te B b V e d ((B++g').set b (.b (V.row.set 2 s))):=by
 have hbl:=r.lt;have QD:sB V.s1≠some b:=fun z=>r.ne (by rw[←z];simp[RV.bl])
 have mB: (B++g')[b]? =some (.b V.row):=(hk1 b hbl QD).trans r.m;obtain⟨h1,h2,h3⟩:=mR (.b (V.row.set 2 s)) r.hN mB;have hsb:∀i,sB s=some i→i≠b:=fun i hi z=>by
  exact Il
 exact⟨_,_,h1,r.PK (hff.aC fun i hi=>h3 i (hsb i hi)) hb' h2 (fun i hi hne QD=>(h3 i QD).trans (hk1 i hi hne)),hreg⟩
def K5(r:bW B.length (B++g) b V){s t:AV}{y:jh}(hff:Fr B.length (B++g') s 3 ((V.ak++ [(y,t)]).map bg))(ht:Fr B.length (B++g') t 1 (y.aJ.map au))(hb':∀i,sB s=some i→sB V.s2=some i∨(B++g).length≤i)(hk1:∀i,i < (B++g).length→sB V.s2≠some i→(B++g')[i]? = (B++g)[i]?)(hnt:∀i,sB t=some i→(B++g).length≤i∧sB s≠some i)
  (hreg:{ V with ak:=V.ak++ [(y,t)],s2:=s }.ar=dq V.ar e d):te B b V e d ((B++g').set b (.b (V.row.set 3 s))):=by
 have hbl:=r.lt;have QD:sB V.s2≠some b:=fun z=>r.ne (by rw[←z];simp[RV.bl])
 have mB: (B++g')[b]? =some (.b V.row):=(hk1 b hbl QD).trans r.m;obtain⟨h1,h2,h3⟩:=mR (.b (V.row.set 3 s)) r.hN mB;have hsb:∀i,sB s=some i→i≠b:=fun i hi z=>by
  exact Il
 have htb:∀i,sB t=some i→i≠b:=fun i hi z=>by
  exact yO
 exact⟨_,_,h1,r.PJ (hff.aC fun i hi=>h3 i (hsb i hi)) (ht.aC fun i hi=>h3 i (htb i hi)) hb' hnt h2 (fun i hi hne QD=>(h3 i QD).trans (hk1 i hi hne)),hreg⟩
def FE(r:bW B.length (B++g) b V){s t:AV}{y:gP}(hff:Fr B.length (B++g') s 4 ((V.aE++ [(y,t)]).map aU))(ht:Fr B.length (B++g') t 1 (y.bu.map au))(hb':∀i,sB s=some i→sB V.s3=some i∨(B++g).length≤i)(hk1:∀i,i < (B++g).length→sB V.s3≠some i→(B++g')[i]? = (B++g)[i]?)(hnt:∀i,sB t=some i→(B++g).length≤i∧sB s≠some i)
  (hreg:{ V with aE:=V.aE++ [(y,t)],s3:=s }.ar=dq V.ar e d):te B b V e d ((B++g').set b (.b (V.row.set 4 s))):=by
 have hbl:=r.lt;have QD:sB V.s3≠some b:=fun z=>r.ne (by rw[←z];simp[RV.bl])
 have mB: (B++g')[b]? =some (.b V.row):=(hk1 b hbl QD).trans r.m;obtain⟨h1,h2,h3⟩:=mR (.b (V.row.set 4 s)) r.hN mB;have hsb:∀i,sB s=some i→i≠b:=fun i hi z=>by
  exact Il
 have htb:∀i,sB t=some i→i≠b:=fun i hi z=>by
  exact yO
 exact⟨_,_,h1,r.PI (hff.aC fun i hi=>h3 i (hsb i hi)) (ht.aC fun i hi=>h3 i (htb i hi)) hb' hnt h2 (fun i hi hne QD=>(h3 i QD).trans (hk1 i hi hne)),hreg⟩
def K4(r:bW B.length (B++g) b V){s t:AV}{y:kK}(hff:Fr B.length (B++g') s 3 ((V.aH++ [(y,t)]).map bO))(ht:Fr B.length (B++g') t 1 (y.bw.map aL))(hb':∀i,sB s=some i→sB V.s4=some i∨(B++g).length≤i)(hk1:∀i,i < (B++g).length→sB V.s4≠some i→(B++g')[i]? = (B++g)[i]?)(hnt:∀i,sB t=some i→(B++g).length≤i∧sB s≠some i)
  (hreg:{ V with aH:=V.aH++ [(y,t)],s4:=s }.ar=dq V.ar e d):te B b V e d ((B++g').set b (.b (V.row.set 5 s))):=by
 have hbl:=r.lt;have QD:sB V.s4≠some b:=fun z=>r.ne (by rw[←z];simp[RV.bl])
 have mB: (B++g')[b]? =some (.b V.row):=(hk1 b hbl QD).trans r.m;obtain⟨h1,h2,h3⟩:=mR (.b (V.row.set 5 s)) r.hN mB;have hsb:∀i,sB s=some i→i≠b:=fun i hi z=>by
  exact Il
 have htb:∀i,sB t=some i→i≠b:=fun i hi z=>by
  exact yO
 exact⟨_,_,h1,r.PH (hff.aC fun i hi=>h3 i (hsb i hi)) (ht.aC fun i hi=>h3 i (htb i hi)) hb' hnt h2 (fun i hi hne QD=>(h3 i QD).trans (hk1 i hi hne)),hreg⟩
def K3(r:bW B.length (B++g) b V){s:AV}{L:List p6}(hff:Fr B.length (B++g') s 4 (L.map da))(hb':∀i,sB s=some i→sB V.s5=some i∨(B++g).length≤i)(hk1:∀i,i < (B++g).length→sB V.s5≠some i→(B++g')[i]? = (B++g)[i]?)
  (hreg:{ V with aQ:=L,s5:=s }.ar=dq V.ar e d):te B b V e d ((B++g').set b (.b (V.row.set 6 s))):=by
 have hbl:=r.lt;have QD:sB V.s5≠some b:=fun z=>r.ne (by rw[←z];simp[RV.bl])
 have mB: (B++g')[b]? =some (.b V.row):=(hk1 b hbl QD).trans r.m;obtain⟨h1,h2,h3⟩:=mR (.b (V.row.set 6 s)) r.hN mB;have hsb:∀i,sB s=some i→i≠b:=fun i hi z=>by
  exact Il
 exact⟨_,_,h1,r.LS (hff.aC fun i hi=>h3 i (hsb i hi)) hb' h2 (fun i hi hne QD=>(h3 i QD).trans (hk1 i hi hne)),hreg⟩
end
section
variable {P:Program} (T:fA P) {B g:ah} {b:Nat} {V:RV} {x:EV}
include T
theorem N1(r:bW B.length (B++g) b V)(c:Cx (B++g) V x .line):db P 149 [.ptr b 0,.agg x.row] (B++g) (fun _ k=>te B b V x.ev .line k):=by
 refine .eF 22 T.mix T.c149 ?_;intro ts hlen t0 t1;unfold fn149;have hex:=@bo.box _ _ c.e;have lb:∀{k n a},Ext (B++g) k→ao n (.ptr b a) (fun z=>k[z]?)=cp n a (.b V.row):=fun {_ _ _} e=>an (e.some r.m)
 have i0:aZ 1 x.sn (.i 0)=_:=(c.nm (i:=0) De).1;have d0:=@(c.nm (i:=0) De).2;have j1:aZ 1 x.sv (.i 1)=_:=(c.vl (i:=1) De).1;have f1:=@(c.vl (i:=1) De).2.1;have q1:=(c.vl (i:=1) De).2.2;obtain⟨y,hy⟩:∃y:gQ,y= ⟨aN x.ev 0,bI x.ev 1,false⟩:=⟨_,rfl⟩;have R1:cj y= [.str (aN x.ev 0),.i (bI x.ev 1),.bool false]:=by rw[hy];rfl
 refine Rs (mX t0 t1 @hex @lb @fT @aO @aY @i0 @d0 @j1 @f1) ?_;rw[←R1];refine WR.fw (h0:=B) (cs:=V.lines.map cj) (ys:=[cj y]) (((r.o.i0).app _).app _) (Fr.push (N:=0) (X3 _) [cj y] (by simp[cj])).a8 De Si (by have:=c.w.len.l0;simp;omega) Xx ?_;intro g' Qz hff hkp;have hrow:V.lines.map cj++ [cj y]= (V.lines++ [y]).map cj:=by rw[XD];rfl
 rw[hrow]at hff;rw[hrow];have hbl:=r.lt;have QD:sB V.s0≠some b:=fun e=>r.ne (by rw[←e];simp[RV.bl])
 have hk1:∀i,i < (B++g).length→sB V.s0≠some i→(B++g')[i]? = (B++g)[i]? :=fun i hi hne=>by
  exact Ip
 have mB: (B++g')[b]? =some (.b V.row):=(hk1 b hbl QD).trans r.m;have Tn:=fun(b' o n e:Nat)=>gZ (i:=1) (v:=.slice b' o n e) mB rfl De
 refine Rs (A4 t0 t1 @Tn @eM) ?_;exact K7 r hff (fun i hi=>by cases hi;exact .inr (by simp only[Xs];omega)) hk1 (by rw[hy];rfl)
theorem NZ(r:bW B.length (B++g) b V)(c:Cx (B++g) V x .tape):db P 152 [.ptr b 0,.agg x.row] (B++g) (fun _ k=>te B b V x.ev .tape k):=by
 refine .eF 27 T.mix T.c152 ?_;intro ts hlen t0 t1;unfold fn152;have hex:=@bo.box _ _ c.e;have lb:∀{k n a},Ext (B++g) k→ao n (.ptr b a) (fun z=>k[z]?)=cp n a (.b V.row):=fun {_ _ _} e=>an (e.some r.m)
 have i0:aZ 1 x.sn (.i 0)=_:=(c.nm (i:=0) De).1;have d0:=@(c.nm (i:=0) De).2;have j0:aZ 1 x.sv (.i 0)=_:=(c.vl (i:=0) De).1;have f0:=@(c.vl (i:=0) De).2.1;have q0:=(c.vl (i:=0) De).2.2;have j1:aZ 1 x.sv (.i 1)=_:=(c.vl (i:=1) De).1;have f1:=@(c.vl (i:=1) De).2.1;have q1:=(c.vl (i:=1) De).2.2;have hw:IntKind.i64.wrap (bI x.ev 0+bI x.ev 1)=bI x.ev 0+bI x.ev 1:=bp Om Om;obtain⟨y,hy⟩:∃y:rA,y= ⟨aN x.ev 0,bI x.ev 0+bI x.ev 1⟩:=⟨_,rfl⟩;have R1:dO y= [.str (aN x.ev 0),.i (bI x.ev 0+bI x.ev 1)]:=by rw[hy];rfl
 refine Rs (zU t0 t1 @hex @lb @kU @aO @aY @hw @i0 @d0 @j0 @f0 @j1 @f1) ?_;rw[←R1];refine WR.fw (h0:=B) (cs:=V.aJ.map dO) (ys:=[dO y]) (((r.o.i1).app _).app _) (Fr.push (N:=0) (X3 _) [dO y] (by simp[dO])).a8 De Si (by have:=c.w.len.l1;simp;omega) Xx ?_;intro g' Qz hff hkp;have hrow:V.aJ.map dO++ [dO y]= (V.aJ++ [y]).map dO:=by rw[XD];rfl
 rw[hrow]at hff;rw[hrow];have hbl:=r.lt;have QD:sB V.s1≠some b:=fun e=>r.ne (by rw[←e];simp[RV.bl])
 have hk1:∀i,i < (B++g).length→sB V.s1≠some i→(B++g')[i]? = (B++g)[i]? :=fun i hi hne=>by
  exact Ip
 have mB: (B++g')[b]? =some (.b V.row):=(hk1 b hbl QD).trans r.m;have Tn:=fun(b' o n e:Nat)=>gZ (i:=2) (v:=.slice b' o n e) mB rfl De
 refine Rs (A4 t0 t1 @Tn @eM) ?_;exact K6 r hff (fun i hi=>by cases hi;exact .inr (by simp only[Xs];omega)) hk1 (by rw[hy];rfl)
end
theorem tL:∀ (l:List Int) (x:Int),(∀s∈l,-1≤s∧s≤999999999)→-16777213 < x→x < 16777213→-16777213 < l.foldl (fun x s=>(257 * x+s).tmod 16777213) x∧l.foldl (fun x s=>(257 * x+s).tmod 16777213) x < 16777213
 | [],x,_,h1,h2=>⟨h1,h2⟩
 | s::l,x,hs,h1,h2=>by
  have hb:-16777213 < (257 * x+s).tmod 16777213∧(257 * x+s).tmod 16777213 < 16777213:=by
   constructor
   ·have:=Int.lt_tmod_of_pos (257 * x+s) (show(0:Int)< 16777213 by decide);exact this
   ·exact Int.tmod_lt_of_pos _ De
  exact tL l _ (fun t ht=>hs t (Yb _ ht)) hb.1 hb.2
section
variable {P:Program} (T:fA P) {h:ah}
include T
theorem r95{s l}(hs:aK h s 1 (l.map aL))(hl:l.length < 2^30)(hb:∀s∈l,-1≤s∧s≤999999999):aA P 95 [s] h (fun v _=>v= .i (fO l)):=by
 refine .kE 19 T.mix T.c95 ?_;intro ts hlen t0;unfold fn95;refine Rs (A2 t0 hs.aP) ?_;refine WL.inv T.mix (fun n ts h'=>∃k:Nat,k≤l.length∧n=l.length - k∧h' =h∧ts.length=19∧slot ts 3= .i (fO (l.take k))∧slot ts 6=s∧slot ts 7= .i l.length∧slot ts 8= .i k) l.length
  ⟨0,Om,rfl,rfl,Sn,iF,(Sq t0),(Sq t0),iF⟩ ?_
 rintro _ ts _ ⟨k,hk,rfl,rfl,hlen,t3,t6,t7,t8⟩;by_cases hlt:k < l.length
 ·have e3:=fk hlt;have ix:=hs.dG (kk:=.i64) hlt;have ld:=hs.kO (i:=k) (x:=.i l[k]) hlt rfl (Ext.refl _);have e5:IntKind.i64.wrap ((k:Int)+1)= ((k+1:Nat):Int):=wrapN Om;have hd:=tL (l.take k) 1 (fun s hs=>hb s (YA hs)) De De;have SB:=hb _ (XJ hlt);have QU:-16777213 < fO (l.take k)∧fO (l.take k)< 16777213:=hd;have w1:IntKind.i64.wrap (257 * fO (l.take k))=257 * fO (l.take k):=bp Om Om;have w2:IntKind.i64.wrap (257 * fO (l.take k)+l[k])=257 * fO (l.take k)+l[k]:=bp Om Om;have er:=nU (k:=.i64) (a:=257 * fO (l.take k)+l[k]) (b:=16777213) De
  have QJ:fO (l.take (k+1))= (257 * fO (l.take k)+l[k]).tmod 16777213:=by
   exact I9
  rw[←QJ]at er;refine Rs (mX t3 t6 t7 t8 e3 ix @ld @w1 @w2 @er e5) ?_;exact⟨_,Om,k+1,Om,rfl,rfl,rfl⟩
 ·have e3:=gq hlt;have e4:k=l.length:=Om
  rw[e4,X8]at t3;exact Rs (A5 t3 t6 t7 t8 e3) Tv
end
section
variable {P:Program} (T:fA P) {B g:ah} {b:Nat} {V:RV} {x:EV}
include T
theorem NY(r:bW B.length (B++g) b V)(c:Cx (B++g) V x .fY):db P 156 [.ptr b 0,.agg x.row] (B++g) (fun _ k=>te B b V x.ev .fY k):=by
 refine .eF 27 T.mix T.c156 ?_;intro ts hlen t0 t1;unfold fn156;have hex:=@bo.box _ _ c.e;have lb:∀{k n a},Ext (B++g) k→ao n (.ptr b a) (fun z=>k[z]?)=cp n a (.b V.row):=fun {_ _ _} e=>an (e.some r.m)
 have i0:aZ 1 x.sn (.i 0)=_:=(c.nm (i:=0) De).1;have d0:=@(c.nm (i:=0) De).2;have i1:aZ 1 x.sn (.i 1)=_:=(c.nm (i:=1) De).1;have d1:=@(c.nm (i:=1) De).2;have i2:aZ 1 x.sn (.i 2)=_:=(c.nm (i:=2) De).1;have d2:=@(c.nm (i:=2) De).2;obtain⟨y,hy⟩:∃y:jh,y= ⟨aN x.ev 0,aN x.ev 1,[aN x.ev 2]⟩:=⟨_,rfl⟩;obtain⟨t,ht⟩:∃t,t=AV.slice (B++g++ [aq.b x.row]).length 0 1 1:=⟨_,rfl⟩;have Ri:Fr (B++g).length (B++g++ [aq.b x.row]++ [aq.cells [.str (aN x.ev 2)] true true]) t 1 (y.aJ.map au):=by
  rw[ht,hy];exact(Fr.push (h:=B++g++ [aq.b x.row]) (N:=(B++g).length) Si [au (aN x.ev 2)] (by simp[au]))
 have R1:bg (y,t)= [.str (aN x.ev 0),.str (aN x.ev 1),t]:=by rw[hy];rfl
 refine Rs (Cw t0 t1 @hex @lb @eJ @aO @aY @i0 @d0 @i1 @d1 @i2 @d2) ?_;rw[←ht];have ot:=Ri.a8.one;refine Rs (A7 t0 t1 @ot @lb @eJ @aO @aY) ?_;rw[←R1];refine WR.fw (h0:=B) (cs:=V.ak.map bg) (ys:=[bg (y,t)]) ((((r.o.i2).app _).app _).app _) (Fr.push (N:=0) (X3 _) [bg (y,t)] (by simp[bg])).a8 De Si (by have:=c.w.len.l2;simp;omega) Xx ?_;intro g' Qz hff hkp;have hrow:V.ak.map bg++ [bg (y,t)]= (V.ak++ [(y,t)]).map bg:=by rw[XD];rfl
 rw[hrow]at hff;rw[hrow];have hbl:=r.lt;have QD:sB V.s2≠some b:=fun e=>r.ne (by rw[←e];simp[RV.bl])
 have hk1:∀i,i < (B++g).length→sB V.s2≠some i→(B++g')[i]? = (B++g)[i]? :=fun i hi hne=>by
  exact Ip
 have mB: (B++g')[b]? =some (.b V.row):=(hk1 b hbl QD).trans r.m;have Tn:=fun(b' o n e:Nat)=>gZ (i:=3) (v:=.slice b' o n e) mB rfl De
 refine Rs (A4 t0 t1 @Tn @eM) ?_;refine K5 r hff ?_ (fun i hi=>by cases hi;exact .inr (by simp only[Xs];omega)) hk1 ?_ ?_
 ·exact(((Ri.app _).aC fun i hi=>hkp i (by have:=(Ri.bN hi).2;simp only[Xs]at this ⊢;omega) (fun b0 o n e he z=>by
   have h1:=(Ri.bN hi).1;have h2:=(r.o.i2.bN (show sB V.s2=some i by rw[he,z];rfl)).2;omega)).low Si)
 ·intro i hi;exact z37
 ·rw[hy];simp[RV.ar,dq]
theorem NV(r:bW B.length (B++g) b V)(c:Cx (B++g) V x .source):db P 162 [.ptr b 0,.agg x.row] (B++g) (fun _ k=>te B b V x.ev .source k):=by
 refine .eF 22 T.mix T.c162 ?_;intro ts hlen t0 t1;unfold fn162;have hex:=@bo.box _ _ c.e;have lb:∀{k n a},Ext (B++g) k→ao n (.ptr b a) (fun z=>k[z]?)=cp n a (.b V.row):=fun {_ _ _} e=>an (e.some r.m)
 have i0:aZ 1 x.sn (.i 0)=_:=(c.nm (i:=0) De).1;have d0:=@(c.nm (i:=0) De).2;have i1:aZ 1 x.sn (.i 1)=_:=(c.nm (i:=1) De).1;have d1:=@(c.nm (i:=1) De).2;obtain⟨y,hy⟩:∃y:gP,y= ⟨aN x.ev 0,dM,aN x.ev 1,[]⟩:=⟨_,rfl⟩;obtain⟨t,ht⟩:∃t,t=AV.af:=⟨_,rfl⟩;have R1:aU (y,t)= [.str (aN x.ev 0),.str [115,104,111,116,115],.str (aN x.ev 1),.af]:=by rw[hy,ht];rfl
 refine Rs (mX t0 t1 @hex @lb @fE @aO @aY @i0 @d0 @i1 @d1) ?_;rw[←R1];refine WR.fw (h0:=B) (cs:=V.aE.map aU) (ys:=[aU (y,t)]) (((r.o.i3).app _).app _) (Fr.push (N:=0) (X3 _) [aU (y,t)] (by simp[aU])).a8 De Si (by have:=c.w.len.l3;simp;omega) Xx ?_;intro g' Qz hff hkp;have hrow:V.aE.map aU++ [aU (y,t)]= (V.aE++ [(y,t)]).map aU:=by rw[XD];rfl
 rw[hrow]at hff;rw[hrow];have hbl:=r.lt;have QD:sB V.s3≠some b:=fun e=>r.ne (by rw[←e];simp[RV.bl])
 have hk1:∀i,i < (B++g).length→sB V.s3≠some i→(B++g')[i]? = (B++g)[i]? :=fun i hi hne=>by
  exact Ip
 have mB: (B++g')[b]? =some (.b V.row):=(hk1 b hbl QD).trans r.m;have Tn:=fun(b' o n e:Nat)=>gZ (i:=4) (v:=.slice b' o n e) mB rfl De
 refine Rs (A4 t0 t1 @Tn @eM) ?_;refine FE r hff ?_ (fun i hi=>by cases hi;exact .inr (by simp only[Xs];omega)) hk1 ?_ ?_
 ·rw[ht,hy];exact .nil
 ·intro i hi;rw[ht]at hi;cases hi
 ·rw[hy];simp[RV.ar,dq]
theorem NU(r:bW B.length (B++g) b V)(c:Cx (B++g) V x .fL)(hc:bB V.ar x.ev .fL=0)(gl:Gl (B++g)):db P 164 [.ptr b 0,.agg x.row] (B++g) (fun _ k=>te B b V x.ev .fL k):=by
 refine .eF 30 T.mix T.c164 ?_;intro ts hlen t0 t1;unfold fn164;have hex:=@bo.box _ _ c.e;have lb:∀{k n a},Ext (B++g) k→ao n (.ptr b a) (fun z=>k[z]?)=cp n a (.b V.row):=fun {_ _ _} e=>an (e.some r.m)
 have i0:aZ 1 x.sn (.i 0)=_:=(c.nm (i:=0) De).1;have d0:=@(c.nm (i:=0) De).2;have j1:aZ 1 x.sv (.i 1)=_:=(c.vl (i:=1) De).1;have f1:=@(c.vl (i:=1) De).2.1;have q1:=(c.vl (i:=1) De).2.2;obtain⟨gmu,gtl,hg0⟩:=gl;have hn:1≤bI x.ev 1∧bI x.ev 1≤4:=by
  rw[bB]at hc;split at hc
  ·cases hc
  case isFalse hr=>exact gS hr
 have hw:IntKind.i64.wrap (bI x.ev 1 - 1)=bI x.ev 1 - 1:=bp Om Om;have a1:mg 4 2 (.ptr 0 0) (.i (bI x.ev 1 - 1))=some (.ptr 0 ((bI x.ev 1 - 1).toNat * 2)):=by simp only[mg];rw[XI Om,Yk]
 have a2:mg 2 1 (.ptr 0 ((bI x.ev 1 - 1).toNat * 2)) (.i 1)=some (.ptr 0 ((bI x.ev 1 - 1).toNat * 2+1)):=by simp[mg]
 have lg:∀{k:ah},Ext (B++g) k→ao none (.ptr 0 ((bI x.ev 1 - 1).toNat * 2+1)) (fun b=>k[b]?)=some (.str (jD (bI x.ev 1)),.az):=by
  intro k e;exact Pc
 have hnl:1≤x.ev.names.length:=by rw[c.we.nl];decide
 have hnl2:x.ev.names.length≤3:=by rw[c.we.nl];decide
 obtain⟨s',es',Qo⟩:=c.e.n.Fc (lo:=some (.i 1)) (hi:=none) (lQ (k:=1) hnl);have et:List.take (x.ev.names.length - 1) (List.drop 1 x.ev.names)=x.ev.names.drop 1:=Yf Si;rw[et]at Qo;obtain⟨y,hy⟩:∃y:gP,y= ⟨aN x.ev 0,jD (bI x.ev 1),[],x.ev.names.drop 1⟩:=⟨_,rfl⟩;refine Rs (F1 t0 t1 @hex @lb @fE @aO @aY @hw @a1 @a2 @lg @es' @i0 @d0 @j1 @f1) ?_;refine WF.res T.c177 (r177 T (Qo.ext Xx) (by simp;omega)) ?_;rintro t g1 Ri;have R1:aU (y,t)= [.str (aN x.ev 0),.str (jD (bI x.ev 1)),.str [],t]:=by rw[hy];rfl
 have Ri:Fr (B++g).length (B++g++ [aq.b x.row]++g1) t 1 (y.bu.map au):=by rw[hy];exact Ri.low Si
 have ot:=Ri.a8.one;refine Rs (A3 t0 t1 @ot) ?_;rw[←R1];refine WR.fw (h0:=B) (cs:=V.aE.map aU) (ys:=[aU (y,t)]) ((((r.o.i3).app _).app _).app _) (Fr.push (N:=0) (X3 _) [aU (y,t)] (by simp[aU])).a8 De Si (by have:=c.w.len.l3;simp;omega) Xx ?_;intro g' Qz hff hkp;exact z8
theorem NT(r:bW B.length (B++g) b V)(c:Cx (B++g) V x .merge):db P 166 [.ptr b 0,.agg x.row] (B++g) (fun _ k=>te B b V x.ev .merge k):=by
 refine .eF 31 T.mix T.c166 ?_;intro ts hlen t0 t1;unfold fn166;have hex:=@bo.box _ _ c.e;have lb:∀{k n a},Ext (B++g) k→ao n (.ptr b a) (fun z=>k[z]?)=cp n a (.b V.row):=fun {_ _ _} e=>an (e.some r.m)
 have i0:aZ 1 x.sn (.i 0)=_:=(c.nm (i:=0) De).1;have d0:=@(c.nm (i:=0) De).2;have i1:aZ 1 x.sn (.i 1)=_:=(c.nm (i:=1) De).1;have d1:=@(c.nm (i:=1) De).2;have hnl:1≤x.ev.names.length:=by rw[c.we.nl];decide
 have hnl2:x.ev.names.length≤3:=by rw[c.we.nl];decide
 obtain⟨s',es',Qo⟩:=c.e.n.Fc (lo:=some (.i 1)) (hi:=none) (lQ (k:=1) hnl);have et:List.take (x.ev.names.length - 1) (List.drop 1 x.ev.names)=x.ev.names.drop 1:=Yf Si;rw[et]at Qo;have k1:aN x.ev 1∈gM V.ar:=c.nk.kn 1 3 rfl;refine Rs (pU t0 t1 @hex @lb @fE @aF @aO @aY @i0 @d0 @i1 @d1) ?_;refine WF.res T.c245 (r245 T (c.o.ext Xx) c.w.len k1) ?_;rintro _ g1 ⟨z,hz,hz1,rfl⟩;unfold aU;obtain⟨y,hy⟩:∃y:gP,y= ⟨aN x.ev 0,(fW V.ar (aN x.ev 1)).gives,[],x.ev.names.drop 1⟩:=⟨_,rfl⟩;refine Rs (A5 t0 t1 @lb @aO @es') ?_;refine WF.res T.c177 (r177 T (Qo.ext Xx) (by simp;omega)) ?_;rintro t g2 Ri;have R1:aU (y,t)= [.str (aN x.ev 0),.str z.1.gives,.str [],t]:=by rw[hy,hz1];rfl
 have Ri:Fr (B++g).length (B++g++ [aq.b x.row]++g1++g2) t 1 (y.bu.map au):=by rw[hy];exact Ri.low (by simp only[Xs];omega)
 have ot:=Ri.a8.one;refine Rs (A3 t0 t1 @ot) ?_;rw[←R1];refine WR.fw (h0:=B) (cs:=V.aE.map aU) (ys:=[aU (y,t)]) (((((r.o.i3).app _).app _).app _).app _) (Fr.push (N:=0) (X3 _) [aU (y,t)] (by simp[aU])).a8 De Si (by have:=c.w.len.l3;simp;omega) Xx ?_;intro g' Qz hff hkp;exact z8
theorem NP(r:bW B.length (B++g) b V)(c:Cx (B++g) V x .fZ):db P 174 [.ptr b 0,.agg x.row] (B++g) (fun _ k=>te B b V x.ev .fZ k):=by
 refine .eF 32 T.mix T.c174 ?_;intro ts hlen t0 t1;unfold fn174;have hex:=@bo.box _ _ c.e;have lb:∀{k n a},Ext (B++g) k→ao n (.ptr b a) (fun z=>k[z]?)=cp n a (.b V.row):=fun {_ _ _} e=>an (e.some r.m)
 have i0:aZ 1 x.sn (.i 0)=_:=(c.nm (i:=0) De).1;have d0:=@(c.nm (i:=0) De).2;have i1:aZ 1 x.sn (.i 1)=_:=(c.nm (i:=1) De).1;have d1:=@(c.nm (i:=1) De).2;have k1:aN x.ev 1∈iA V.ar:=c.nk.kn 1 4 rfl;refine Rs (pU t0 t1 @hex @lb @gR @aF @aO @aY @i0 @d0 @i1 @d1) ?_;refine WF.res T.c124 (r124 T (c.o.ext Xx) c.w.len k1) ?_;rintro _ g1 ⟨z,hz,hz1,rfl⟩;have hzb:=(c.w.jb z.1 (XZ hz)).2;unfold bO;refine Rs (A2 t0 t1) ?_;refine WF.ce T.c95 (r95 T ((c.o.e4 z hz).ext Xx) Om hzb.2.2) fun g2=>?_
 obtain⟨y,hy⟩:∃y:p6,y= ⟨aN x.ev 0,aN x.ev 1,fO (gh V.ar (aN x.ev 1)).bw,false⟩:=⟨_,rfl⟩;have R1:da y= [.str (aN x.ev 0),.str (aN x.ev 1),.i (fO z.1.bw),.bool false]:=by rw[hy,hz1];rfl
 refine Rs (A2 t0 t1) ?_;rw[←R1];refine WR.fw (h0:=B) (cs:=V.aQ.map da) (ys:=[da y]) (((((r.o.i5).app _).app _).app _).app _) (Fr.push (N:=0) (X3 _) [da y] (by simp[da])).a8 De Si (by have:=c.w.len.l5;simp;omega) Xx ?_;intro g' Qz hff hkp;have hrow:V.aQ.map da++ [da y]= (V.aQ++ [y]).map da:=by rw[XD];rfl
 rw[hrow]at hff;rw[hrow];have hbl:=r.lt;have QD:sB V.s5≠some b:=fun e=>r.ne (by rw[←e];simp[RV.bl])
 have hk1:∀i,i < (B++g).length→sB V.s5≠some i→(B++g')[i]? = (B++g)[i]? :=fun i hi hne=>by
  exact Ip
 have mB: (B++g')[b]? =some (.b V.row):=(hk1 b hbl QD).trans r.m;have Tn:=fun(b' o n e:Nat)=>gZ (i:=6) (v:=.slice b' o n e) mB rfl De
 refine Rs (A4 t0 t1 @Tn @eM) ?_;exact K3 r hff (fun i hi=>by cases hi;exact .inr (by simp only[Xs];omega)) hk1 (by rw[hy];rfl)
end
def bW.PG{N b h k V}(r:bW N h b V){i}(hi:i < V.aH.length){y}(hy:y.name=V.aH[i].1.name∧y.mod=V.aH[i].1.mod)(hf:Fr N k V.aH[i].2 1 (y.bw.map aL))
  (hk:∀j,j < h.length→sB V.aH[i].2≠some j→k[j]? =h[j]?):bW N k b { V with aH:=V.aH.set i (y,V.aH[i].2) }:=by
 have hin:∀j,some j∈V.bl→N≤j∧j < h.length:=fun j hj=>r.o.dN hj
 have hbl:{ V with aH:=V.aH.set i (y,V.aH[i].2) }.bl=V.bl:=by
  simp only[RV.bl,ZD];congr 1;have:sB V.aH[i].2= (V.aH.map fun x=>sB x.2)[i]'(by simpa using hi):=Si
  exact z173
 obtain⟨h1,h2,h3⟩:=YG.1 (show kP (([sB V.s0,sB V.s1,sB V.s2,sB V.s3,sB V.s4,sB V.s5]++ (V.ak.map fun x=>sB x.2)++ (V.aE.map fun x=>sB x.2))++ (V.aH.map fun x=>sB x.2))from r.o.di);have RS:sB V.aH[i].2∈V.aH.map fun x=>sB x.2:=XZ (f:=fun x:kK×AV=>sB x.2) (XJ hi)
 have kA:∀j,some j∈([sB V.s0,sB V.s1,sB V.s2,sB V.s3,sB V.s4,sB V.s5]++ (V.ak.map fun x=>sB x.2)++ (V.aE.map fun x=>sB x.2))→k[j]? =h[j]? :=fun j hj=>
  hk j (hin j (by rw[RV.bl];exact XC.2 (.inl hj))).2 (h3 _ hj _ RS j rfl)
 have k6:∀j,some j∈[sB V.s0,sB V.s1,sB V.s2,sB V.s3,sB V.s4,sB V.s5]→k[j]? =h[j]? :=fun j hj=>kA j (by simp only[XC];exact .inl (.inl hj))
 have hrow: (V.aH.set i (y,V.aH[i].2)).map bO=V.aH.map bO:=by
  rw[ZD];have:bO (y,V.aH[i].2)= (V.aH.map bO)[i]'(by simpa using hi):=by simp[bO,hy.1,hy.2]
  exact z173
 have own:cG N k { V with aH:=V.aH.set i (y,V.aH[i].2) }:=by
  refine⟨r.o.i0.aC fun j hj=>k6 j (by rw[←hj];simp),r.o.i1.aC fun j hj=>k6 j (by rw[←hj];simp),r.o.i2.aC fun j hj=>k6 j (by rw[←hj];simp),r.o.i3.aC fun j hj=>k6 j (by rw[←hj];simp),?_,r.o.i5.aC fun j hj=>k6 j (by rw[←hj];simp),?_,?_,?_,?_⟩
  ·show Fr N k V.s4 3 ((V.aH.set i (y,V.aH[i].2)).map bO);rw[hrow];exact r.o.i4.aC fun j hj=>k6 j (by rw[←hj];simp)
  ·exact fun x hx=>(r.o.e2 x hx).aC fun j hj=>kA j (by rw[←hj];simp only[XC,X2];exact .inl (.inr ⟨x,hx,rfl⟩))
  ·exact fun x hx=>(r.o.e3 x hx).aC fun j hj=>kA j (by rw[←hj];simp only[XC,X2];exact .inr ⟨x,hx,rfl⟩)
  ·intro x hx;obtain⟨n,hn,rfl⟩:=ZE hx;have UJ:n < V.aH.length:=by simpa using hn
   by_cases hni:n=i
   ·subst hni;simp only[Zu];exact hf
   ·simp only[ZV (YP hni)];refine(r.o.e4 _ (XJ UJ)).aC fun j hj=>hk j ?_ fun e=>?_
    ·exact((r.o.e4 _ (XJ UJ)).bN hj).2
    ·have e1: (V.aH.map fun x=>sB x.2)[n]'(by simpa using UJ)=some j:=by simpa using hj
     have e2: (V.aH.map fun x=>sB x.2)[i]'(by simpa using hi)=some j:=by simpa using e
     rcases Nat.lt_or_gt_of_ne hni with hlt| hlt
     ·exact List.pairwise_iff_getElem.1 h2 n i (by simpa using UJ) (by simpa using hi) hlt j e1 e2
     ·exact List.pairwise_iff_getElem.1 h2 i n (by simpa using hi) (by simpa using UJ) hlt j e2 e1
  ·show kP { V with aH:=V.aH.set i (y,V.aH[i].2) }.bl;rw[hbl];exact r.o.di
 refine⟨own,r.hN,?_,by rw[hbl];exact r.ne⟩;have:sB V.aH[i].2≠some b:=fun e=>r.ne (by rw[←e,RV.bl];exact XC.2 (.inr RS))
 exact(hk b r.lt this).trans r.m
section
variable {P:Program} (T:fA P) {B g:ah} {b:Nat} {V:RV} {x:EV}
include T
theorem NW(r:bW B.length (B++g) b V)(c:Cx (B++g) V x .accept):db P 160 [.ptr b 0,.agg x.row] (B++g) (fun _ k=>te B b V x.ev .accept k):=by
 refine .eF 19 T.mix T.c160 ?_;intro ts hlen t0 t1;unfold fn160 xR;have hex:=@bo.box _ _ c.e;have lb:∀{k n a},Ext (B++g) k→ao n (.ptr b a) (fun z=>k[z]?)=cp n a (.b V.row):=fun {_ _ _} e=>an (e.some r.m)
 have i0:aZ 1 x.sn (.i 0)=_:=(c.nm (i:=0) De).1;have d0:=@(c.nm (i:=0) De).2;have hn:aN x.ev 0∈gB V.ar:=c.nk.kn 0 0 rfl;have hlt:bj (gB V.ar) (aN x.ev 0)< V.lines.length:=by have:=cP hn;simpa [gB,RV.ar]using this
 have ei:cS (fun y:gQ=>decide (y.name=aN x.ev 0)) V.lines= (bj (gB V.ar) (aN x.ev 0):Int):=eD (f:=gQ.name) hn;have ix:aZ 3 V.s0 (.i (bj (gB V.ar) (aN x.ev 0):Int))=some (cV V.s0 3 (bj (gB V.ar) (aN x.ev 0)),.az):=c.o.i0.dG hlt;have sp:dF V.ar (aN x.ev 0)=V.lines[bj (gB V.ar) (aN x.ev 0)]:=c9 hn;refine Rs (A8 t0 t1 @hex @lb @fT @aO @i0 @d0) ?_;refine WF.ce T.c142 (r142 T (c.o.i0.ext Xx) (by have:=c.w.len.l0;omega) _) fun g1=>?_
 rw[ei];refine Rs (A3 t0 t1 ix) ?_;rw[Xt B g,Xt B];refine WR.uG (h0:=B) (x':={ V.lines[bj (gB V.ar) (aN x.ev 0)]with acc:=true }) (by rw[←Xt,←Xt];exact(r.o.i0.app _).app _) hlt De rfl rfl ?_;intro g' Qz hff hkp;have hbl:=r.lt;have QD:sB V.s0≠some b:=fun e=>r.ne (by rw[←e];simp[RV.bl])
 have hk1:∀i,i < (B++g).length→sB V.s0≠some i→(B++g')[i]? = (B++g)[i]? :=fun i hi hne=>by
  rw[hkp i (fun b0 o n e he z=>hne (by rw[he,z];rfl)),←Xt,←Xt];exact Mh
 refine Rs (A3 t0 t1 @eM) ?_;refine⟨g',{ V with lines:=V.lines.set (bj (gB V.ar) (aN x.ev 0)) { V.lines[bj (gB V.ar) (aN x.ev 0)]with acc:=true },s0:=V.s0 },rfl,r.LU hff (fun i hi=>.inl hi) ((hk1 b hbl QD).trans r.m) (fun i hi h1 _=>hk1 i hi h1),?_⟩;simp only[dq,sp];rfl
theorem NO(r:bW B.length (B++g) b V)(c:Cx (B++g) V x .rel):db P 176 [.ptr b 0,.agg x.row] (B++g) (fun _ k=>te B b V x.ev .rel k):=by
 refine .eF 19 T.mix T.c176 ?_;intro ts hlen t0 t1;unfold fn176 xR;have hex:=@bo.box _ _ c.e;have lb:∀{k n a},Ext (B++g) k→ao n (.ptr b a) (fun z=>k[z]?)=cp n a (.b V.row):=fun {_ _ _} e=>an (e.some r.m)
 have i0:aZ 1 x.sn (.i 0)=_:=(c.nm (i:=0) De).1;have d0:=@(c.nm (i:=0) De).2;have hn:aN x.ev 0∈kN V.ar:=c.nk.kn 0 5 rfl;have hlt:bj (kN V.ar) (aN x.ev 0)< V.aQ.length:=by have:=cP hn;simpa [kN,RV.ar]using this
 have ei:cS (fun y:p6=>decide (y.name=aN x.ev 0)) V.aQ= (bj (kN V.ar) (aN x.ev 0):Int):=eD (f:=p6.name) hn;have ix:aZ 4 V.s5 (.i (bj (kN V.ar) (aN x.ev 0):Int))=some (cV V.s5 4 (bj (kN V.ar) (aN x.ev 0)),.az):=c.o.i5.dG hlt;have sp:jK V.ar (aN x.ev 0)=V.aQ[bj (kN V.ar) (aN x.ev 0)]:=c9 hn;refine Rs (A8 t0 t1 @hex @lb @gR @aO @i0 @d0) ?_;refine WF.ce T.c146 (r146 T (c.o.i5.ext Xx) (by have:=c.w.len.l5;omega) _) fun g1=>?_
 rw[ei];refine Rs (A3 t0 t1 ix) ?_;rw[Xt B g,Xt B];refine WR.uG (h0:=B) (x':={ V.aQ[bj (kN V.ar) (aN x.ev 0)]with rel:=true }) (by rw[←Xt,←Xt];exact(r.o.i5.app _).app _) hlt De rfl rfl ?_;intro g' Qz hff hkp;have hbl:=r.lt;have QD:sB V.s5≠some b:=fun e=>r.ne (by rw[←e];simp[RV.bl])
 have hk1:∀i,i < (B++g).length→sB V.s5≠some i→(B++g')[i]? = (B++g)[i]? :=fun i hi hne=>by
  rw[hkp i (fun b0 o n e he z=>hne (by rw[he,z];rfl)),←Xt,←Xt];exact Mh
 refine Rs (A3 t0 t1 @eM) ?_;refine⟨g',{ V with aQ:=V.aQ.set (bj (kN V.ar) (aN x.ev 0)) { V.aQ[bj (kN V.ar) (aN x.ev 0)]with rel:=true },s5:=V.s5 },rfl,r.LS hff (fun i hi=>.inl hi) ((hk1 b hbl QD).trans r.m) (fun i hi h1 _=>hk1 i hi h1),?_⟩;simp only[dq,sp];rfl
theorem KX(r:bW B.length (B++g) b V){d}(c:Cx (B++g) V x d)(hd:1 < cB d)(h0:0 < (bL d).length)(hn:aN x.ev 0∈iA V.ar)(hlt1:bI x.ev 1 < (gh V.ar (aN x.ev 0)).bw.length)(s:Int):
  db P 250 [.ptr b 0,.agg x.row,.i s] (B++g) (fun _ k=>∃g' V',k=B++g'∧bW B.length (B++g') b V'∧V'.ar={ V.ar with aH:=mD V.ar x.ev s }):=by
 refine .nj 28 T.mix T.c250 ?_;intro ts hlen t0 t1 t2;unfold fn250;have hex:=@bo.box _ _ c.e;have lb:∀{k n a},Ext (B++g) k→ao n (.ptr b a) (fun z=>k[z]?)=cp n a (.b V.row):=fun {_ _ _} e=>an (e.some r.m)
 have i0:aZ 1 x.sn (.i 0)=_:=(c.nm (i:=0) h0).1;have d0:=@(c.nm (i:=0) h0).2;have j1:aZ 1 x.sv (.i 1)=_:=(c.vl (i:=1) hd).1;have f1:=@(c.vl (i:=1) hd).2.1;have q1:=(c.vl (i:=1) hd).2.2;have hlt:bj (iA V.ar) (aN x.ev 0)< V.aH.length:=by have:=cP hn;simpa [iA,RV.ar]using this
 have ei:cS (fun y:kK×AV=>decide (y.1.name=aN x.ev 0)) V.aH= (bj (iA V.ar) (aN x.ev 0):Int):=(eD (f:=fun y:kK×AV=>y.1.name) (by rw[←gU];exact hn)).trans (by rw[gU]);have ix:aZ 3 V.s4 (.i (bj (iA V.ar) (aN x.ev 0):Int))=some (cV V.s4 3 (bj (iA V.ar) (aN x.ev 0)),.az):=c.o.i4.dG hlt;have sp: (V.aH[bj (iA V.ar) (aN x.ev 0)]).1=gh V.ar (aN x.ev 0):=by
  have:=c9 (f:=kK.name) (l:=V.ar.aH) (n:=aN x.ev 0) (d:=ze) hn;rw[show gh V.ar (aN x.ev 0)=_ from this];exact z124
 obtain⟨p,hp⟩:∃p,p=bj (iA V.ar) (aN x.ev 0):=⟨_,rfl⟩;rw[←hp]at ei ix;have hlt:p < V.aH.length:=by rw[hp];exact hlt
 have sp:V.aH[p].1=gh V.ar (aN x.ev 0):=by rw[←sp];congr 2
 have l2:∀{k:ah},Ext (B++g) k→ao none (lh V.s4 3 p 2) (fun b=>k[b]?)=some (V.aH[p].2,.az):=fun {k} e=>c.o.i4.pG hlt rfl e
 have oj:=r.o.e4 _ (XJ hlt);have hsl: (bI x.ev 1).toNat < V.aH[p].1.bw.length:=by rw[sp];omega
 have Vr:bI x.ev 1= ((bI x.ev 1).toNat:Int):=Om
 have iy:aZ 1 V.aH[p].2 (.i (bI x.ev 1))=some (cV V.aH[p].2 1 (bI x.ev 1).toNat,.az):=by
  rw[Vr];exact oj.a8.dG hsl
 refine Rs (A9 t0 t1 t2 @hex @lb @fS @aO @i0 @d0) ?_;refine WF.ce T.c145 (r145 T (c.o.i4.ext Xx) c.o.iZ.2.2 (by have:=c.w.len.l4;omega) _) fun g1=>?_
 rw[ei];refine Rs (A9 t0 t1 t2 ix @l2 @aY @j1 @f1 @iy) ?_;rw[Xt B g,Xt B];have Un:cV V.aH[p].2 1 (bI x.ev 1).toNat=lh V.aH[p].2 1 (bI x.ev 1).toNat 0:=rfl;rw[Un];refine WR.uG (h0:=B) (x':=s) (row:=aL) (L:=V.aH[p].1.bw) (by rw[←Xt,←Xt];exact(oj.app _).app _) hsl De rfl rfl ?_;intro g' Qz hff hkp;have hk1:∀i,i < (B++g).length→sB V.aH[p].2≠some i→(B++g')[i]? = (B++g)[i]? :=fun i hi hne=>by
  rw[hkp i (fun b0 o n e he z=>hne (by rw[he,z];rfl)),←Xt,←Xt];exact Mh
 refine Rs (A4 t0 t1 t2 @eM) ?_;refine⟨g',{ V with aH:=V.aH.set p ({ V.aH[p].1 with bw:=V.aH[p].1.bw.set (bI x.ev 1).toNat s },V.aH[p].2) },rfl,r.PG hlt ⟨rfl,rfl⟩ hff hk1,?_⟩;have e:mD V.ar x.ev s= (V.aH.set p ({ V.aH[p].1 with bw:=V.aH[p].1.bw.set (bI x.ev 1).toNat s },V.aH[p].2)).map Prod.fst:=by
  rw[mD,←hp,←sp,ZD];rfl
 rw[e];rfl
theorem NR(r:bW B.length (B++g) b V)(c:Cx (B++g) V x .fK)(hc:bB V.ar x.ev .fK=0):db P 170 [.ptr b 0,.agg x.row] (B++g) (fun _ k=>te B b V x.ev .fK k):=by
 refine .eF 11 T.mix T.c170 ?_;intro ts hlen t0 t1;unfold fn170;have hex:=@bo.box _ _ c.e;have j2:aZ 1 x.sv (.i 2)=_:=(c.vl (i:=2) De).1;have f2:=@(c.vl (i:=2) De).2.1;have k0:aN x.ev 0∈iA V.ar:=c.nk.kn 0 4 rfl;have hlt:bI x.ev 1 < (gh V.ar (aN x.ev 0)).bw.length:=by
  exact Ph
 refine Rs (A7 t0 t1 @hex @cg @aY @j2 @f2) ?_;rw[Xt B g];refine WF.gen T.c250 (KX T (B:=B) (by rw[←Xt];exact r.app _) (by rw[←Xt];exact c.ext Xx) De De k0 hlt (bI x.ev 2)) ?_;rintro _ _ ⟨g',V',rfl,h1,h2⟩;exact z183
theorem NQ(r:bW B.length (B++g) b V)(c:Cx (B++g) V x .fail)(hc:bB V.ar x.ev .fail=0):db P 172 [.ptr b 0,.agg x.row] (B++g) (fun _ k=>te B b V x.ev .fail k):=by
 refine .eF 7 T.mix T.c172 ?_;intro ts hlen t0 t1;unfold fn172;have hex:=@bo.box _ _ c.e;have k0:aN x.ev 0∈iA V.ar:=c.nk.kn 0 4 rfl;have hlt:bI x.ev 1 < (gh V.ar (aN x.ev 0)).bw.length:=by
  exact Ph
 refine Rs (A4 t0 t1 @hex @cg) ?_;rw[Xt B g];refine WF.gen T.c250 (KX T (B:=B) (by rw[←Xt];exact r.app _) (by rw[←Xt];exact c.ext Xx) De De k0 hlt (-1)) ?_;rintro _ _ ⟨g',V',rfl,h1,h2⟩;exact z183
end
def wa{k:Nat}(hk:k≤32):dW .and (.int .u64 (k:Int)) (.int .u64 4294967295)=some (.int .u64 (k:Int))∧dW .shr (.int .u64 (k:Int)) (.int .u64 32)=some (.int .u64 0):=by
 have:k=0∨k=1∨k=2∨k=3∨k=4∨k=5∨k=6∨k=7∨k=8∨k=9∨k=10∨k=11∨k=12∨k=13∨k=14∨k=15∨k=16∨k=17∨k=18∨k=19∨k=20∨k=21∨k=22∨k=23∨k=24∨k=25∨k=26∨k=27∨k=28∨k=29∨k=30∨k=31∨k=32:=Om
 rcases this with rfl| rfl| rfl| rfl| rfl| rfl| rfl| rfl| rfl| rfl| rfl| rfl| rfl| rfl| rfl| rfl| rfl| rfl| rfl| rfl| rfl| rfl| rfl| rfl| rfl| rfl| rfl| rfl| rfl| rfl| rfl| rfl| rfl<;>exact⟨rfl,rfl⟩
def yM:dW .and (.int .u64 0) (.int .u64 4294967295)=some (.int .u64 0)∧dW .shr (.int .u64 0) (.int .u64 32)=some (.int .u64 0):=⟨rfl,rfl⟩
def Bm:dW .and (.int .u64 1) (.int .u64 4294967295)=some (.int .u64 1)∧dW .shr (.int .u64 1) (.int .u64 32)=some (.int .u64 0):=⟨rfl,rfl⟩
def HE{x y:cW}{ρ:cW→AV}{h:ah}{b o n m N:Nat}{c:List AV}{tl:Bool}(hx:ρ x= .slice b o n 1)(hy:ρ y= .slice b 0 m 1)(hb:h[b]? =some (.cells c true tl))(hn:o+n≤c.length)(hm:m≤c.length)(h0:0 < min m n):
  stepT (.vU 1 x y) ρ (fun z=>h[z]?) N=some (.i (min m n:Nat),.set b (.cells (fB c o (c.take (min m n))) true tl)):=by
 have hc:eT 1 (fun z=>h[z]?) (ρ y)=some (c.take m,m):=by
  rw[hy];simp only[eT,XR,hb,Yk,ZG,YO];rw[XI hm]
 have e:stepT (.vU 1 x y) ρ (fun z=>h[z]?) N= (match ρ x,eT 1 (fun z=>h[z]?) (ρ y)with
  | .slice b o n es',some (ys,k)=>
   if es' =1 then
    if min k n=0 then some (.i 0,.az)
    else
     match h[b]? with
     | some (.cells c true tl)=>if o+min k n * 1≤c.length then some (.i (min k n:Nat),.set b (.cells (fB c o (ys.take (min k n * 1))) true tl))else none
     | _=>none
   else none
  | .af,some _=>some (.i 0,.az)
  | _,_=>none):=rfl
 rw[e,hc,hx];simp only[XR,hb,ZG];rw[XG Om,XI Om,List.take_take,Zm (Nat.min_le_left _ _)]
def D0{x y ρ h b n N c v tl}(hx:ρ x= .slice b 0 n 1)(hy:aK h (ρ y) 1 [[v]])(hb:h[b]? =some (.cells c true tl))(hn:c.length=n)(h0:0 < n):
  stepT (.vU 1 x y) ρ (fun z=>h[z]?) N=some (.i 1,.set b (.cells (c.set 0 v) true tl)):=by
 have hc:=hy.eT;have e:stepT (.vU 1 x y) ρ (fun z=>h[z]?) N= (match ρ x,eT 1 (fun z=>h[z]?) (ρ y)with
  | .slice b o n es',some (ys,k)=>
   if es' =1 then
    if min k n=0 then some (.i 0,.az)
    else
     match h[b]? with
     | some (.cells c true tl)=>if o+min k n * 1≤c.length then some (.i (min k n:Nat),.set b (.cells (fB c o (ys.take (min k n * 1))) true tl))else none
     | _=>none
   else none
  | .af,some _=>some (.i 0,.az)
  | _,_=>none):=rfl
 have hm:min 1 n=1:=Om
 rw[e,hc,hx];simp only[XR,hb,XV,hm,ZG];rw[XG De,XI Om];rfl
def AE{v z c m k}(hm:c+m≤k):fB (List.replicate c v++List.replicate (k - c) z) c (List.replicate m v)=List.replicate (c+m) v++List.replicate (k - (c+m)) z:=by
 induction m generalizing c with
 | zero=>rfl
 | succ m ih=>
  rw[Y5,oM];have hk:k - c= (k - (c+1))+1:=Om
  have e: (List.replicate c v++List.replicate (k - c) z).set c v=List.replicate (c+1) v++List.replicate (k - (c+1)) z:=by
   rw[Yp _ _ Si,YB,Yy,hk,Y5,List.set_cons_zero,List.replicate_succ',Xt];rfl
  rw[e,ih Om];congr 2<;>omega
def As{v z:AV}{c m k:Nat}(hm:m≤c): (List.replicate c v++List.replicate (k - c) z).take m=List.replicate m v:=by
 rw[List.take_append_of_le_length (by simpa using hm),List.take_replicate,Zm hm]
section
variable {P:Program} (T:fA P) {h:ah}
include T
theorem r286{k:Nat}(hk:k≤32):aA P 286 [.int .u64 1,.int .u64 (k:Int)] h (fun v _=>v= .dJ [.int .u64 0,.int .u64 (k:Int)]):=by
 refine .eF 51 T.mix T.c286 ?_;intro ts hlen t0 t1;unfold fn286;obtain⟨a1,a2⟩:=wa hk;obtain⟨b1,b2⟩:=yM;obtain⟨c1,c2⟩:=Bm;have w1:IntKind.u64.wrap (1 * (k:Int))= (k:Int):=by rw[Int.one_mul];exact xJ Om Om
 have w2:IntKind.u64.wrap (0 * (k:Int))=0:=by rw[Int.zero_mul];rfl
 have w3:IntKind.u64.wrap (0+0)=0:=rfl;have w4:IntKind.u64.wrap (1 * 0)=0:=rfl;have w5:IntKind.u64.wrap (0 * 0)=0:=rfl;exact Rs (Cw t0 t1 @a1 @a2 @b1 @b2 @c1 @c2 @w1 @w2 @w3 @w4 @w5) Tv
theorem r267{k:Nat}(hk:k≤32):aA P 267 [.int .u64 1,.int .u64 (k:Int)] h (fun v _=>v= .dJ [.int .u64 0,.int .u64 (k:Int)]):=by
 refine .eF 30 T.mix T.c267 ?_;intro ts hlen t0 t1;unfold fn267;refine Rs (A2 t0 t1) ?_;refine WF.ce T.c286 (r286 T hk) fun g1=>?_
 exact Rs (A2 t0 t1) Tv
theorem r248{s:AV}(hs:aK h s 1 (([-1] :List Int).map aL)){k:Nat}(hk:k≤32)(hk0:0 < k):aA P 248 [s,.i (k:Int)] h (fun v h'=>Fr h.length h' v 1 ((List.replicate k (-1:Int)).map aL)):=by
 refine .eF 48 T.mix T.c248 ?_;intro ts hlen t0 t1;unfold fn248;have q0:decide ((k:Int)< 0)=false:=Xu Om;have Tk:=fun G=>hs.aP G
 have c1:IntKind.u64.wrap ((([-1] :List Int).length:Nat):Int)=1:=rfl;have c2:IntKind.u64.wrap (k:Int)= (k:Int):=xJ Om Om;have q1:decide ((0:Int)< 0)=false:=rfl;have q2:decide ((9223372036854775807:Int)< (k:Int))=false:=Xu Om;have c3:IntKind.i64.wrap (k:Int)= (k:Int):=bp Om Om;have mk:∀{N:Nat},sG 1 8 [AV.i 0] (.i (k:Int)) (.i (k:Int)) N=some (.slice N 0 k 1,.push (.cells (dI k [AV.i 0]) true true)):=nG Om Om;refine Rs (A6 t0 t1 q0 @Tk @c1 @c2) ?_;refine WF.ce T.c267 (r267 T hk) fun g1=>?_
 refine Rs (A6 t0 t1 q1 q2 @c3 @mk) ?_;rw[D0 (b:=(h++g1).length) (n:=k) (v:=.i (-1)) (c:=dI k [AV.i 0]) (tl:=true)]
 rotate_left
 ·exact(Sq t0)
 ·have:aK (h++g1++ [aq.cells (dI k [AV.i 0]) true true]) s 1 [[AV.i (-1)]]:=hs.ext Xx;refine Zs t0 ?_;exact this
 ·exact bf
 ·rw[lB,Zy];simp
 ·exact hk0
 have hz: (dI k [AV.i 0]).set 0 (.i (-1))=List.replicate 1 (AV.i (-1))++List.replicate (k - 1) (AV.i 0):=by
  rw[lB,Zy];obtain⟨n,rfl⟩:∃n,k=n+1:=⟨k - 1,Om⟩;rw[Y5,List.set_cons_zero];rfl
 rw[hz];refine Rs (A2 t0 t1) ?_;obtain⟨b0,Rx⟩:∃b0,b0= (h++g1).length:=⟨_,rfl⟩;rw[←Rx];have hN:h.length≤b0:=by rw[Rx];simp
 refine WL.inv T.mix (fun n ts h'=>∃c:Nat,1≤c∧c≤k∧n=k - c∧h' =h++g1++ [aq.cells (List.replicate c (AV.i (-1))++List.replicate (k - c) (AV.i 0)) true true]∧ts.length=48∧slot ts 7= .slice b0 0 k 1∧slot ts 8= .i (c:Int)) (k - 1)
  ⟨1,Om,Om,rfl,rfl,Sn,(Sq t0),iF⟩ ?_
 rintro _ ts _ ⟨c,h1,h2,rfl,rfl,hlen,t7,t8⟩;have hb: (h++g1++ [aq.cells (List.replicate c (AV.i (-1))++List.replicate (k - c) (AV.i 0)) true true])[b0]? =some (.cells (List.replicate c (AV.i (-1))++List.replicate (k - c) (AV.i 0)) true true):=by rw[Rx];exact bf
 have Vb:∀G:Nat→Option aq,iL .sl G (.slice b0 0 k 1)=some k:=fun _=>rfl
 by_cases hlt:c < k
 ·have e3:decide ((c:Int)< (k:Int))=true:=Xz Om;have s1:zW 1 (.slice b0 0 k 1) (some (.i (c:Int))) none=some (.slice b0 c (k - c) 1,.az):=by
   simp only[zW,XR,lQ (kk:=.i64) h2,ZG,Yk]
  have s2:zW 1 (.slice b0 0 k 1) none (some (.i (c:Int)))=some (.slice b0 0 c 1,.az):=by
   simp only[zW,XR,jw (kk:=.i64) h2,ZG,Yk,Nat.sub_zero]
  refine Rs (A6 t7 t8 @Vb e3 @s1 @s2) ?_;rw[HE (b:=b0) (o:=c) (n:=k - c) (m:=c) (c:=List.replicate c (AV.i (-1))++List.replicate (k - c) (AV.i 0)) (tl:=true)]
  rotate_left
  ·exact(Sq t7)
  ·exact(Sq t7)
  ·exact hb
  ·exact z164
  ·exact z164
  ·omega
  rw[As (Nat.min_le_left _ _),AE Om];have bS:∀X:aq,(h++g1++ [aq.cells (List.replicate c (AV.i (-1))++List.replicate (k - c) (AV.i 0)) true true]).set b0 X=h++g1++ [X]:=fun X=>by rw[Rx];exact AD
  have hw:IntKind.i64.wrap ((c:Int)+ ((min c (k - c):Nat):Int))= ((c+min c (k - c):Nat):Int):=by rw[bp Om Om];rfl
  refine Rs (A4 t7 t8 @bS @hw) ?_;exact⟨_,Om,c+min c (k - c),Om,Om,rfl,rfl,rfl⟩
 ·have e3:decide ((c:Int)< (k:Int))=false:=Xu Om;have e4:c=k:=Om
  refine Rs (A4 t7 t8 @Vb e3) ?_;have QT: (List.replicate c (AV.i (-1))++List.replicate (k - c) (AV.i 0))= ((List.replicate k (-1:Int)).map aL).flatten:=by
   rw[e4,Yy,ZW,XU,List.map_replicate,Zy]
  have hlr: ((List.replicate k (-1:Int)).map aL).length=k:=Si
  rw[QT]at hb;have:=Fr.mk (N:=h.length) (es:=1) (cs:=(List.replicate k (-1:Int)).map aL) (b:=b0) (tl:=true) hN hb Si;rw[hlr]at this;rw[QT];exact this
end
section
variable {P:Program} (T:fA P) {B g:ah} {b:Nat} {V:RV} {x:EV}
include T
theorem NS(r:bW B.length (B++g) b V)(c:Cx (B++g) V x .run)(hc:bB V.ar x.ev .run=0):db P 168 [.ptr b 0,.agg x.row] (B++g) (fun _ k=>te B b V x.ev .run k):=by
 refine .eF 28 T.mix T.c168 ?_;intro ts hlen t0 t1;unfold fn168;have hex:=@bo.box _ _ c.e;have lb:∀{k n a},Ext (B++g) k→ao n (.ptr b a) (fun z=>k[z]?)=cp n a (.b V.row):=fun {_ _ _} e=>an (e.some r.m)
 have i0:aZ 1 x.sn (.i 0)=_:=(c.nm (i:=0) De).1;have d0:=@(c.nm (i:=0) De).2;have i1:aZ 1 x.sn (.i 1)=_:=(c.nm (i:=1) De).1;have d1:=@(c.nm (i:=1) De).2;have j1:aZ 1 x.sv (.i 1)=_:=(c.vl (i:=1) De).1;have f1:=@(c.vl (i:=1) De).2.1;have q1:=(c.vl (i:=1) De).2.2;have hn:1≤bI x.ev 1∧bI x.ev 1≤32:=by
  rw[bB]at hc;split at hc
  ·cases hc
  split at hc
  ·cases hc
  case isFalse hr=>exact gS hr
 obtain⟨k,hk⟩:∃k:Nat,bI x.ev 1= (k:Int):=⟨(bI x.ev 1).toNat,Om⟩;rw[hk]at f1;obtain⟨y,hy⟩:∃y:kK,y= ⟨aN x.ev 0,aN x.ev 1,List.replicate k (-1)⟩:=⟨_,rfl⟩;refine Rs (Cw t0 t1 @hex @lb @fS @aO @aY @i0 @d0 @i1 @d1 @j1 @f1) ?_;refine WF.res T.c248 (r248 T (s:=.slice (B++g++ [aq.b x.row]).length 0 1 1) (k:=k) (b9 [-1]) Om Om) ?_;rintro t g1 Ri;have R1:bO (y,t)= [.str (aN x.ev 0),.str (aN x.ev 1),t]:=by rw[hy];rfl
 have Ri:Fr (B++g).length (B++g++ [aq.b x.row]++ [aq.cells [AV.i (-1)] true true]++g1) t 1 (y.bw.map aL):=by rw[hy];exact Ri.low (by simp only[Xs,XV];omega)
 have ot:=Ri.a8.one;refine Rs (A3 t0 t1 @ot) ?_;rw[←R1];refine WR.fw (h0:=B) (cs:=V.aH.map bO) (ys:=[bO (y,t)]) (((((r.o.i4).app _).app _).app _).app _) (Fr.push (N:=0) (X3 _) [bO (y,t)] (by simp[bO])).a8 De Si (by have:=c.w.len.l4;simp;omega) Xx ?_;intro g' Qz hff hkp;have hrow:V.aH.map bO++ [bO (y,t)]= (V.aH++ [(y,t)]).map bO:=by rw[XD];rfl
 rw[hrow]at hff;rw[hrow];have hbl:=r.lt;have QD:sB V.s4≠some b:=fun e=>r.ne (by rw[←e];simp[RV.bl])
 have hk1:∀i,i < (B++g).length→sB V.s4≠some i→(B++g')[i]? = (B++g)[i]? :=fun i hi hne=>by
  exact Ip
 have mB: (B++g')[b]? =some (.b V.row):=(hk1 b hbl QD).trans r.m;have Tn:=fun(b' o n e:Nat)=>gZ (i:=5) (v:=.slice b' o n e) mB rfl De
 refine Rs (A4 t0 t1 @Tn @eM) ?_;refine K4 r hff ?_ (fun i hi=>by cases hi;exact .inr (by simp only[Xs,XV];omega)) hk1 ?_ ?_
 ·refine Fr.low (N:=(B++g).length) ((show Fr (B++g).length _ t 1 _ from Ri.app _).aC fun i hi=>hkp i ?_ (fun b0 o n e he z=>?_)) Si
  ·have:=(Ri.bN hi).2;simp only[Xs,XV]at this ⊢;omega
  ·have h1:=(Ri.bN hi).1;have h2:=(r.o.i4.bN (show sB V.s4=some i by rw[he,z];rfl)).2;omega
 ·intro i hi;exact z37
 ·have e: (bI x.ev 1).toNat=k:=Om
  rw[hy];simp[RV.ar,dq,e]
end
end Go.Abs
namespace Go.Abs
section
variable {P:Program} {ro:Option Nat→Prop} {ks:List Kt} {ts:TS} {h:ah} {Q:Ex→TS→ah→Prop} {S:ah→Prop} {K:TS→ah→Prop} {l:List bJ}
def om(S:ah→Prop)(H:WM P S l ts h (kq P ro ks Q .normal)):WC P ro (.kX l) ks ts h Q:=⟨S,H⟩
def c7{o}(hS:S h)(hl:l9 o=false)(hn:jZ (o::l)=false)(H:WP P bR [o] [] ts h (fun _ RY h1=>WM P S l RY h1 K)):WM P S (o::l) ts h K:=⟨hS,.inr ⟨hn,.inr ⟨hl,H⟩⟩⟩
def oh{o}(hS:S h)(hl:jZ (o::l)=true)(H:WP P ro (o::l) ks ts h Q):WM P S (o::l) ts h (kq P ro ks Q .normal):=⟨hS,.inl ⟨hl,H⟩⟩
def kD{n a d v}(hS:S h)(hv:∀g,S g→ao n (val ts a) (fun b=>g[b]?)=some (v,.az))(H:WM P S l (put ts d v) h K)(hn:jZ (({ dst:=d,k:=.load n a,gd:=none,q:=true }:bJ)::l)=false:=by rfl):WM P S ({ dst:=d,k:=.load n a,gd:=none,q:=true } ::l) ts h K:=by
 refine⟨hS,.inr ⟨hn,.inl ⟨rfl,v,fun g hg=>?_,H⟩⟩⟩;refine dx.run trivial ?_ ?_
 ·cases d<;>trivial
 ·have h1:stepT (.load n a) (val ts) (fun b=>g[b]?) g.length=some (v,.az):=hv g hg;exact ni h1
end
def bW.PF{N b h k V}(r:bW N h b V){i}(hi:i < V.ak.length){y t}(hs:Fr N k V.s2 3 ((V.ak.set i (y,t)).map bg))(ht:Fr N k t 1 (y.aJ.map au))(hnt:∀j,sB t=some j→h.length≤j)
  (hk:∀j,j < h.length→sB V.s2≠some j→sB V.ak[i].2≠some j→k[j]? =h[j]?):bW N k b { V with ak:=V.ak.set i (y,t) }:=by
 have hin:∀j,some j∈V.bl→N≤j∧j < h.length:=fun j hj=>r.o.dN hj
 let l1:List (Option Nat):=[sB V.s0,sB V.s1,sB V.s2,sB V.s3,sB V.s4,sB V.s5]++ (V.ak.take i).map fun x=>sB x.2
 let l2:List (Option Nat):=(V.ak.drop (i+1)).map (fun x=>sB x.2)++ (V.aE.map fun x=>sB x.2)++ (V.aH.map fun x=>sB x.2)
 have hV:V.bl=l1++sB V.ak[i].2::l2:=by
  have e:V.ak=V.ak.take i++V.ak[i]::V.ak.drop (i+1):=by rw[←Zw hi,YR]
  have e2: (V.ak.map fun x=>sB x.2)= (V.ak.take i).map (fun x=>sB x.2)++sB V.ak[i].2:: (V.ak.drop (i+1)).map (fun x=>sB x.2):=by
   conv=>lhs;rw[e]
   simp only[XD,Yr]
  exact IN
 have Vn:{ V with ak:=V.ak.set i (y,t) }.bl=l1++sB t::l2:=by
  have e2: ((V.ak.set i (y,t)).map fun x=>sB x.2)= (V.ak.take i).map (fun x=>sB x.2)++sB t:: (V.ak.drop (i+1)).map (fun x=>sB x.2):=by
   rw[List.set_eq_take_append_cons_drop,XI hi];simp only[XD,Yr]
  exact IN
 have Ra:=r.o.di;rw[hV]at Ra;obtain⟨h1,h2,h3⟩:=YG.1 Ra;have h4:=Yv.1 h2;have nti:∀j,some j∈l1∨some j∈l2→sB V.ak[i].2≠some j:=fun j hj e=>by
  rcases hj with hj| hj
  ·exact h3 _ hj _ Si j rfl e
  ·exact h4.1 _ hj j e rfl
 have hlt:∀j,some j∈l1∨some j∈l2→j < h.length:=fun j hj=>(hin j (by rw[hV];exact iK hj)).2
 have ns2:∀j,(some j∈[sB V.s0,sB V.s1]∨some j∈[sB V.s3,sB V.s4,sB V.s5]++ ((V.ak.map fun x=>sB x.2)++ (V.aE.map fun x=>sB x.2)++ (V.aH.map fun x=>sB x.2)))→sB V.s2≠some j:=fun j hj e=>by
  have Vi:kP ([sB V.s0,sB V.s1]++sB V.s2:: ([sB V.s3,sB V.s4,sB V.s5]++ ((V.ak.map fun x=>sB x.2)++ (V.aE.map fun x=>sB x.2)++ (V.aH.map fun x=>sB x.2)))):=by
   have:=r.o.di;simp only[RV.bl]at this
   simpa using this
  obtain⟨a1,a2,a3⟩:=YG.1 Vi;rcases hj with hj| hj
  ·exact a3 _ hj _ Si j rfl e
  ·exact(Yv.1 a2).1 _ hj j e rfl
 have kp:∀j,(some j∈l1∨some j∈l2)→sB V.s2≠some j→k[j]? =h[j]? :=fun j hj hn=>hk j (hlt j hj) hn (nti j hj)
 have own:cG N k { V with ak:=V.ak.set i (y,t) }:=by
  refine⟨r.o.i0.aC fun j hj=>kp j (.inl (by rw[←hj];simp[l1])) (ns2 j (.inl (by rw[←hj];simp))),r.o.i1.aC fun j hj=>kp j (.inl (by rw[←hj];simp[l1])) (ns2 j (.inl (by rw[←hj];simp))),hs,
   r.o.i3.aC fun j hj=>kp j (.inl (by rw[←hj];simp[l1])) (ns2 j (.inr (by rw[←hj];simp))),r.o.i4.aC fun j hj=>kp j (.inl (by rw[←hj];simp[l1])) (ns2 j (.inr (by rw[←hj];simp))),r.o.i5.aC fun j hj=>kp j (.inl (by rw[←hj];simp[l1])) (ns2 j (.inr (by rw[←hj];simp))),?_,?_,?_,?_⟩
  ·intro x hx;obtain⟨n,hn,rfl⟩:=ZE hx;have UJ:n < V.ak.length:=by simpa using hn
   by_cases hni:n=i
   ·subst hni;simp only[Zu];exact ht
   ·simp only[ZV (YP hni)];refine(r.o.e2 _ (XJ UJ)).aC fun j hj=>kp j ?_ (ns2 j (.inr ?_))
    ·rcases Nat.lt_or_gt_of_ne hni with hlt| hlt
     ·left
      refine XC.2 (.inr (X2.2 ⟨V.ak[n],?_,hj⟩));exact List.mem_take_iff_getElem.2 ⟨n,Om,rfl⟩
     ·right
      simp only[l2,XC];refine .inl (.inl (X2.2 ⟨V.ak[n],?_,hj⟩));exact List.mem_drop_iff_getElem.2 ⟨n - (i+1),Om,by congr 1;omega⟩
    ·simp only[XC];exact .inr (.inl (.inl (X2.2 ⟨V.ak[n],XJ UJ,hj⟩)))
  ·intro x hx;refine(r.o.e3 x hx).aC fun j hj=>kp j (.inr ?_) (ns2 j (.inr ?_))
   ·simp only[l2,XC];exact .inl (.inr (X2.2 ⟨x,hx,hj⟩))
   ·simp only[XC];exact .inr (.inl (.inr (X2.2 ⟨x,hx,hj⟩)))
  ·intro x hx;refine(r.o.e4 x hx).aC fun j hj=>kp j (.inr ?_) (ns2 j (.inr ?_))
   ·simp only[l2,XC];exact .inr (X2.2 ⟨x,hx,hj⟩)
   ·simp only[XC];exact .inr (.inr (X2.2 ⟨x,hx,hj⟩))
  ·show kP { V with ak:=V.ak.set i (y,t) }.bl;rw[Vn];refine Ra.wI fun j hj=>.inr ⟨fun z hz e=>?_,fun z hz e=>?_⟩
   ·subst e;have:=hlt j (.inl hz);have:=hnt j hj;omega
   ·subst e;have:=hlt j (.inr hz);have:=hnt j hj;omega
 have hne:=r.ne;rw[hV]at hne;refine⟨own,r.hN,?_,fun hb=>?_⟩
 ·have n1:sB V.s2≠some b:=fun e=>hne (iK (.inl (by rw[←e];simp[l1])))
  have n2:sB V.ak[i].2≠some b:=fun e=>hne (by rw[e];simp)
  exact(hk b r.lt n1 n2).trans r.m
 ·rw[Vn]at hb;rcases uQ hb with z| z| z
  ·exact hne (iK (.inl z))
  ·have:=hnt b z.symm;have:=r.lt;omega
  ·exact hne (iK (.inr z))
set_option maxRecDepth 10000
attribute [local irreducible] WP WC WE WB WR WF WL WG fV
section
variable {P:Program} (T:fA P) {h:ah}
include T
theorem r266{L s}(hs:aK h s 1 (L.map au))(hl:L.length < 2^63)(n:By):aA P 266 [s,.str n] h (fun v _=>v= .i (cS (fun y=>decide (n=y)) L)):=by
 refine .eF 19 T.mix T.c266 ?_;intro ts hlen t0 t1;unfold fn266;refine Rs (A3 t0 t1 hs.aP) ?_;refine WL.inv T.mix (fun m ts h'=>∃k:Nat,k≤L.length∧m=L.length - k∧h' =h∧L.findIdx? (fun y=>decide (n=y))= ((L.drop k).findIdx? (fun y=>decide (n=y))).map (· +k)∧ts.length=19∧slot ts 0=s∧slot ts 1= .str n∧slot ts 7= .i L.length∧slot ts 8= .i k) L.length
  ⟨0,Om,rfl,rfl,Si,Sn,(Sq t0),(Sq t1),(Sq t0),iF⟩ ?_
 rintro _ ts _ ⟨k,hk,rfl,rfl,hi,hlen,t0,t1,t7,t8⟩;by_cases hlt:k < L.length
 ·have hd:L.drop k=L[k]::L.drop (k+1):=Si
  have e3:=fk hlt;have ix:=hs.dG (kk:=.i64) hlt;have ld:=hs.kO (i:=k) (x:=.str L[k]) hlt rfl (Ext.refl _);have e5:IntKind.i64.wrap ((k:Int)+1)= ((k+1:Nat):Int):=wrapN Om;by_cases hp:n=L[k]
  ·have q:decide (n=L[k])=true:=Xz hp;refine Rs (A8 t0 t1 t7 t8 e3 ix @ld q) ?_;rw[cS,hi,hd,ZM,q];simp
  ·have q:decide (n=L[k])=false:=Xu hp;refine Rs (A9 t0 t1 t7 t8 e3 ix @ld q e5) ?_;refine⟨_,?_,k+1,Om,rfl,?_,rfl⟩
   ·omega
   ·rw[hi,hd,ZM,q];exact PB
 ·have e3:=gq hlt;have e4:k=L.length:=Om
  refine Rs (A5 t0 t1 t7 t8 e3) ?_;rw[cS,hi,e4,Ys];rfl
theorem r242{L:List (By)}{s:AV}(hs:aK h s 1 (L.map au))(hl:L.length < 2^63)(n:By):aA P 242 [s,.str n] h (fun v _=>v= .bool (decide (n∈L))):=by
 refine .eF 9 T.mix T.c242 ?_;intro ts hlen t0 t1;unfold fn242 pq;refine Rs (A2 t0 t1) ?_;refine WF.ce T.c266 (r266 T hs hl n) fun g1=>?_
 refine Rs (A2 t0 t1) ?_;rw[nM];congr 1;rw[Bool.eq_iff_iff];simp[Y9]
end
attribute [local irreducible] WM
section
variable {P:Program} (T:fA P) {B g:ah} {b:Nat} {V:RV} {x:EV}
include T
theorem NX(r:bW B.length (B++g) b V)(c:Cx (B++g) V x .copy):db P 158 [.ptr b 0,.agg x.row] (B++g) (fun _ k=>te B b V x.ev .copy k):=by
 refine .eF 50 T.mix T.c158 ?_;intro ts hlen t0 t1;unfold fn158;have hex:=@bo.box _ _ c.e;have lb:∀{k n a},Ext (B++g) k→ao n (.ptr b a) (fun z=>k[z]?)=cp n a (.b V.row):=fun {_ _ _} e=>an (e.some r.m)
 have i0:aZ 1 x.sn (.i 0)=_:=(c.nm (i:=0) De).1;have d0:=@(c.nm (i:=0) De).2;have i1:aZ 1 x.sn (.i 1)=_:=(c.nm (i:=1) De).1;have d1:=@(c.nm (i:=1) De).2;have Sz:V.ak.length≤64:=by have:=c.w.l2;simpa [RV.ar]using this
 have htp:∀y∈V.ak,y.1.aJ.length < 2^30:=fun y hy=>(c.w.vS.sh y hy).2
 refine Rs (mX t0 t1 @hex @lb @eJ @aO @i0 @d0 @i1 @d1 c.o.i2.aP) ?_;obtain⟨a,ha⟩:∃a,a=aN x.ev 0:=⟨_,rfl⟩;obtain⟨z,hz⟩:∃z,z=aN x.ev 1:=⟨_,rfl⟩;rw[←ha,←hz];refine WL.inv T.mix (fun n ts h'=>∃ (k:Nat) (g':ah) (U:RV),k≤V.ak.length∧n=V.ak.length - k∧h' =B++g'∧bW B.length (B++g') b U∧U.s2=V.s2∧U.ak.length=V.ak.length∧
   { U.ar with ak:=V.ar.ak } =V.ar∧(∀i (hi:i < U.ak.length) (hi':i < V.ak.length),(U.ak[i]).1=if i < k then ka a z (V.ak[i]).1 else(V.ak[i]).1)∧
   ts.length=50∧slot ts 0= .ptr b 0∧slot ts 4= .str a∧slot ts 5= .str z∧slot ts 19=V.s2∧slot ts 20= .i V.ak.length∧slot ts 21= .i k) V.ak.length
  ⟨0,g++ [aq.b x.row],V,Om,rfl,by rw[Xt],by rw[←Xt];exact r.app _,rfl,rfl,rfl,fun i hi hi'=>by rw[XG Om],Sn,(Sq t0),(Sq t0),(Sq t0),(Sq t0),(Sq t0),iF⟩ ?_
 clear t0 t1 hlen i0 d0 i1 d1 hex lb;clear ts;rintro _ ts _ ⟨k,g',U,hk,rfl,rfl,rU,QV,Sr,hreg,hU,hlen,t0,t4,t5,t19,t20,t21⟩;by_cases hlt:k < V.ak.length
 ·have Tw:k < U.ak.length:=Om
  have e3:=fk hlt;have e5:IntKind.i64.wrap ((k:Int)+1)= ((k+1:Nat):Int):=wrapN Om;have oU:=rU.o.ok;have ix:aZ 3 V.s2 (.i (k:Int))=some (cV V.s2 3 k,.az):=by rw[←QV];exact oU.i2.dG Tw
  have ld:∀{k':ah},Ext (B++g') k'→ao (some 3) (cV V.s2 3 k) (fun b=>k'[b]?)=some (.agg (bg U.ak[k]),.az):=fun {k'} e=>by rw[←QV];exact oU.i2.kB Tw e
  have Ru:U.ak[k]∈U.ak:=XJ _;have hx1: (U.ak[k]).1= (V.ak[k]).1:=by rw[hU k Tw hlt,XG Om]
  have hxl: (U.ak[k]).1.aJ.length < 2^30:=by rw[hx1];exact htp _ (XJ _)
  have Uk:=rU.o.e2 _ Ru;have next:∀ (U2:RV),U2.ak.length=V.ak.length→(∀i (hi:i < U2.ak.length) (hi':i < U.ak.length),(U2.ak[i]).1=if i=k then ka a z (U.ak[i]).1 else(U.ak[i]).1)→
    ∀i (hi:i < U2.ak.length) (hi':i < V.ak.length),(U2.ak[i]).1=if i < k+1 then ka a z (V.ak[i]).1 else(V.ak[i]).1:=by
   intro U2 a3 a5 i hi hi';exact Pr
  obtain⟨y,hy⟩:∃y,y=U.ak[k]:=⟨_,rfl⟩;rw[←hy]at ld Uk hxl;have oy:=Uk.a8.one;unfold bg at ld;refine Rs (mY t0 t4 t5 t19 t20 t21 e3 ix @ld @oy) ?_;refine WF.ce T.c242 (r242 T (Uk.a8.ext Xx) Om a) fun g1=>?_
  by_cases h1:a∈y.1.aJ
  case neg=>
   have q1:decide (a∈y.1.aJ)=false:=Xu h1;rw[q1];refine Rs (A7 t0 t4 t5 t19 t20 t21 e5) ?_;have TN:B++g'++ [aq.b [AV.str y.1.name,.str y.1.line,y.2]]++g1=B++ (g'++ [aq.b [AV.str y.1.name,.str y.1.line,y.2]]++g1):=by simp only[Xt]
   refine⟨_,Om,k+1,_,U,Om,rfl,TN,by rw[←TN];exact(rU.app _).app _,QV,Sr,hreg,next U Sr (fun i hi hi'=>?_),rfl⟩;split
   ·rename_i Sh;subst Sh;rw[←hy,ka,XG (fun w=>h1 w.1)]
   ·rfl
  have q1:decide (a∈y.1.aJ)=true:=Xz h1;rw[q1];refine Rs (A6 t0 t4 t5 t19 t20 t21) ?_;refine WF.ce T.c242 (r242 T (Uk.a8.ext Xx) Om z) fun g2=>?_
  by_cases h2:z∈y.1.aJ
  ·have q2:decide (z∈y.1.aJ)=true:=Xz h2;rw[q2];refine Rs (A8 t0 t4 t5 t19 t20 t21 @XW e5) ?_;have TN:B++g'++ [aq.b [AV.str y.1.name,.str y.1.line,y.2]]++g1++g2=B++ (g'++ [aq.b [AV.str y.1.name,.str y.1.line,y.2]]++g1++g2):=by simp only[Xt]
   refine⟨_,Om,k+1,_,U,Om,rfl,TN,by rw[←TN];exact((rU.app _).app _).app _,QV,Sr,hreg,next U Sr (fun i hi hi'=>?_),rfl⟩;split
   ·rename_i Sh;subst Sh;rw[←hy,ka,XG (fun w=>w.2 h2)]
   ·rfl
  have q2:decide (z∈y.1.aJ)=false:=Xu h2;rw[q2];refine Rs (A7 t0 t4 t5 t19 t20 t21 @XY) ?_;obtain⟨xb,hxb⟩:∃xb,xb= (B++g').length:=⟨_,rfl⟩;obtain⟨G,hG⟩:∃G,G=g'++ [aq.b [AV.str y.1.name,.str y.1.line,y.2]]++g1++g2:=⟨_,rfl⟩;have TN:B++g'++ [aq.b [AV.str y.1.name,.str y.1.line,y.2]]++g1++g2=B++G:=by rw[hG];simp only[Xt]
  have hex:Ext (B++g') (B++G):=by rw[←TN];exact Xx
  have mx: (B++G)[xb]? =some (.b [AV.str y.1.name,.str y.1.line,y.2]):=by
   rw[←TN,hxb,Xt _ g1,Xv Si,XE Om];simp
  have mb: (B++G)[b]? =some (.b U.row):=hex.some rU.m;have hfx2:Fr B.length (B++G) y.2 1 (y.1.aJ.map au):=by rw[←TN];exact((Uk.app _).app _).app _
  have hs22:Fr B.length (B++G) V.s2 3 (U.ak.map bg):=by rw[←TN,←QV];exact((rU.o.i2.app _).app _).app _
  rw[TN,←hxb];refine om (fun h=>h[b]? =some (.b U.row)∧h[xb]? =some (.b [AV.str y.1.name,.str y.1.line,y.2])) ?_;have hS: (fun h:ah=>h[b]? =some (.b U.row)∧h[xb]? =some (.b [AV.str y.1.name,.str y.1.line,y.2])) (B++G):=⟨mb,mx⟩;refine c7 hS rfl rfl ?_;refine Rs t0 ?_;refine c7 hS rfl rfl ?_;refine Rs t0 ?_;refine c7 hS rfl rfl ?_;refine Rs t0 ?_;refine kD hS (v:=V.s2) (fun g hg=>?_) ?_
  ·simp only[aV,bd,bD,bE,reduceAdd,reduceMul,reduceLeDiff,reduceEqDiff,bF,hlen,XO,XR,t0,an hg.1,eJ,QV]
  refine Rs t0 ?_;refine c7 hS rfl rfl ?_;refine Rs t0 ?_;refine c7 hS rfl rfl ?_;refine Rs t0 ?_;refine kD hS (v:=y.2) (fun g hg=>?_) ?_
  ·simp only[aV,bd,bD,bE,reduceAdd,reduceMul,reduceLeDiff,reduceEqDiff,bF,hlen,XO,XR,t0,an hg.2]
  refine Rs t0 ?_;refine c7 hS rfl rfl ?_;refine Rs (A2 t0 t5) ?_;obtain⟨zr,hzr⟩:∃zr,zr=au z:=⟨_,rfl⟩;have hS2: (fun h:ah=>h[b]? =some (.b U.row)∧h[xb]? =some (.b [AV.str y.1.name,.str y.1.line,y.2])) (B++G++ [aq.cells [.str z] true true]):=⟨(Ext.app _ (Ext.refl _)).some mb,(Ext.app _ (Ext.refl _)).some mx⟩;have hxlt:xb < (B++G).length:=by
   rw[←TN,hxb];simp only[Xs,Xy,XA];omega
  refine c7 hS rfl rfl ?_;refine Rs t0 ?_;refine c7 hS2 rfl rfl ?_;refine Rs t0 ?_;refine WR.fw (h0:=B) (cs:=y.1.aJ.map au) (ys:=[au z]) (hfx2.app _) (Fr.push (N:=0) (X3 _) [au z] (by simp[au])).a8 De Si (by simp only[XB,Xy,XA];omega) (by rw[Xt];exact⟨_,rfl⟩) ?_;intro g3 WZ hff hkp;have hrow:y.1.aJ.map au++ [au z]= (y.1.aJ++ [z]).map au:=by rw[XD];rfl
  rw[hrow]at hff;rw[hrow];obtain⟨t',ht'⟩:∃t',t' =AV.slice (B++G++ [aq.cells [.str z] true true]).length 0 ((y.1.aJ++ [z]).map au).length 1:=⟨_,rfl⟩;rw[←ht']at hff;rw[←ht'];have o1:t'.one=true:=by rw[ht'];rfl
  have hGl: (B++g').length≤(B++G).length:=hex.len;have hty:sB t' =some (B++G++ [aq.cells [.str z] true true]).length:=by rw[ht'];rfl
  have hbl:=rU.lt;have Tg:sB y.2≠some b:=fun e=>rU.ne (by rw[←e,RV.bl,hy];simp only[XC,X2];exact .inl (.inl (.inr ⟨_,Ru,rfl⟩)))
  have RW:∀i,sB y.2=some i→i < xb:=fun i hi=>by rw[hxb];exact(Uk.bN hi).2
  have hk3:∀i,i < (B++G).length→sB y.2≠some i→(B++g3)[i]? = (B++G)[i]? :=fun i hi hne=>by
   rw[hkp i (by simp only[Xs]at hi ⊢;omega) (fun b0 o n e he z=>hne (by rw[he,z];rfl)),Xv hi]
  have hS3: (fun h:ah=>h[b]? =some (.b U.row)∧h[xb]? =some (.b [AV.str y.1.name,.str y.1.line,y.2])) (B++g3):=
   ⟨(hk3 b Om Tg).trans mb,(hk3 xb hxlt (fun e=>by have:=RW _ e;omega)).trans mx⟩
  have hsy:∀j,sB V.s2=some j→sB y.2≠some j:=fun j hj e=>by
   have Vi:kP ([sB U.s0,sB U.s1]++sB U.s2:: ([sB U.s3,sB U.s4,sB U.s5]++ ((U.ak.map fun x=>sB x.2)++ (U.aE.map fun x=>sB x.2)++ (U.aH.map fun x=>sB x.2)))):=by
    have:=rU.o.di;simp only[RV.bl]at this
    simpa using this
   obtain⟨_,a2,_⟩:=YG.1 Vi;refine(Yv.1 a2).1 (sB y.2) ?_ j (by rw[QV];exact hj) e;simp only[XC,X2];exact .inr (.inl (.inl ⟨_,Ru,by rw[←hy]⟩))
  have hs23:Fr B.length (B++g3) V.s2 3 (U.ak.map bg):=hs22.aC fun i hi=>hk3 i (hs22.bN hi).2 (hsy i hi)
  refine Rs t0 ?_;refine oh hS3 rfl ?_;refine Rs (A3 t0 ix @o1) ?_;have hkU:k < U.ak.length:=Tw;refine WR.uG (h0:=B) (x':=(⟨y.1.name,y.1.line,y.1.aJ++ [z]⟩,t')) (row:=bg) hs23 Tw De o1 (by rw[←hy];rfl) ?_;intro g4 hl4 hff4 hkp4;have hk4:∀i,i < (B++g').length→sB V.s2≠some i→sB y.2≠some i→(B++g4)[i]? = (B++g')[i]? :=fun i hi n1 n2=>by
   rw[hkp4 i (fun b0 o n e he z=>n1 (by rw[he,z];rfl)),hk3 i Om n2];exact hex.get hi
  have nb2:sB V.s2≠some b:=fun e=>rU.ne (by rw[←e,←QV];simp[RV.bl])
  have ht4:Fr B.length (B++g4) t' 1 ((y.1.aJ++ [z]).map au):=hff.aC fun i hi=>by
   rw[hty]at hi;cases hi;refine hkp4 _ (fun b0 o n e he zz=>?_);have:=(rU.o.i2.bN (show sB U.s2=some b0 by rw[QV,he];rfl)).2;have h3: (B++g').length≤(B++G++ [aq.cells [.str z] true true]).length:=by simp only[Xs]at hGl ⊢;omega
   omega
  refine Rs (A7 t0 t4 t5 t19 t20 t21 e5) ?_;refine⟨_,Om,k+1,g4,{ U with ak:=U.ak.set k (⟨y.1.name,y.1.line,y.1.aJ++ [z]⟩,t') },Om,rfl,rfl,rU.PF Tw (by rw[QV];exact hff4) ht4 (fun j hj=>?_) (fun j hj n1 n2=>hk4 j hj (by rw[←QV];exact n1) (by rw[hy];exact n2)),QV,(by simp only[Yd];exact Sr),hreg,next _ (by simp only[Yd];exact Sr) (fun i hi hi'=>?_),rfl⟩
  ·rw[hty]at hj;cases hj;simp only[Xs]at hGl ⊢;omega
  ·by_cases Sh:i=k
   ·subst Sh;simp only[Zu,XR];rw[←hy,ka,XI ⟨h1,h2⟩]
   ·exact z196
 ·have e3:decide ((k:Int)< V.ak.length)=false:=Xu Om;have e4:k=V.ak.length:=Om
  refine Rs (A8 t0 t4 t5 t19 t20 t21 e3 @eM) ?_;refine⟨g',U,rfl,rU,?_⟩;exact PA
end
def HV.now(V:HV):RV:=V.cO.getLastD RV.zero
def HV.jq(V:HV):V.now.ar=V.bS.now:=by
 rw[HV.now,HV.bS,ki.now];show _= (V.cO.map RV.ar).getLastD gJ.zero;rw[Ze,Ze,List.getLast?_map];cases V.cO.getLast? <;>rfl
structure yK(h:ah)(b:Nat)(V:HV):Prop where
 hb:h[b]? =some (.b [V.se,V.sc,V.sr])
 ie:aK h V.se 5 (V.de.map EV.row)
 ic:aK h V.sc 5 (V.fc.map EV.row)
 ig:aK h V.sr 7 (V.cO.map RV.row)
 ae:∀x∈V.de,bo h x
 ac:∀x∈V.fc,bo h x
 ag:∀x∈V.cO,aD h x
theorem yK.ext{h k b V}(o:yK h b V)(e:Ext h k):yK k b V:=
 ⟨e.some o.hb,o.ie.ext e,o.ic.ext e,o.ig.ext e,fun x hx=>(o.ae x hx).ext e,fun x hx=>(o.ac x hx).ext e,fun x hx=>(o.ag x hx).ext e⟩
def cF.rd{N h b V}(o:cF N h b V):yK h b V:=
 ⟨o.hb,o.oe.a8,o.oc.a8,o.og.a8,fun x hx=>(o.ae x hx).sub (jg.fy _ _),fun x hx=>(o.ac x hx).sub (jg.fy _ _),fun x hx=>(o.ag x hx).sub (jg.fy _ _)⟩
theorem yK.now{h b V}(o:yK h b V):aD h V.now:=by
 rw[HV.now,Ze];cases hx:V.cO.getLast? with
 | none=>exact aD.zero
 | some R=>exact o.ag R (List.mem_of_getLast? hx)
def aD.st{h V}(o:aD h V){b a0 a1 a2 a3 a4 a5 a6 tl}:kL 7 0 (.agg V.row) b (.cells [a0,a1,a2,a3,a4,a5,a6] true tl)=some (aB,.set b (.cells V.row true tl)):=by
 refine(tn (l:=V.row) rfl o.row (by show 0+7≤7;omega)).trans ?_;rfl
def bo.st{h x}(o:bo h x){b a0 a1 a2 a3 a4 tl}:kL 5 0 (.agg x.row) b (.cells [a0,a1,a2,a3,a4] true tl)=some (aB,.set b (.cells x.row true tl)):=by
 refine(tn (l:=x.row) rfl o.row (by show 0+5≤5;omega)).trans ?_;rfl
def Hd{e d}(hd:d≠.e8):e.kind=bz d↔oT e=d:=by
 rw[oT];constructor
 ·intro h;rw[h,lI];rfl
 ·intro h;cases hk:gF e.kind with
  | none=>rw[hk]at h;exact absurd h.symm hd
  | some c=>rw[hk]at h;cases h;exact cw hk
structure lz(H:ki):Prop where
 rg:∀R∈H.cO,fo R
 ln:H.cO.length=H.fc.length
 le:H.fc.length≤H.de.length
 ev:∀e∈H.de,∃d,kC e d
 cn:∀e∈H.fc,∃d,kC e d
theorem lz.zero:lz ki.zero:=by
 refine⟨?_,rfl,XH _,?_,?_⟩
 all_goals intro x hx;cases hx
theorem lz.now{H}(w:lz H):fo H.now:=by
 rw[ki.now,Ze];cases hx:H.cO.getLast? with
 | none=>exact fo.zero
 | some R=>exact w.rg R (List.mem_of_getLast? hx)
section
variable {P:Program} (T:fA P)
include T
theorem EZ{B g b V x d ro ks ts Q dd l}(hd:d≠.e8)(r:bW B.length (B++g) b V)(c:Cx (B++g) V x d)(hc:bB V.ar x.ev d=0)(gl:Gl (B++g))
  (K:∀v h',te B b V x.ev d h'→WP P ro l ks (put ts dd v) h' Q):WF P ro false (nK d) [.ptr b 0,.agg x.row] dd l ks ts (B++g) Q:=by
 cases d with
 | e8=>exact absurd rfl hd
 | line=>exact WF.gen (a:=[]) (c:=[]) T.c149 (N1 T r c) K
 | tape=>exact WF.gen (a:=[]) (c:=[]) T.c152 (NZ T r c) K
 | fY=>exact WF.gen (a:=[]) (c:=[]) T.c156 (NY T r c) K
 | copy=>exact WF.gen (a:=[]) (c:=[]) T.c158 (NX T r c) K
 | accept=>exact WF.gen (a:=[]) (c:=[]) T.c160 (NW T r c) K
 | source=>exact WF.gen (a:=[]) (c:=[]) T.c162 (NV T r c) K
 | fL=>exact WF.gen (a:=[]) (c:=[]) T.c164 (NU T r c hc gl) K
 | merge=>exact WF.gen (a:=[]) (c:=[]) T.c166 (NT T r c) K
 | run=>exact WF.gen (a:=[]) (c:=[]) T.c168 (NS T r c hc) K
 | fK=>exact WF.gen (a:=[]) (c:=[]) T.c170 (NR T r c hc) K
 | fail=>exact WF.gen (a:=[]) (c:=[]) T.c172 (NQ T r c hc) K
 | fZ=>exact WF.gen (a:=[]) (c:=[]) T.c174 (NP T r c) K
 | rel=>exact WF.gen (a:=[]) (c:=[]) T.c176 (NO T r c) K
variable {h:ah}
theorem r79{V b}(o:yK h b V)(hl:V.cO.length≤1000):aA P 79 [.ptr b 0] h (fun v _=>v= .agg V.now.row):=by
 refine .kE 20 T.mix T.c79 ?_;intro ts hlen t0;unfold fn79;have hb:=o.hb;have lb:∀{k n a},Ext h k→ao n (.ptr b a) (fun z=>k[z]?)=cp n a (.b [V.se,V.sc,V.sr]):=fun {_ _ _} e=>an (e.some hb)
 refine Rs (A3 t0 @lb o.ig.aP) ?_;rcases List.eq_nil_or_concat V.cO with hn| ⟨L,R,hn⟩
 ·have QG:V.cO.length=0:=by rw[hn];rfl
  have e1:decide ((0:Int)< (V.cO.length:Int))=false:=Xu Om;refine Rs (A2 t0 e1) ?_;rw[HV.now,hn];rfl
 ·have hlenR:V.cO.length=L.length+1:=by rw[hn];simp
  have e1:decide ((0:Int)< (V.cO.length:Int))=true:=Xz Om;have e2:IntKind.i64.wrap ((V.cO.length:Int) - 1)= (L.length:Int):=by rw[bp Om Om];omega
  have Vp:L.length < V.cO.length:=Om
  have ix:=o.ig.dG (kk:=.i64) Vp;have ld:∀{k':ah},Ext h k'→_:=fun {k'} e=>o.ig.kB Vp e
  have hR:V.cO[L.length]=R:=by simp only[hn];simp
  rw[hR]at ld;have st:=@aD.st h R (o.ag R (by rw[hn];simp));refine Rs (A8 t0 e1 e2 @lb ix @ld @st @aF) ?_;rw[HV.now,hn];simp
theorem r116{V b x d}(o:yK h b V)(w:lz V.bS)(hl:V.de.length≤1000)(ox:bo h x)(wx:kC x.ev d)(gl:Gl h):
  aA P 116 [.ptr b 0,.agg x.row] h (fun v _=>v= .i (jT V.bS x.ev)):=by
 have hcl:V.fc.length≤V.de.length:=by have:=w.le;simpa [HV.bS]using this
 have RM:V.cO.length=V.fc.length:=by have:=w.ln;simpa [HV.bS]using this
 refine .eF 106 T.mix T.c116 ?_;intro ts hlen t0 t1;unfold fn116;have hb:=o.hb;have lb:∀{k n a},Ext h k→ao n (.ptr b a) (fun z=>k[z]?)=cp n a (.b [V.se,V.sc,V.sr]):=fun {_ _ _} e=>an (e.some hb)
 have hex:=@bo.box _ _ ox;have ew:IntKind.i64.wrap ((V.de.length:Int)+1)= (V.de.length:Int)+1:=bp Om Om;by_cases h1:x.ev.num= (V.de.length:Int)+1
 case neg=>
  have q1:decide (x.ev.num≠(V.de.length:Int)+1)=true:=Xz h1;refine Rs (A8 t0 t1 @lb @hex @mN o.ie.aP @ew q1) ?_;rw[jT,XI (by simpa [HV.bS]using h1)]
 have q1:decide (x.ev.num≠(V.de.length:Int)+1)=false:=Xu (fun z=>z h1);have Qu:oT x.ev=d:=by rw[oT,wx.kd];rfl
 rw[jT,XG (by simpa [HV.bS]using h1),Qu];by_cases h2:d= .e8
 ·have q2:decide (x.ev.kind= [117,110,100,111])=true:=Xz (by rw[cw wx.kd,h2];rfl);rw[XI h2];refine Rs (mX t0 t1 @lb @hex @mN @bA o.ie.aP o.ic.aP @ew q1 q2) ?_;rcases List.eq_nil_or_concat V.fc with hn| ⟨L,c,hn⟩
  ·have QG:V.fc.length=0:=by rw[hn];rfl
   have e1:decide ((V.fc.length:Int)=0)=true:=Xz Om;refine Rs (A2 t0 e1) ?_;simp only[HV.bS,hn];rfl
  ·have hlenR:V.fc.length=L.length+1:=by rw[hn];simp
   have e1:decide ((V.fc.length:Int)=0)=false:=Xu Om;have e2:IntKind.i64.wrap ((V.fc.length:Int) - 1)= (L.length:Int):=by rw[bp Om Om];omega
   have Vp:L.length < V.fc.length:=Om
   have ix:=o.ic.dG (kk:=.i64) Vp;have hR:V.fc[L.length]=c:=by simp only[hn];simp
   have lf:∀{k':ah},Ext h k'→ao none (lh V.sc 5 L.length 1) (fun b=>k'[b]?)=some (.str c.ev.kind,.az):=fun {k'} e=>by
    refine o.ic.pG Vp ?_ e;rw[hR];rfl
   refine Rs (A6 t0 e1 e2 @lb ix @lf) ?_;refine WF.ce T.c85 (r85 T _ _) fun g1=>?_
   refine Rs t0 ?_;have e3:decide (c.ev.kind= [114,101,108,101,97,115,101])=decide (oT c.ev= .rel):=Zi.2 (Hd (d:=.rel) De);have e4:V.bS.fc.getLast? =some c.ev:=by simp[HV.bS,hn]
   rw[e3,e4];by_cases h5:oT c.ev= .rel<;>simp[bX,h5]
 have q2:decide (x.ev.kind= [117,110,100,111])=false:=Xu fun z=>h2 (by
  have:=wx.kd;rw[z]at this;exact(Yu ((lI .e8).symm.trans this)).symm)
 rw[XG h2,←V.jq];have wn:fo V.now.ar:=by rw[V.jq];exact w.now
 have on:=o.now;have ltk:0 < cB d:=by cases d<;>first| exact absurd rfl h2| decide
 have Q9:0 < x.ev.cC.length:=by rw[wx.vl];exact ltk
 have qa:aZ 1 x.sv (.i 0)=some (cV x.sv 1 0,.az):=ox.v.qa Q9;have ev0:bI x.ev 0=x.ev.cC[0]:=by rw[bI,Yc,Xw Q9];rfl
 have ld0:∀{k':ah},Ext h k'→ao none (cV x.sv 1 0) (fun b=>k'[b]?)=some (.i (bI x.ev 0),.az):=fun {k'} e=>by
  rw[ev0];exact ox.v.kO Q9 rfl e
 refine Rs (mX t0 t1 @lb @hex @mN @bA o.ie.aP o.ic.aP @ew q1 q2) ?_;refine WF.ce T.c79 (r79 T (o.ext Xx) Om) fun g1=>?_
 have st:=@aD.st h V.now on;rw[je];by_cases h3:bI x.ev 0 < V.now.ar.tick
 ·have q3:decide (bI x.ev 0 < V.now.tick)=true:=Xz h3;refine Rs (A8 t0 t1 @st @r9 @aY @qa @ld0 q3) ?_;rw[XI h3]
 have q3:decide (bI x.ev 0 < V.now.tick)=false:=Xu h3;rw[XG h3];refine Rs (A8 t0 t1 @st @r9 @aY @qa @ld0 q3) ?_;refine WF.res T.c90 (r90 T) ?_;rintro _ g2 ⟨vf,rfl,hk⟩;obtain⟨H,hH⟩:∃H,H=h++ [aq.b x.row]++g1++ [aq.b V.now.row]:=⟨_,rfl⟩;obtain⟨eb,heb⟩:∃eb,eb=h.length:=⟨_,rfl⟩;obtain⟨rb,U3⟩:∃rb,rb= (h++ [aq.b x.row]++g1).length:=⟨_,rfl⟩;have mr: (H++g2)[rb]? =some (.b V.now.row):=by rw[hH,U3];exact(Ext.app _ (Ext.refl _)).some bf
 have me: (H++g2)[eb]? =some (.b x.row):=by rw[hH,heb];exact(show Ext (h++ [aq.b x.row]) _ from Xx).some bf
 rw[←hH]at hk ⊢;rw[←heb,←U3];have lk:∀{z:AV},gV .s z false (.map H.length) (.str x.ev.kind) (fun b=>(H++g2)[b]?)=k5 z false ((gF x.ev.kind).map vf):=hk.look;rw[wx.kd]at lk;have QY:∀{z:AV},_=some (vf d,ia.az):=@lk;obtain⟨rs,a,hv,hr,ha,hab⟩:=(hk.k d).ex;rw[hv]at QY;have c1:=lJ d;have c2:=k9 d;have c3:=hr.one;have le:∀{k n a},Ext (H++g2) k→ao n (.ptr eb a) (fun z=>k[z]?)=cp n a (.b x.row):=fun {_ _ _} e=>an (e.some me)
 have lr:∀{k n a},Ext (H++g2) k→ao n (.ptr rb a) (fun z=>k[z]?)=cp n a (.b V.now.row):=fun {_ _ _} e=>an (e.some mr)
 refine Rs (pU t0 t1 @le @bA @bT @QY @c1 @c2 @c3 @ha hr.aP @hP) ?_;obtain⟨L,hL⟩:∃L,L=bL d:=⟨_,rfl⟩;have hnl:x.ev.names.length=L.length:=by rw[hL];exact wx.nl
 have Vp:L.length≤3:=by rw[hL];cases d<;>decide
 have VW:∀r∈L,r.1 < 6:=by rw[hL];cases d<;>decide
 rw[←hL]at hr ⊢;obtain⟨kb,hkb⟩:∃kb,kb= (H++g2).length:=⟨_,rfl⟩;have hex:Ext h (H++g2):=by rw[hH];exact Xx
 have Tp:Ext (H++g2) (H++g2++ [aq.b [rs,.i (cB d:Int),jr d,nK d,a]]):=Xx;have mk: (H++g2++ [aq.b [rs,.i (cB d:Int),jr d,nK d,a]])[kb]? =some (.b [rs,.i (cB d:Int),jr d,nK d,a]):=by rw[hkb];exact bf
 obtain⟨H2,Us⟩:∃H2,H2=H++g2++ [aq.b [rs,.i (cB d:Int),jr d,nK d,a]]:=⟨_,rfl⟩;rw[←Us]at mk Tp;have hx3:Ext h H2:=hex.trans Tp;have lk:∀{k n a'},Ext H2 k→ao n (.ptr kb a') (fun z=>k[z]?)=cp n a' (.b [rs,.i (cB d:Int),jr d,nK d,a]):=fun {_ _ _} e=>an (e.some mk)
 rw[←Us,←hkb];have Tk:∀ (i:Nat) (hi:i < L.length),aZ 1 x.sn (.i (i:Int))=some (cV x.sn 1 i,.az):=fun i hi=>ox.n.dG Om
 have hld:∀ (i:Nat) (hi:i < L.length) (k':ah),Ext h k'→ao none (cV x.sn 1 i) (fun b=>k'[b]?)=some (.str (aN x.ev i),.az):=fun i hi k' e=>by
  exact z72
 refine WL.inv T.mix (fun m ts h'=>∃k:Nat,k≤L.length∧m=L.length - k∧Ext H2 h'∧mw V.now.ar x.ev L 0=mw V.now.ar x.ev (L.drop k) k∧ts.length=106∧slot ts 3= .ptr eb 0∧slot ts 6= .ptr rb 0∧slot ts 7= .ptr kb 0∧slot ts 56=rs∧slot ts 57= .i L.length∧slot ts 58= .i k) L.length
  ⟨0,Om,rfl,.refl _,rfl,Sn,Sw,Sw,Sw,Sw,Sw,iF⟩ ?_
 clear t0 t1 hlen lb hb hex le lr;clear ts;rintro _ ts h' ⟨k,hk,rfl,Sv,hu,hlen,t3,t6,t7,t56,t57,t58⟩;have le:∀{k' n a},Ext h' k'→ao n (.ptr eb a) (fun z=>k'[z]?)=cp n a (.b x.row):=fun {_ _ _} e=>an (((Tp.trans Sv).trans e).some me)
 have lr:∀{k' n a},Ext h' k'→ao n (.ptr rb a) (fun z=>k'[z]?)=cp n a (.b V.now.row):=fun {_ _ _} e=>an (((Tp.trans Sv).trans e).some mr)
 by_cases hlt:k < L.length
 ·have e3:=fk hlt;have e5:IntKind.i64.wrap ((k:Int)+1)= ((k+1:Nat):Int):=wrapN Om;have ix:=hr.dG (kk:=.i64) hlt;have ld:∀{k'},Ext h' k'→ao (some 2) (cV rs 2 k) (fun b=>k'[b]?)=some (.agg (fF L[k]),.az):=fun {k'} e=>hr.kB hlt ((Tp.trans Sv).trans e)
  have iy:=Tk k hlt;have ly:∀{k'},Ext h' k'→ao none (cV x.sn 1 k) (fun b=>k'[b]?)=some (.str (aN x.ev k),.az):=fun {k'} e=>hld k hlt k' ((hx3.trans Sv).trans e)
  have hd:L.drop k=L[k]::L.drop (k+1):=Si
  obtain⟨r,T6⟩:∃r,r=L[k]:=⟨_,rfl⟩;have UG:r.1 < 6:=by rw[T6];exact VW _ (XJ _)
  rw[hd,←T6,mw]at hu;rw[←T6,fF]at ld;cases Rv:r.2 with
  | false=>
   rw[Rv]at ld hu;refine Rs (mY t3 t6 t7 t56 t57 t58 e3 ix @ld e5) ?_;exact IV
  | true=>
   rw[Rv]at ld hu;refine Rs (Cu t3 t6 t7 t56 t57 t58 e3 ix @ld @iy @ly @le @lr @aF @aO) ?_;refine WF.ce T.c86 (r86 T ((on.ext (hx3.trans Sv)).ext Xx) wn.len UG _) fun g3=>?_
   cases hh:dD V.now.ar r.1 (aN x.ev k)with
   | true=>
    rw[hh]at hu;refine Rs (A8 t3 t6 t7 t56 t57 t58 @XW e5) ?_;exact IV
   | false=>
    rw[hh]at hu;have hu1:mw V.now.ar x.ev L 0=true:=by rw[hu];rfl
    refine Rs (A7 t3 t6 t7 t56 t57 t58 @XY) ?_;refine⟨(hx3.trans Sv).trans Xx,?_⟩;have e6:kG d V.now.ar x.ev=10:=by rw[kG,←hL,XI hu1]
    rw[e6,XI De]
 ·have e3:=gq hlt;have e4:k=L.length:=Om
  have Th:mw V.now.ar x.ev L 0=false:=by rw[hu,e4,Ys];rfl
  have lk2:∀{k' n a'},Ext h' k'→ao n (.ptr kb a') (fun z=>k'[z]?)=cp n a' (.b [rs,.i (cB d:Int),jr d,nK d,a]):=fun {_ _ _} e=>lk (Sv.trans e)
  refine Rs (A9 t3 t6 t7 t56 t57 t58 e3 @lk2 hr.aP) ?_;have hrH:aK h' rs 2 (L.map fF):=hr.ext (Tp.trans Sv);refine WL.inv T.mix (fun m ts Vq=>∃k:Nat,k≤L.length∧m=L.length - k∧Ext h' Vq∧qu V.now.ar x.ev L 0=qu V.now.ar x.ev (L.drop k) k∧ts.length=106∧slot ts 3= .ptr eb 0∧slot ts 6= .ptr rb 0∧slot ts 7= .ptr kb 0∧slot ts 79=rs∧slot ts 80= .i L.length∧slot ts 81= .i k) L.length
   ⟨0,Om,rfl,.refl _,rfl,Sn,(Sq t3),(Sq t6),(Sq t7),Sw,Sw,iF⟩ ?_
  clear t3 t6 t7 t56 t57 t58 hlen le lr lk2 e3 e4 hu lk;clear hlt hk ts k;rintro _ ts Vq ⟨k,hk,rfl,UY,hu,hlen,t3,t6,t7,t79,t80,t81⟩;have le:∀{k' n a},Ext Vq k'→ao n (.ptr eb a) (fun z=>k'[z]?)=cp n a (.b x.row):=fun {_ _ _} e=>an ((((Tp.trans Sv).trans UY).trans e).some me)
  have lr:∀{k' n a},Ext Vq k'→ao n (.ptr rb a) (fun z=>k'[z]?)=cp n a (.b V.now.row):=fun {_ _ _} e=>an ((((Tp.trans Sv).trans UY).trans e).some mr)
  have lk2:∀{k' n a'},Ext Vq k'→ao n (.ptr kb a') (fun z=>k'[z]?)=cp n a' (.b [rs,.i (cB d:Int),jr d,nK d,a]):=fun {_ _ _} e=>an (((Sv.trans UY).trans e).some mk)
  by_cases hlt:k < L.length
  ·have e3:=fk hlt;have e5:IntKind.i64.wrap ((k:Int)+1)= ((k+1:Nat):Int):=wrapN Om;have ix:=hr.dG (kk:=.i64) hlt;have ld:∀{k'},Ext Vq k'→ao (some 2) (cV rs 2 k) (fun b=>k'[b]?)=some (.agg (fF L[k]),.az):=fun {k'} e=>hrH.kB hlt (UY.trans e)
   have iy:=Tk k hlt;have ly:∀{k'},Ext Vq k'→ao none (cV x.sn 1 k) (fun b=>k'[b]?)=some (.str (aN x.ev k),.az):=fun {k'} e=>hld k hlt k' (((hx3.trans Sv).trans UY).trans e)
   have hd:L.drop k=L[k]::L.drop (k+1):=Si
   obtain⟨r,T6⟩:∃r,r=L[k]:=⟨_,rfl⟩;have UG:r.1 < 6:=by rw[T6];exact VW _ (XJ _)
   rw[hd,←T6,qu]at hu;rw[←T6,fF]at ld;cases Rv:r.2 with
   | true=>
    rw[Rv]at ld hu;refine Rs (mX t3 t6 t7 t79 t80 t81 e3 ix @ld e5 @XW) ?_;exact IW
   | false=>
    rw[Rv]at ld hu;refine Rs (F1 t3 t6 t7 t79 t80 t81 e3 ix @ld @iy @ly @le @lr @aF @aO @XY) ?_;refine WF.ce T.c86 (r86 T ((on.ext ((hx3.trans Sv).trans UY)).ext Xx) wn.len UG _) fun g3=>?_
    cases hh:dD V.now.ar r.1 (aN x.ev k)with
    | false=>
     rw[hh]at hu;refine Rs (A7 t3 t6 t7 t79 t80 t81 e5) ?_;exact IW
    | true=>
     rw[hh]at hu;have hu1:qu V.now.ar x.ev L 0=true:=by rw[hu];rfl
     refine Rs (A6 t3 t6 t7 t79 t80 t81) ?_;refine⟨((hx3.trans Sv).trans UY).trans Xx,?_⟩;have e6:kG d V.now.ar x.ev=9:=by rw[kG,←hL,XG (by rw[Th];decide),XI hu1]
     rw[e6,XI De]
  ·have e3:=gq hlt;have e4:k=L.length:=Om
   have Ww:qu V.now.ar x.ev L 0=false:=by rw[hu,e4,Ys];rfl
   have e6:kG d V.now.ar x.ev=0:=by rw[kG,←hL,XG (by rw[Th];decide),XG (by rw[Ww];decide)]
   rw[e6,XG De];have UC:=(hx3.trans Sv).trans UY;refine Rs (pU t3 t6 t7 t79 t80 t81 e3 @lk2 @lr @le @aF @cg) ?_;refine WF.val (OB T h2 ⟨on.ext UC,wn,ox.ext UC,wx,yg e6⟩ (gl.ext UC)) ?_;rintro _ g4 rfl;refine Rs t3 ?_;exact⟨UC.trans Xx,trivial⟩
end
def IB(B h0:ah)(b:Nat)(V:HV)(e:gy)(v:AV)(k:ah):Prop:=∃g' V',k=B++g'∧v= .i (fG V.bS e)∧cF B.length (B++g') b V'∧V'.bS= (if fG V.bS e=0 then mT V.bS e else V.bS)∧(∀i,i < h0.length→some i∉V.ex b→(B++g')[i]? =h0[i]?)∧∀j,some j∈V'.ex b→some j∈V.ex b∨h0.length≤j
def IB.no{B g g1 b V e}(o:cF B.length (B++g) b V)(h:fG V.bS e≠0){n}(hn:n=fG V.bS e):IB B (B++g) b V e (.i n) (B++g++g1):=
 ⟨g++g1,V,by rw[Xt],by rw[hn],by rw[←Xt];exact o.app _,by rw[XG h],fun i hi _=>by rw[←Xt,Xv hi],fun j hj=>.inl hj⟩
def bo.FT{h x}(o:bo h x){M}:xz 5 1 (eo [.i 0,.str [],.af,.af,.str []] [(0,5,.agg x.row)]) M=some (.slice M 0 1 5,.push (.cells x.row true true)):=xy (c:=x.row) o.row rfl De
def aD.FT{h V}(o:aD h V){M}:xz 7 1 (eo [.i 0,.af,.af,.af,.af,.af,.af] [(0,7,.agg V.row)]) M=some (.slice M 0 1 7,.push (.cells V.row true true)):=xy (c:=V.row) o.row rfl De
theorem bo.fy{h x}(o:bo h x){ex}(h1:∀j,sB x.sn=some j→some j∉ex)(h2:∀j,sB x.sv=some j→some j∉ex):bo (Go.Abs.fy ex h) x:=⟨o.n.fy h1,o.v.fy h2⟩
theorem aD.fy{h V}(o:aD h V){ex}(hx:∀j,some j∈V.bl→some j∉ex):aD (Go.Abs.fy ex h) V:=by
 have m6:∀x∈[sB V.s0,sB V.s1,sB V.s2,sB V.s3,sB V.s4,sB V.s5],x∈V.bl:=fun x hx=>by simp only[RV.bl,XC];exact .inl (.inl (.inl hx))
 refine⟨o.i0.fy fun b hb=>hx b (hb▸m6 _ Si),o.i1.fy fun b hb=>hx b (hb▸m6 _ Si),o.i2.fy fun b hb=>hx b (hb▸m6 _ Si),o.i3.fy fun b hb=>hx b (hb▸m6 _ Si),o.i4.fy fun b hb=>hx b (hb▸m6 _ Si),o.i5.fy fun b hb=>hx b (hb▸m6 _ Si),
  fun x hx1=>(o.e2 x hx1).fy fun b hb=>hx b ?_,fun x hx1=>(o.e3 x hx1).fy fun b hb=>hx b ?_,fun x hx1=>(o.e4 x hx1).fy fun b hb=>hx b ?_⟩
 ·simp only[RV.bl,XC,X2];exact .inl (.inl (.inr ⟨x,hx1,hb⟩))
 ·simp only[RV.bl,XC,X2];exact .inl (.inr ⟨x,hx1,hb⟩)
 ·simp only[RV.bl,XC,X2];exact .inr ⟨x,hx1,hb⟩
def rh{a b c d}:kP [a,b,c,d]↔(∀i,a=some i→b≠some i∧c≠some i∧d≠some i)∧(∀i,b=some i→c≠some i∧d≠some i)∧∀i,c=some i→d≠some i:=by
 simp only[kP,Yv,X9,Yt,Y7,forall_eq_or_imp,forall_eq,List.Pairwise.nil,and_true,false_implies,implies_true];constructor
 ·rintro⟨⟨h1,h2,h3⟩,⟨h4,h5⟩,h6⟩;exact⟨fun i hi=>⟨h1 i hi,h2 i hi,h3 i hi⟩,fun i hi=>⟨h4 i hi,h5 i hi⟩,h6⟩
 ·rintro⟨h1,h2,h3⟩;exact⟨⟨fun i hi=>(h1 i hi).1,fun i hi=>(h1 i hi).2.1,fun i hi=>(h1 i hi).2.2⟩,⟨fun i hi=>(h2 i hi).1,fun i hi=>(h2 i hi).2⟩,h3⟩
def Dq{B h:ah}(hl:B.length≤h.length)(hk:∀i,i < B.length→h[i]? =B[i]?):∃g,h=B++g:=by
 refine⟨h.drop B.length,ZR fun i=>?_⟩;by_cases hi:i < B.length
 ·rw[hk i hi,Xv hi]
 ·exact Jg
def ux{B h:ah}{b:Nat}{X:aq}(hN:B.length≤b)(hh:∃g,h=B++g):∃g,h.set b X=B++g:=by
 obtain⟨g,rfl⟩:=hh;exact⟨_,Yp _ _ hN⟩
def bW.tk{B g b V}(r:bW B.length (B++g) b V)(t:Int):∃g',(B++g).set b (.b (V.row.set 0 (.i t)))=B++g'∧bW B.length (B++g') b { V with tick:=t }:=by
 obtain⟨h1,h2,h3⟩:=mR (.b (V.row.set 0 (.i t))) r.hN r.m;refine⟨_,h1,?_,r.hN,h2,r.ne⟩;have:=r.o.az (k:=B++g.set (b - B.length) (.b (V.row.set 0 (.i t)))) fun i hi=>h3 i fun e=>r.ne (e▸hi)
 exact⟨this.i0,this.i1,this.i2,this.i3,this.i4,this.i5,this.e2,this.e3,this.e4,this.di⟩
section
variable {N b:Nat} {h h':ah} {V:HV}
def cF.lt(o:cF N h b V):b < h.length:=(Xr.1 o.hb).1
def cF.BO(o:cF N h b V){j}(hj:some j∈V.ex b):j < h.length:=by
 simp only[HV.ex,X9,Yt,Y7,X1]at hj;rcases hj with hj| hj| hj| hj
 ·rw[hj];exact o.lt
 ·exact(o.oe.bN hj.symm).2
 ·exact(o.oc.bN hj.symm).2
 ·exact(o.og.bN hj.symm).2
def cF.PX(o:cF N h b V){s' x'}(hk:∀i,i < h.length→sB V.se≠some i→i≠b→h'[i]? =h[i]?)(hs:Ow N h' s' 5 ((V.de++ [x']).map EV.row))(hb:h'[b]? =some (.b [s',V.sc,V.sr]))
  (hn:∀i,sB s' =some i→h.length≤i) (hx:bo (fy (V.ex b) h) x'):cF N h' b { V with de:=V.de++ [x'],se:=s' }:=by
 obtain⟨d1,d2,d3⟩:=rh.1 o.di;have hbl:=o.lt;have hsub:jg (fy (V.ex b) h) (fy ({ V with de:=V.de++ [x'],se:=s' }.ex b) h'):=by
  refine ng (fun i hi hne=>hk i hi (fun e=>hne (by simp[HV.ex,e])) (fun e=>hne (by simp[HV.ex,e]))) fun i hi hm=>?_
  simp only[HV.ex,X9,Yt,Y7,X1]at hm ⊢;rcases hm with hm| hm| hm| hm
  ·exact .inl hm
  ·have:=hn i hm.symm;omega
  ·exact .inr (.inr (.inl hm))
  ·exact .inr (.inr (.inr hm))
 refine⟨o.hN,hb,hs,o.oc.aC fun i hi=>?_,o.og.aC fun i hi=>?_,rh.2 ⟨fun i hi=>?_,fun i hi=>?_,d3⟩,fun x hx1=>?_,fun x hx1=>(o.ac x hx1).sub hsub,fun x hx1=>(o.ag x hx1).sub hsub,o.lo⟩
 ·exact hk i (o.oc.bN hi).2 (fun e=>(d2 i e).1 hi) (fun e=>(d1 b rfl).2.1 (by rw[←e];exact hi))
 ·exact hk i (o.og.bN hi).2 (fun e=>(d2 i e).2 hi) (fun e=>(d1 b rfl).2.2 (by rw[←e];exact hi))
 ·cases hi;exact⟨fun e=>by have:=hn b e;omega,(d1 b rfl).2⟩
 ·have h1:=hn i hi;exact⟨fun e=>by have:=(o.oc.bN e).2;omega,fun e=>by have:=(o.og.bN e).2;omega⟩
 ·rcases XC.1 hx1 with hx1| hx1
  ·exact(o.ae x hx1).sub hsub
  ·rw[XT]at hx1;rw[hx1];exact hx.sub hsub
def cF.PW(o:cF N h b V){QR Q8 n m}(hk:∀i,i < h.length→i≠b→h'[i]? =h[i]?)(hc:Ow N h' QR 5 ((V.fc.take n).map EV.row))(hr:Ow N h' Q8 7 ((V.cO.take m).map RV.row))(hb:h'[b]? =some (.b [V.se,QR,Q8]))
  (nc:sB QR=sB V.sc) (nr:sB Q8=sB V.sr):cF N h' b { V with fc:=V.fc.take n,cO:=V.cO.take m,sc:=QR,sr:=Q8 }:=by
 obtain⟨d1,d2,d3⟩:=rh.1 o.di;have he:{ V with fc:=V.fc.take n,cO:=V.cO.take m,sc:=QR,sr:=Q8 }.ex b=V.ex b:=by simp only[HV.ex,nc,nr]
 have hsub:jg (fy (V.ex b) h) (fy ({ V with fc:=V.fc.take n,cO:=V.cO.take m,sc:=QR,sr:=Q8 }.ex b) h'):=by
  rw[he];exact ng (fun i hi hne=>hk i hi (fun e=>hne (by simp[HV.ex,e]))) fun i hi hm=>hm
 refine⟨o.hN,hb,o.oe.aC fun i hi=>hk i (o.oe.bN hi).2 (fun e=>(d1 b rfl).1 (by rw[←e];exact hi)),hc,hr,by rw[he];exact o.di,fun x hx1=>(o.ae x hx1).sub hsub,fun x hx1=>(o.ac x (YA hx1)).sub hsub,fun x hx1=>(o.ag x (YA hx1)).sub hsub,fun x hx1=>o.lo x (YA hx1)⟩
def cF.PY(o:cF N h b V){QR Q8 x' R'}(hk:∀i,i < h.length→sB V.sc≠some i→sB V.sr≠some i→i≠b→h'[i]? =h[i]?)(hc:Ow N h' QR 5 ((V.fc++ [x']).map EV.row))(hr:Ow N h' Q8 7 ((V.cO++ [R']).map RV.row))(hb:h'[b]? =some (.b [V.se,QR,Q8]))
  (nc:∀i,sB QR=some i→h.length≤i) (nr:∀i,sB Q8=some i→h.length≤i) (ncr:∀i,sB QR=some i→sB Q8≠some i) (hx:bo (fy (V.ex b) h) x') (hR:aD (fy (V.ex b) h) R') (hlo:∀j,some j∈R'.bl→N≤j):cF N h' b { V with fc:=V.fc++ [x'],cO:=V.cO++ [R'],sc:=QR,sr:=Q8 }:=by
 obtain⟨d1,d2,d3⟩:=rh.1 o.di;have hbl:=o.lt;have hsub:jg (fy (V.ex b) h) (fy ({ V with fc:=V.fc++ [x'],cO:=V.cO++ [R'],sc:=QR,sr:=Q8 }.ex b) h'):=by
  refine ng (fun i hi hne=>hk i hi (fun e=>hne (by simp[HV.ex,e])) (fun e=>hne (by simp[HV.ex,e])) (fun e=>hne (by simp[HV.ex,e]))) fun i hi hm=>?_
  simp only[HV.ex,X9,Yt,Y7,X1]at hm ⊢;rcases hm with hm| hm| hm| hm
  ·exact .inl hm
  ·exact .inr (.inl hm)
  ·have:=nc i hm.symm;omega
  ·have:=nr i hm.symm;omega
 refine⟨o.hN,hb,o.oe.aC fun i hi=>?_,hc,hr,rh.2 ⟨fun i hi=>?_,fun i hi=>?_,ncr⟩,fun x hx1=>(o.ae x hx1).sub hsub,fun x hx1=>?_,fun x hx1=>?_,fun x hx1=>?_⟩
 ·exact hk i (o.oe.bN hi).2 (fun e=>(d2 i hi).1 e) (fun e=>(d2 i hi).2 e) (fun e=>(d1 b rfl).1 (by rw[←e];exact hi))
 ·cases hi;exact⟨(d1 b rfl).1,fun e=>by have:=nc b e;omega,fun e=>by have:=nr b e;omega⟩
 ·have h1:=(o.oe.bN hi).2;exact⟨fun e=>by have:=nc i e;omega,fun e=>by have:=nr i e;omega⟩
 ·rcases XC.1 hx1 with hx1| hx1
  ·exact(o.ac x hx1).sub hsub
  ·rw[XT]at hx1;rw[hx1];exact hx.sub hsub
 ·rcases XC.1 hx1 with hx1| hx1
  ·exact(o.ag x hx1).sub hsub
  ·rw[XT]at hx1;rw[hx1];exact hR.sub hsub
 ·rcases XC.1 hx1 with hx1| hx1
  ·exact o.lo x hx1
  ·rw[XT]at hx1;rw[hx1];exact hlo
end
section
variable {P:Program} (T:fA P)
include T
theorem KY{B g:ah}{V:HV}{b:Nat}{x:EV}(o:cF B.length (B++g) b V)(w:lz V.bS)(hl:V.de.length < 1000)(ox:bo (B++g) x)(hxl:x.ev.names.length≤2^40∧x.ev.cC.length≤2^40)(gl:Gl B):
  db P 112 [.ptr b 0,.agg x.row] (B++g) (fun v k=>IB B (B++g) b V x.ev v k):=by
 have hcl:V.fc.length≤V.de.length:=by have:=w.le;simpa [HV.bS]using this
 have RM:V.cO.length=V.fc.length:=by have:=w.ln;simpa [HV.bS]using this
 refine .eF 94 T.mix T.c112 ?_;intro ts hlen t0 t1;unfold fn112;have Qm:=@bo.box _ _ ox;have gl':Gl (B++g):=gl.ext ⟨g,rfl⟩;refine Rs (A4 t0 t1 @Qm @cg) ?_;refine WF.ce T.c67 (r67 T (ox.ext Xx) hxl) fun g1=>?_
 by_cases h1:gI x.ev=0
 case neg=>
  have q1:decide (gI x.ev≠0)=true:=Xz h1;refine Rs (A3 t0 t1 q1) ?_;have e:fG V.bS x.ev=gI x.ev:=by rw[fG,XI h1]
  rw[Xt (B++g)];exact IB.no o (by rw[e];exact h1) e.symm
 have q1:decide (gI x.ev≠0)=false:=Xu (fun z=>z h1);obtain⟨d,wx⟩:=w9 h1;have eb:fG V.bS x.ev=jT V.bS x.ev:=by rw[fG,XG (fun z=>z h1)]
 refine Rs (A4 t0 t1 q1 @cg) ?_;refine WF.ce T.c116 (r116 T (d:=d) (o.rd.ext Xx) w Om (ox.ext Xx) wx (gl'.ext Xx)) fun g2=>?_
 by_cases h2:jT V.bS x.ev=0
 case neg=>
  have q2:decide (jT V.bS x.ev≠0)=true:=Xz h2;refine Rs (A3 t0 t1 q2) ?_;rw[Xt (B++g),Xt (B++g)];exact IB.no o (by rw[eb];exact h2) eb.symm
 have q2:decide (jT V.bS x.ev≠0)=false:=Xu (fun z=>z h2);rw[←eb]at h2;refine Rs (A4 t0 t1 q2 @cg) ?_;refine WF.res T.c91 (r91 T x (ox.ext Xx) hxl) ?_;rintro _ g3 ⟨x',Qt,rfl,fn,fv⟩;have Vv:bo _ x':=⟨by rw[Qt];exact fn.a8,by rw[Qt];exact fv.a8⟩;have st:∀{b':Nat},kL 5 0 (.agg x'.row) b' (.b x.row)=some (aB,.set b' (.b x'.row)):=fun {_}=>Vv.st
 refine Rs (A3 t0 t1 @st) ?_;obtain⟨H,hH⟩:∃H,H=B++g++ [aq.b x'.row]++g1++g2++g3:=⟨_,rfl⟩;have hHg:∃gH,H=B++gH:=⟨_,by rw[hH];simp only[Xt];rfl⟩;obtain⟨gH,hHB⟩:=hHg;have hex:Ext (B++g) H:=by rw[hH];exact Xx
 have oH:cF B.length H b V:=by obtain⟨z,hz⟩:=hex;rw[hz];exact o.app z
 have az:∀j,(B++g).length+1≤j→H[j]? = (B++g++ [aq.b x.row]++g1++g2++g3)[j]? :=fun j hj=>by
  rw[hH];simp only[Xt];have e:∀C:aq,(B++ (g++ ([C]++ (g1++ (g2++g3)))))[j]? = (g1++ (g2++g3))[j - B.length - g.length - 1]? :=fun C=>by
   simp only[Xs]at hj;rw[XE Om,XE Om,XE (by simp only[XV];omega)];rfl
  rw[e,e]
 obtain⟨N,hN⟩:∃N,N= (B++g).length:=⟨_,rfl⟩;have fnl:=fun j (hj:sB x'.sn=some j)=>fn.bN hj
 have fvl:=fun j (hj:sB x'.sv=some j)=>fv.bN hj
 have TP:H.length= (B++g++ [aq.b x.row]++g1++g2++g3).length:=by rw[hH];simp only[Xs,Xy,XA]
 have lnn:∀j,sB x'.sn=some j∨sB x'.sv=some j→(B++g).length+1≤j∧j < H.length:=fun j hj=>by
  rw[TP];rcases hj with hj| hj
  ·have:=fnl j hj;exact z46
  ·have:=fvl j hj;exact z46
 have oxH:bo H x':=⟨by rw[Qt];exact(fn.aC fun j hj=>az j (lnn j (.inl hj)).1).a8,by rw[Qt];exact(fv.aC fun j hj=>az j (lnn j (.inr hj)).1).a8⟩;have eH:H[N]? =some (.b x'.row):=by rw[hH,hN];exact(show Ext (B++g++ [aq.b x'.row]) _ from Xx).some bf
 rw[←hH,←hN];have hb:=oH.hb;have lb:∀{k n a},Ext H k→ao n (.ptr b a) (fun z=>k[z]?)=cp n a (.b [V.se,V.sc,V.sr]):=fun {_ _ _} e=>an (e.some hb)
 have le:∀{k n a},Ext H k→ao n (.ptr N a) (fun z=>k[z]?)=cp n a (.b x'.row):=fun {_ _ _} e=>an (e.some eH)
 have bs:=@bo.FT _ _ oxH;have dH:=rh.1 oH.di;refine Rs (A6 t0 t1 @lb @le @cg @bs) ?_;refine WR.HS (N:=B.length) (cs:=V.de.map EV.row) (ys:=[x'.row]) (oH.app _).oe (Fr.push (N:=0) (X3 _) [x'.row] (by intro y hy;rw[XT]at hy;rw[hy];rfl)).a8 (by rw[hHB];simp only[Xs];omega) De Si (by simp only[XB,Xy,XA];omega) ?_;intro h1 Vc R8 hk1;have hrow:V.de.map EV.row++ [x'.row]= (V.de++ [x']).map EV.row:=by rw[XD];rfl
 rw[hrow]at R8;rw[hrow];obtain⟨Q5,WH⟩:∃Q5,Q5=AV.slice (H++ [aq.cells x'.row true true]).length 0 ((V.de++ [x']).map EV.row).length 5:=⟨_,rfl⟩;rw[←WH]at R8 ⊢;have U5:∀i,sB Q5=some i→H.length+1=i:=fun i hi=>by rw[WH]at hi;cases hi;simp
 have ose:Q5.one=true:=by rw[WH];rfl
 have hk1':∀i,i < H.length→sB V.se≠some i→h1[i]? =H[i]? :=fun i hi hne=>by rw[hk1 i (by simp;omega) hne,Xv hi]
 have hbl:=oH.lt;have QD:sB V.se≠some b:=(dH.1 b rfl).1;have QS:h1[b]? =some (.b [V.se,V.sc,V.sr]):=(hk1' b hbl QD).trans hb;have sb1:aW 1 (.ptr b 0) Q5 (fun z=>h1[z]?)=some (aB,.set b (.b [Q5,V.sc,V.sr])):=by
  rw[aM QS];exact bV ose Si
 refine Rs (A2 t0 @sb1) ?_;have hb1l:b < h1.length:=(Xr.1 QS).1;obtain⟨H1,UR⟩:∃H1,H1=h1.set b (.b [Q5,V.sc,V.sr]):=⟨_,rfl⟩;rw[←UR];have k1:∀i,i < H.length→sB V.se≠some i→i≠b→H1[i]? =H[i]? :=fun i hi n1 n2=>by rw[UR,XK (YP n2)];exact hk1' i hi n1
 have m1:H1[b]? =some (.b [Q5,V.sc,V.sr]):=by rw[UR,XL hb1l]
 have Vz:∀i,i < (B++g).length→some i∉V.ex b→H1[i]? = (B++g)[i]? :=fun i hi hn=>by
  rw[k1 i (by rw[TP];simp only[Xs]at hi ⊢;omega) (fun e=>hn (by rw[←e];simp[HV.ex])) (fun e=>hn (by rw[e];simp[HV.ex]))];obtain⟨z,hz⟩:=hex;rw[hz,Xv hi]
 have hB1:∃g',H1=B++g':=by
  have:=oH.hN;refine⟨H1.drop B.length,?_⟩;refine ZR fun i=>?_
  by_cases hi:i < B.length
  ·have e2:B.length≤H.length:=by rw[hHB];simp
   have n1:sB V.se≠some i:=fun e=>by have:=(oH.oe.bN e).1;omega
   rw[k1 i Om n1 Om,hHB,Xv hi,Xv hi]
  ·exact Jg
 have VS:∀j,some j∈V.ex b→j < (B++g).length:=fun j hj=>o.BO hj
 have oxm:bo (fy (V.ex b) H) x':=oxH.fy (fun j hj hm=>by have:=(lnn j (.inl hj)).1;have:=VS j hm;omega) (fun j hj hm=>by have:=(lnn j (.inr hj)).1;have:=VS j hm;omega);have TE:cF B.length H1 b { V with de:=V.de++ [x'],se:=Q5 }:=oH.PX k1 (R8.aC fun i hi=>by rw[UR,XK (by have:=U5 i hi;omega)]) m1 (fun i hi=>by have:=U5 i hi;omega) oxm;clear R8 hk1 hk1' sb1 hb1l;have owc:Ow B.length H1 V.sc 5 (V.fc.map EV.row):=TE.oc;have owr:Ow B.length H1 V.sr 7 (V.cO.map RV.row):=TE.og;obtain⟨V1,Tb⟩:∃V1:HV,V1={ V with de:=V.de++ [x'],se:=Q5 }:=⟨_,rfl⟩;rw[←Tb]at TE;have eN:H1[N]? =some (.b x'.row):=(k1 N (by rw[TP,hN];simp only[Xs,Xy];omega) (fun e=>by have:=(o.oe.bN e).2;omega) (by have:=o.lt;omega)).trans eH
 have oxm1:bo (fy (V1.ex b) H1) x':=TE.ae x' (by rw[Tb];simp);have ox1:bo H1 x':=oxm1.sub (jg.fy _ _);obtain⟨gH1,hB1⟩:=hB1;have lb1:∀{k n a},Ext H1 k→ao n (.ptr b a) (fun z=>k[z]?)=cp n a (.b [Q5,V.sc,V.sr]):=fun {_ _ _} e=>an (e.some m1)
 have le1:∀{k n a},Ext H1 k→ao n (.ptr N a) (fun z=>k[z]?)=cp n a (.b x'.row):=fun {_ _ _} e=>an (e.some eN)
 have hkx:x'.ev.kind=x.ev.kind:=by rw[Qt]
 have Qu:oT x.ev=d:=by rw[oT,wx.kd];rfl
 by_cases h5:d= .e8
 ·have q5:decide (x.ev.kind= [117,110,100,111])=true:=Xz (by rw[cw wx.kd,h5];rfl);refine Rs (A7 t0 @le1 @bA @hkx q5 @lb1 owc.a8.aP) ?_;have hne:V.fc≠[]:=fun e=>by
   rw[eb,jT,Qu,XI h5,show V.bS.fc.getLast? =none by simp[HV.bS,e]]at h2;split at h2<;>exact absurd h2 De
  have hcp:0 < V.fc.length:=Zr.2 hne;have e2:IntKind.i64.wrap ((V.fc.length:Int) - 1)= ((V.fc.length - 1:Nat):Int):=by rw[bp Om Om];omega
  obtain⟨QR,c1,c2,c3⟩:=owc.cut (n:=V.fc.length - 1) Si (k:=.i64);obtain⟨Q8,r1,r2,r3⟩:=owr.cut (n:=V.fc.length - 1) (by simp;omega) (k:=.i64);refine Rs (A5 t0 e2 @lb1 @c1 @r1) ?_;have osc:QR.one=true:=c3.a8.one;have osr:Q8.one=true:=r3.a8.one;have sA:aW 1 (.ptr b 1) QR (fun z=>H1[z]?)=some (aB,.set b (.b [Q5,QR,V.sr])):=by
   rw[aM m1];exact bV osc Si
  have hbl1:b < H1.length:=TE.lt;have m2: (H1.set b (.b [Q5,QR,V.sr]))[b]? =some (.b [Q5,QR,V.sr]):=XL hbl1;have sB2:aW 1 (.ptr b 2) Q8 (fun z=>(H1.set b (.b [Q5,QR,V.sr]))[z]?)=some (aB,.set b (.b [Q5,QR,Q8])):=by
   rw[aM m2];exact bV osr Si
  refine Rs (A3 t0 @sA @sB2) ?_;rw[List.set_set];obtain⟨gz,hz⟩:=ux (X:=.b [Q5,QR,Q8]) TE.hN ⟨_,hB1⟩;have kz:∀i,i≠b→(H1.set b (.b [Q5,QR,Q8]))[i]? =H1[i]? :=fun i hi=>XK (YP hi)
  have d1:=rh.1 TE.di;have d2:=rh.1 o.di;have hfr:∀i,i < (B++g).length→some i∉V.ex b→(B++gz)[i]? = (B++g)[i]? :=fun i hi hn=>by
   rw[←hz,kz i (fun e=>hn (by rw[e];simp[HV.ex])),Vz i hi hn]
  refine⟨gz,{ V1 with fc:=V1.fc.take (V.fc.length - 1),cO:=V1.cO.take (V.fc.length - 1),sc:=QR,sr:=Q8 },hz,by rw[h2],?_,?_,hfr,fun j hj=>?_⟩
  ·rw[←hz];subst Tb;rw[←List.map_take]at c3 r3;refine TE.PW (fun i _ hi=>kz i hi) (c3.aC fun i hi=>kz i fun e=>?_) (r3.aC fun i hi=>kz i fun e=>?_) (XL hbl1) c2 r2
   ·rw[c2]at hi;exact(d2.1 b rfl).2.1 (by rw[hi,e])
   ·rw[r2]at hi;exact(d2.1 b rfl).2.2 (by rw[hi,e])
  ·rw[XI h2,mT,Qu,XI h5,Tb];simp only[HV.bS,XD,List.map_take,Yr,Zf,Qt,List.dropLast_eq_take,XB,RM]
  ·subst Tb;simp only[HV.ex,X9,Yt,Y7,X1]at hj ⊢;rcases hj with hj| hj| hj| hj
   ·exact .inl (.inl hj)
   ·have:=U5 j hj.symm;exact .inr (by rw[TP]at this;simp only[Xs]at this ⊢;omega)
   ·rw[c2]at hj;exact .inl (.inr (.inr (.inl hj)))
   ·rw[r2]at hj;exact .inl (.inr (.inr (.inr hj)))
 have q5:decide (x.ev.kind= [117,110,100,111])=false:=Xu fun z=>h5 (by
  have:=wx.kd;rw[z]at this;exact(Yu ((lI .e8).symm.trans this)).symm)
 refine Rs (A5 t0 @le1 @bA @hkx q5) ?_;have hnow:V1.now=V.now:=by rw[Tb];rfl
 have rd1:=TE.rd;have wn:fo V1.now.ar:=by rw[hnow,V.jq];exact w.now
 refine WF.ce T.c79 (r79 T rd1 (by rw[Tb];show V.cO.length≤1000;omega)) fun g4=>?_
 refine Rs t0 ?_;refine WF.res T.c96 (r96 T (rd1.now.ext Xx) wn) ?_;rintro _ g5 ⟨VN,hVN,rfl,own⟩;have stN:∀{b':Nat} {a0 a1 a2 a3 a4 a5 a6:AV},kL 7 0 (.agg VN.row) b' (.b [a0,a1,a2,a3,a4,a5,a6])=some (aB,.set b' (.b VN.row)):=fun {_ _ _ _ _ _ _ _}=>own.ok.st
 refine Rs (A2 t0 @stN) ?_;refine WF.res T.c90 (r90 T) ?_;rintro _ g6 ⟨vf,rfl,hk⟩;obtain⟨hx3,Ui⟩:∃z,z=H1++g4++g5++ [aq.b VN.row]:=⟨_,rfl⟩;rw[←Ui]at hk ⊢;have lk:∀{z:AV},gV .s z false (.map hx3.length) (.str x.ev.kind) (fun b=>(hx3++g6)[b]?)=k5 z false ((gF x.ev.kind).map vf):=hk.look;rw[wx.kd]at lk;have QY:∀{z:AV},_=some (vf d,ia.az):=@lk;obtain⟨rs,a,hv,hr,ha,hab⟩:=(hk.k d).ex;rw[hv]at QY;have e1x:Ext H1 (hx3++g6):=by rw[Ui];exact Xx
 have le2:∀{k n a},Ext (hx3++g6) k→ao n (.ptr N a) (fun z=>k[z]?)=cp n a (.b x'.row):=fun {_ _ _} e=>le1 (e1x.trans e)
 have cd:=k9 d;obtain⟨rb,U3⟩:∃rb,rb= (H1++g4++g5).length:=⟨_,rfl⟩;rw[←U3];refine Rs (A8 t0 @le2 @bA @hkx @bT @QY @cd @cg) ?_;have SZ:je V.bS.now x.ev d=0:=by
  rw[eb,jT,Qu,XG h5]at h2;split at h2
  ·exact absurd h2 De
  ·exact h2
 have R3:x.ev.num= (V.bS.de.length:Int)+1:=by
  rw[eb,jT]at h2;split at h2
  ·exact absurd h2 De
  case isFalse hh=>exact Zl.1 hh
 have hVR:VN.ar=V.bS.now:=by rw[hVN,hnow,V.jq]
 have QJ:¬bI x.ev 0 < V.bS.now.tick:=fun z=>by rw[je,XI z]at SZ;exact absurd SZ De
 have SV:kG d V.bS.now x.ev=0:=by
  rw[je,XG QJ]at SZ;split at SZ
  case isTrue hh=>exact absurd SZ hh
  case isFalse hh=>exact Zl.1 hh
 have RF:bB V.bS.now x.ev d=0:=by rw[je,XG QJ,XG (by rw[SV];decide)]at SZ;exact SZ
 obtain⟨G,hG⟩:=e1x;have hGl:H1.length≤rb∧rb < (H1++G).length:=by
  rw[←hG,Ui,U3];simp only[Xs,Xy,XA];omega
 have rbk:bW H1.length (H1++G) rb VN:=by
  have:=(((own.app [aq.b VN.row]).app g6).low (M:=H1.length) Si);rw[←Ui,hG]at this;refine⟨this,hGl.1,?_,fun hb'=>?_⟩
  ·rw[←hG,Ui,U3];exact(Ext.app _ (Ext.refl _)).some bf
  ·have:=(own.dN hb').2;omega
 have glG:Gl (H1++G):=(gl.ext ⟨_,hB1⟩).ext ⟨_,rfl⟩;have cx:Cx (H1++G) VN x' d:=⟨rbk.o.ok,by rw[hVN];exact wn,ox1.ext ⟨_,rfl⟩,by rw[Qt];exact wx,by rw[hVR,Qt];exact yg SV⟩;rw[hG];refine EZ T h5 rbk cx (by rw[hVR,Qt];exact RF) glG ?_;rintro _ _ ⟨g7,V7,rfl,r7,hr7⟩;have e17:Ext H1 (H1++g7):=⟨_,rfl⟩;have le3:∀{k n a},Ext (H1++g7) k→ao n (.ptr N a) (fun z=>k[z]?)=cp n a (.b x'.row):=fun {_ _ _} e=>le1 (e17.trans e)
 have Q9:0 < x'.ev.cC.length:=by rw[Qt,wx.vl];cases d<;>first| exact absurd rfl h5| decide
 have qa:aZ 1 x'.sv (.i 0)=some (cV x'.sv 1 0,.az):=ox1.v.qa Q9;have ld0:∀{k':ah},Ext (H1++g7) k'→ao none (cV x'.sv 1 0) (fun b=>k'[b]?)=some (.i (bI x.ev 0),.az):=fun {k'} e=>by
  have ev0:bI x.ev 0=x'.ev.cC[0]:=by rw[←Qt,bI,Yc,Xw Q9];rfl
  rw[ev0];exact ox1.v.kO Q9 rfl (e17.trans e)
 have s7:aW 1 (.ptr rb 0) (.i (bI x.ev 0)) (fun z=>(H1++g7)[z]?)=some (aB,.set rb (.b (V7.row.set 0 (.i (bI x.ev 0))))):=gZ r7.m rfl De;obtain⟨g8,hg8,r8⟩:=r7.tk (bI x.ev 0);refine Rs (A6 t0 @le3 @aY @qa @ld0 @s7) ?_;rw[hg8];obtain⟨V8,hV8⟩:∃V8:RV,V8={ V7 with tick:=bI x.ev 0 }:=⟨_,rfl⟩;rw[←hV8]at r8;have hr8:V8.ar=rG V.bS.now x.ev d:=by
  rw[hV8,rG,←hVR];have:dq VN.ar x.ev d=V7.ar:=by rw[hr7,Qt]
  rw[this];rfl
 clear s7 le2 le3 ld0 QY lk hk;have oV2:cF B.length (H1++g8) b V1:=TE.app g8;have e18:Ext H1 (H1++g8):=⟨_,rfl⟩;have lb2:∀{k n a},Ext (H1++g8) k→ao n (.ptr b a) (fun z=>k[z]?)=cp n a (.b [Q5,V.sc,V.sr]):=fun {_ _ _} e=>lb1 (e18.trans e)
 have le2:∀{k n a},Ext (H1++g8) k→ao n (.ptr N a) (fun z=>k[z]?)=cp n a (.b x'.row):=fun {_ _ _} e=>le1 (e18.trans e)
 have lr2:∀{k n a},Ext (H1++g8) k→ao n (.ptr rb a) (fun z=>k[z]?)=cp n a (.b V8.row):=fun {_ _ _} e=>an (e.some r8.m)
 have bs1:=@bo.FT _ _ ox1;have bs2:=@aD.FT _ _ r8.o.ok;obtain⟨H2,Us⟩:∃H2,H2=H1++g8:=⟨_,rfl⟩;have m2:H2[b]? =some (.b [Q5,V.sc,V.sr]):=by rw[Us];exact e18.some m1
 have e2:H2[N]? =some (.b x'.row):=by rw[Us];exact e18.some eN
 have r2m:H2[rb]? =some (.b V8.row):=by rw[Us];exact r8.m
 have hB2:∃g',H2=B++g':=⟨_,by rw[Us,hB1,Xt]⟩;rw[←Us]at r8 oV2 ⊢;have Wo:Ow B.length H2 V.sc 5 (V.fc.map EV.row):=by have:=oV2.oc;rw[Tb]at this;exact this
 have UU:Ow B.length H2 V.sr 7 (V.cO.map RV.row):=by have:=oV2.og;rw[Tb]at this;exact this
 have d1:=rh.1 TE.di;have d1b:sB V.sc≠some b∧sB V.sr≠some b:=by have:=(d1.1 b rfl).2;rw[Tb]at this;exact this
 have d1c:∀i,sB V.sc=some i→sB V.sr≠some i:=by have:=d1.2.2;rw[Tb]at this;exact this
 have hBl:B.length≤H2.length:=by obtain⟨z,hz⟩:=hB2;rw[hz];simp
 refine om (fun h=>h[b]? =some (.b [Q5,V.sc,V.sr])∧h[N]? =some (.b x'.row)∧h[rb]? =some (.b V8.row)) ?_;have hS: (fun h:ah=>h[b]? =some (.b [Q5,V.sc,V.sr])∧h[N]? =some (.b x'.row)∧h[rb]? =some (.b V8.row)) H2:=⟨m2,e2,r2m⟩;refine c7 hS rfl rfl ?_;refine Rs t0 ?_;refine c7 hS rfl rfl ?_;refine Rs t0 ?_;refine c7 hS rfl rfl ?_;refine Rs t0 ?_;refine c7 hS rfl rfl ?_;refine Rs t0 ?_;refine c7 hS rfl rfl ?_;refine Rs t0 ?_;refine kD hS (v:=V.sc) (fun g hg=>?_) ?_
 ·exact O5
 refine Rs t0 ?_;refine kD hS (v:=.agg x'.row) (fun g hg=>?_) ?_
 ·simp only[aV,bd,bD,bE,reduceAdd,reduceMul,reduceLeDiff,reduceEqDiff,bF,hlen,XO,XR,t0,an hg.2.1,cg]
 refine Rs t0 ?_;refine c7 hS rfl rfl ?_;refine Rs (A2 t0 @bs1) ?_;have x3:Ext H2 (H2++ [aq.cells x'.row true true]):=⟨_,rfl⟩;have hS3: (fun h:ah=>h[b]? =some (.b [Q5,V.sc,V.sr])∧h[N]? =some (.b x'.row)∧h[rb]? =some (.b V8.row)) (H2++ [aq.cells x'.row true true]):=⟨x3.some m2,x3.some e2,x3.some r2m⟩;refine c7 hS3 rfl rfl ?_;refine Rs t0 ?_;refine WR.HS (N:=B.length) (cs:=V.fc.map EV.row) (ys:=[x'.row]) (Wo.aC fun i hi=>Xv (Wo.bN hi).2) (Fr.push (N:=0) (X3 _) [x'.row] (by intro y hy;rw[XT]at hy;rw[hy];rfl)).a8 (by simp only[Xs];omega) De Si (by simp only[XB,Xy,XA];omega) ?_;intro h4 hl4 hs4 hk4
 have VE:V.fc.map EV.row++ [x'.row]= (V.fc++ [x']).map EV.row:=by rw[XD];rfl
 rw[VE]at hs4;rw[VE];obtain⟨QR,hsc⟩:∃QR,QR=AV.slice (H2++ [aq.cells x'.row true true]).length 0 ((V.fc++ [x']).map EV.row).length 5:=⟨_,rfl⟩;rw[←hsc]at hs4 ⊢;have hl4':h4.length=H2.length+2:=by rw[hl4];simp
 have U6:∀i,sB QR=some i→H2.length+1=i:=fun i hi=>by rw[hsc]at hi;cases hi;simp
 have osc:QR.one=true:=by rw[hsc];rfl
 have k4:∀i,i < H2.length→sB V.sc≠some i→h4[i]? =H2[i]? :=fun i hi hne=>by rw[hk4 i (by simp;omega) hne,Xv hi]
 have hNl:N < H2.length:=(Xr.1 e2).1;have RM:rb < H2.length:=(Xr.1 r2m).1;have hbl2:b < H2.length:=(Xr.1 m2).1;have Vm:∀j,some j∈V.ex b→j < N:=fun j hj=>by rw[hN];exact o.BO hj
 have ncN:sB V.sc≠some N:=fun e=>by have:=Vm N (by rw[←e];simp[HV.ex]);omega
 have nrN:sB V.sr≠some N:=fun e=>by have:=Vm N (by rw[←e];simp[HV.ex]);omega
 have hNr:N < rb:=by have:=(Xr.1 eN).1;omega
 have ncr:sB V.sc≠some rb:=fun e=>by have:=Vm rb (by rw[←e];simp[HV.ex]);omega
 have nrr:sB V.sr≠some rb:=fun e=>by have:=Vm rb (by rw[←e];simp[HV.ex]);omega
 have Vo: (fun h:ah=>h[b]? =some (.b [Q5,V.sc,V.sr])∧h[N]? =some (.b x'.row)∧h[rb]? =some (.b V8.row)) h4:=⟨(k4 b hbl2 d1b.1).trans m2,(k4 N hNl ncN).trans e2,(k4 rb RM ncr).trans r2m⟩;refine Rs t0 ?_;refine c7 Vo rfl rfl ?_;refine Rs t0 ?_;refine c7 Vo rfl rfl ?_;refine Rs t0 ?_;refine c7 Vo rfl rfl ?_;refine Rs t0 ?_;refine kD Vo (v:=V.sr) (fun g hg=>?_) ?_
 ·exact O5
 refine Rs t0 ?_;refine kD Vo (v:=.agg V8.row) (fun g hg=>?_) ?_
 ·simp only[aV,bd,bD,bE,reduceAdd,reduceMul,reduceLeDiff,reduceEqDiff,bF,hlen,XO,XR,t0,an hg.2.2,aF]
 refine Rs t0 ?_;refine c7 Vo rfl rfl ?_;refine Rs (A2 t0 @bs2) ?_;have x5:Ext h4 (h4++ [aq.cells V8.row true true]):=⟨_,rfl⟩;have hS5: (fun h:ah=>h[b]? =some (.b [Q5,V.sc,V.sr])∧h[N]? =some (.b x'.row)∧h[rb]? =some (.b V8.row)) (h4++ [aq.cells V8.row true true]):=⟨x5.some Vo.1,x5.some Vo.2.1,x5.some Vo.2.2⟩;have owr4:Ow B.length (h4++ [aq.cells V8.row true true]) V.sr 7 (V.cO.map RV.row):=UU.aC fun i hi=>by
  have hil:=(UU.bN hi).2;rw[Xv Om];exact k4 i hil fun e=>d1c i e hi
 refine c7 hS5 rfl rfl ?_;refine Rs t0 ?_;refine WR.HS (N:=B.length) (cs:=V.cO.map RV.row) (ys:=[V8.row]) owr4 (Fr.push (N:=0) (X3 _) [V8.row] (by intro y hy;rw[XT]at hy;rw[hy];rfl)).a8 (by simp only[Xs];omega) De Si (by simp only[XB,Xy,XA];omega) ?_;intro h6 hl6 hs6 hk6;have VD:V.cO.map RV.row++ [V8.row]= (V.cO++ [V8]).map RV.row:=by rw[XD];rfl
 rw[VD]at hs6;rw[VD];obtain⟨Q8,hsr⟩:∃Q8,Q8=AV.slice (h4++ [aq.cells V8.row true true]).length 0 ((V.cO++ [V8]).map RV.row).length 7:=⟨_,rfl⟩;rw[←hsr]at hs6 ⊢;have hl6':h6.length=H2.length+4:=by rw[hl6];simp;omega
 have U4:∀i,sB Q8=some i→H2.length+3=i:=fun i hi=>by rw[hsr]at hi;cases hi;simp;omega
 have osr:Q8.one=true:=by rw[hsr];rfl
 have k6:∀i,i < H2.length→sB V.sc≠some i→sB V.sr≠some i→h6[i]? =H2[i]? :=fun i hi n1 n2=>by
  rw[hk6 i (by simp;omega) n2,Xv Om];exact k4 i hi n1
 have hS6: (fun h:ah=>h[b]? =some (.b [Q5,V.sc,V.sr])∧h[N]? =some (.b x'.row)∧h[rb]? =some (.b V8.row)) h6:=⟨(k6 b hbl2 d1b.1 d1b.2).trans m2,(k6 N hNl ncN nrN).trans e2,(k6 rb RM ncr nrr).trans r2m⟩;refine Rs t0 ?_;refine oh hS6 rfl ?_;have m6:=hS6.1;have hb6:b < h6.length:=(Xr.1 m6).1;have sA:aW 1 (.ptr b 1) QR (fun z=>h6[z]?)=some (aB,.set b (.b [Q5,QR,V.sr])):=by
  rw[aM m6];exact bV osc Si
 have m7: (h6.set b (.b [Q5,QR,V.sr]))[b]? =some (.b [Q5,QR,V.sr]):=XL hb6;have sB2:aW 1 (.ptr b 2) Q8 (fun z=>(h6.set b (.b [Q5,QR,V.sr]))[z]?)=some (aB,.set b (.b [Q5,QR,Q8])):=by
  rw[aM m7];exact bV osr Si
 refine Rs (A3 t0 @sA @sB2) ?_;rw[List.set_set];obtain⟨gB2,hgB2⟩:=hB2;obtain⟨gz,hz⟩:=ux (X:=.b [Q5,QR,Q8]) oV2.hN (Dq (B:=B) (h:=h6) Om fun i hi=>by
  rw[k6 i Om (fun e=>by have:=(Wo.bN e).1;omega) (fun e=>by have:=(UU.bN e).1;omega),hgB2,Xv hi])
 have kz:∀i,i≠b→(h6.set b (.b [Q5,QR,Q8]))[i]? =h6[i]? :=fun i hi=>XK (YP hi)
 have oxm2:bo (fy (V1.ex b) H2) x':=oV2.ae x' (by rw[Tb];simp);have oR2:aD (fy (V1.ex b) H2) V8:=r8.o.ok.fy fun j hj hm=>by
  have h1:=(r8.o.dN hj).1;have h2:=TE.BO hm;omega
 have hBH1:B.length≤H1.length:=by rw[hB1];simp
 have fin:cF B.length (h6.set b (.b [Q5,QR,Q8])) b { V1 with fc:=V1.fc++ [x'],cO:=V1.cO++ [V8],sc:=QR,sr:=Q8 }:=by
  subst Tb;refine oV2.PY (fun i hi n1 n2 nb=>(kz i nb).trans (k6 i hi n1 n2)) (hs4.aC fun i hi=>?_) (hs6.aC fun i hi=>kz i ?_) (XL hb6) (fun i hi=>by have:=U6 i hi;omega) (fun i hi=>by have:=U4 i hi;omega) (fun i h1 h2=>by have:=U6 i h1;have:=U4 i h2;omega) oxm2 oR2 (fun j hj=>Yi hBH1 (r8.o.dN hj).1)
  ·have h1:=U6 i hi;rw[kz i Om,hk6 i (by simp;omega) (fun e=>by have:=(UU.bN e).2;omega),Xv Om]
  ·have h1:=U4 i hi;omega
 have hfr:∀i,i < (B++g).length→some i∉V.ex b→(B++gz)[i]? = (B++g)[i]? :=fun i hi hn=>by
  have hi1:=Vz i hi hn;have hil:i < H1.length:=by
   rw[Xw hi]at hi1;exact(Xr.1 hi1).1
  rw[←hz,kz i (fun e=>hn (by rw[e];simp[HV.ex])),k6 i (by rw[Us,Xs];omega) (fun e=>hn (by rw[←e];simp[HV.ex])) (fun e=>hn (by rw[←e];simp[HV.ex])),Us,Xv hil,hi1]
 have hlo: (B++g).length≤H.length:=by rw[TP];simp only[Xs];omega
 have hlo2:H.length≤H2.length:=by rw[Us,Xs,UR,Yd,Vc];simp only[Xs];omega
 have hexn:∀j,some j∈HV.ex b { V1 with fc:=V1.fc++ [x'],cO:=V1.cO++ [V8],sc:=QR,sr:=Q8 }→some j∈V.ex b∨(B++g).length≤j:=fun j hj=>by
  subst Tb;simp only[HV.ex,X9,Yt,Y7,X1]at hj ⊢;rcases hj with hj| hj| hj| hj
  ·exact .inl (.inl hj)
  ·have:=U5 j hj.symm;exact .inr Om
  ·have:=U6 j hj.symm;exact .inr Om
  ·have:=U4 j hj.symm;exact .inr Om
 refine⟨gz,_,hz,by rw[h2],by rw[←hz];exact fin,?_,hfr,hexn⟩;rw[XI h2,mT,Qu,XG h5,Tb];simp only[HV.bS,XD,Yr,Zf,Qt,hr8]
end
def HY{H e}(h:jT H e=0):e.num= (H.de.length:Int)+1∧(oT e= .e8→H.fc≠[])∧(oT e≠.e8→je H.now e (oT e)=0):=by
 unfold jT at h;split at h
 ·exact absurd h De
 case isFalse h1=>
 refine⟨Zl.1 h1,fun hk hn=>?_,fun hk=>by rw[XG hk]at h;exact h⟩;rw[XI hk,hn]at h;exact absurd h De
def HI{H e}(h:fG H e=0):gI e=0∧jT H e=0:=by
 unfold fG at h;split at h
 case isTrue h1=>exact absurd h h1
 case isFalse h1=>exact⟨Zl.1 h1,h⟩
theorem kC.oT{e d}(w:kC e d):Go.Abs.oT e=d:=by rw[Go.Abs.oT,w.kd];rfl
def lz.add{H e}(w:lz H)(h:fG H e=0):lz (mT H e):=by
 obtain⟨h1,h2⟩:=HI h;obtain⟨d,we⟩:=w9 h1;obtain⟨h3,h4,h5⟩:=HY h2;have Qu:=we.oT;unfold mT;split
 case isTrue hu=>
  have hl:=Zr.2 (h4 hu);have e1:=w.ln;have e2:=w.le;refine⟨fun R hR=>w.rg R ((List.dropLast_sublist _).mem hR),by simp[e1],?_,fun x hx=>?_,fun x hx=>w.cn x ((List.dropLast_sublist _).mem hx)⟩
  ·simp only[List.length_dropLast,Xs,XV];omega
  ·exact z116
 case isFalse hu=>
  have e1:=w.ln;have e2:=w.le;have hs:=h5 hu;rw[Qu]at hs hu;refine⟨fun R hR=>?_,by simp[e1],by simp only[Xs,XV];omega,fun x hx=>?_,fun x hx=>?_⟩
  ·rcases XC.1 hR with hR| hR
   ·exact w.rg R hR
   ·rw[XT]at hR;rw[hR,Qu];exact w.now.step we hu hs
  ·exact z116
  ·rcases XC.1 hx with hx| hx
   ·exact w.cn x hx
   ·rw[XT]at hx;subst hx;exact⟨d,we⟩
def vL{H e}: (mT H e).de.length=H.de.length+1:=by
 unfold mT;split<;>simp
def Iy(h:ah)(l:List gy)(v:AV)(k:ah):Prop:=
 ∃p,v= .dJ [p,.i (bU l).2.1,.i (bU l).2.2]∧((bU l).2.2≠0→p= .nilPtr)∧
  ((bU l).2.2=0→∃b V,p= .ptr b 0∧cF h.length k b V∧V.bS= (bU l).1∧lz V.bS∧V.de.length=l.length∧l.length≤1000)
structure Aa(L:List EV):Prop where
 l:L.length≤2^30
 e:∀x∈L,x.ev.names.length≤2^30∧x.ev.cC.length≤2^30
section
variable {P:Program} (T:fA P) {h:ah}
include T
theorem r78{L s}(o:fH h L s)(sh:Aa L)(gl:Gl h):aA P 78 [s] h (Iy h (L.map EV.ev)):=by
 have Sz:=sh.l;refine .kE 31 T.mix T.c78 ?_;intro ts hlen t0;unfold fn78;by_cases h1:1000 < L.length
 ·have q1:decide ((1000:Int)< (L.length:Int))=true:=Xz Om;refine Rs (A3 t0 o.sl.aP q1) ?_;have e:bU (L.map EV.ev)= (ki.zero,0,5):=by rw[bU,XI (by simpa using h1)]
  unfold Iy;rw[e];exact⟨_,rfl,fun _=>rfl,fun z=>absurd z De⟩
 have q1:decide ((1000:Int)< (L.length:Int))=false:=Xu Om;refine Rs (A3 t0 o.sl.aP q1) ?_;have e0:bU (L.map EV.ev)=rD ki.zero (L.map EV.ev) 0:=by rw[bU,XG (by simpa using h1)]
 obtain⟨b,hb⟩:∃b,b=h.length:=⟨_,rfl⟩;rw[←hb];refine WL.inv T.mix (fun m ts h'=>∃ (k:Nat) (g':ah) (V:HV),k≤L.length∧m=L.length - k∧h' =h++g'∧cF h.length (h++g') b V∧lz V.bS∧V.de.length=k∧bU (L.map EV.ev)=rD V.bS ((L.drop k).map EV.ev) k∧ts.length=31∧slot ts 5= .ptr b 0∧slot ts 14=s∧slot ts 15= .i L.length∧slot ts 16= .i k) L.length
  ⟨0,[aq.b [AV.af,.af,.af]],⟨[],[],[],.af,.af,.af⟩,Om,rfl,rfl,⟨Om,by rw[hb];exact bf,.nil,.nil,.nil,rh.2 ⟨fun _ _=>⟨by simp[sB],by simp[sB],by simp[sB]⟩,fun _ z=>by simp[sB]at z,fun _ z=>by simp[sB]at z⟩,(fun x hx=>by cases hx),(fun x hx=>by cases hx),(fun x hx=>by cases hx),(fun x hx=>by cases hx)⟩,lz.zero,rfl,e0,Sn,Sw,(Sq t0),Sw,iF⟩ ?_
 rintro _ ts _ ⟨k,g',V,hk,rfl,rfl,oV,wV,hVl,Qs,hlen,t5,t14,t15,t16⟩;by_cases hlt:k < L.length
 ·have e3:=fk hlt;have e5:IntKind.i64.wrap ((k:Int)+1)= ((k+1:Nat):Int):=wrapN Om;have ix:=o.sl.dG (kk:=.i64) hlt;have ld:∀{k'},Ext (h++g') k'→ao (some 5) (cV s 5 k) (fun b=>k'[b]?)=some (.agg (EV.row L[k]),.az):=fun {k'} e=>o.sl.kB hlt (Ext.trans (Ext.app g' (Ext.refl h)) e)
  obtain⟨x,hx⟩:∃x,x=L[k]:=⟨_,rfl⟩;have hm:x∈L:=by rw[hx];exact XJ _
  have hd:L.drop k=x::L.drop (k+1):=by rw[hx];simp
  rw[←hx]at ld;have ox:bo (h++g') x:=(o.all x hm).ext ⟨_,rfl⟩;have st:∀{b':Nat} {a0 a1 a2 a3 a4:AV},kL 5 0 (.agg x.row) b' (.b [a0,a1,a2,a3,a4])=some (aB,.set b' (.b x.row)):=fun {_ _ _ _ _ _}=>ox.st
  refine Rs (A9 t5 t14 t15 t16 e3 ix @ld @st @cg) ?_;rw[Xt h g'];rw[hd,Yr,rD]at Qs;refine WF.gen T.c112 (KY T (B:=h) (x:=x) (by rw[←Xt];exact oV.app _) wV Om (by rw[←Xt];exact ox.ext Xx) ⟨by have:=(sh.e x hm).1;omega,by have:=(sh.e x hm).2;omega⟩ gl) ?_;rintro _ _ ⟨g2,V2,rfl,rfl,o2,hV2,-,-⟩;by_cases h2:fG V.bS x.ev=0
  ·have q2:decide (fG V.bS x.ev≠0)=false:=Xu (fun z=>z h2);rw[XI h2]at hV2;rw[XG (fun z=>z h2)]at Qs;refine Rs (A6 t5 t14 t15 t16 q2 e5) ?_;refine⟨_,Om,k+1,g2,V2,Om,rfl,rfl,o2,by rw[hV2];exact wV.add h2,?_,by rw[hV2];exact Qs,rfl⟩;have:V2.bS.de.length=V.bS.de.length+1:=by rw[hV2];exact vL
   simpa [HV.bS,hVl]using this
  ·have q2:decide (fG V.bS x.ev≠0)=true:=Xz h2;rw[XI h2]at Qs;refine Rs (A6 t5 t14 t15 t16 q2 e5) ?_;unfold Iy;rw[Qs];refine⟨_,?_,fun _=>rfl,fun z=>absurd z h2⟩;simp
 ·have e3:=gq hlt;have e4:k=L.length:=Om
  have TH:bU (L.map EV.ev)= (V.bS,0,0):=by rw[Qs,e4,Ys];rfl
  refine Rs (A5 t5 t14 t15 t16 e3) ?_;unfold Iy;rw[TH];exact⟨_,rfl,fun z=>absurd rfl z,fun _=>⟨b,V,rfl,oV,rfl,wV,by simp;omega,by simp;omega⟩⟩
end
def jl(t:Int):Int:=bh t 0 999999999
def P7:decide ((0:Int)≠0)=false:=rfl
def gE(l:List gy)(t:Nat)(n:By):gJ×Int:=if(bU l).2.2≠0 then(gJ.zero,(bU l).2.2)else((bU l).1.now,bX (!dD (bU l).1.now t n) 10)
def cF.GX{N h b V}(o:cF N h b V):∀j,some j∈V.now.bl→N≤j:=by
 rw[HV.now,Ze];cases hx:V.cO.getLast? with
 | none=>intro j hj;simp[RV.zero,RV.bl,sB]at hj
 | some R=>exact o.lo R (List.mem_of_getLast? hx)
def yp{h X:ah}{A C:aq}{j:Nat}(hj:h.length+1≤j): (h++ [A]++X)[j]? = (h++ [C]++X)[j]? :=by
 exact Mb
section
variable {P:Program} (T:fA P) {h:ah}
include T
theorem r75(t:Int):aA P 75 [.i t] h (fun v _=>v= .i (jl t)):=by
 refine .kE 5 T.mix T.c75 ?_;intro ts hlen t0;unfold fn75 yS;refine Rs t0 ?_;refine WF.ce T.c94 (r94 T _ _ _) fun g1=>?_
 refine Rs t0 ?_;rfl
theorem Gz{l v k}(r:Iy h l v k)(he: (bU l).2.2≠0):v= .dJ [.nilPtr,.i (bU l).2.1,.i (bU l).2.2]:=by
 have:=T.mix;obtain⟨p,rfl,h1,_⟩:=r;rw[h1 he]
theorem AX{l v k}(r:Iy h l v k)(he: (bU l).2.2=0):∃b V,v= .dJ [.ptr b 0,.i 0,.i 0]∧cF h.length k b V∧V.bS= (bU l).1∧lz V.bS∧V.de.length=l.length∧l.length≤1000∧V.cO.length≤1000∧(bU l).2.1=0∧fo V.now.ar∧V.now.ar= (bU l).1.now∧aD k V.now∧∀j,some j∈V.now.bl→h.length≤j:=by
 have:=T.mix;obtain⟨p,rfl,_,h2⟩:=r;obtain⟨b,V,rfl,h3,h4,h5,h6,h7⟩:=h2 he;have hz: (bU l).2.1=0:=by
  revert he
  unfold bU;split
  ·intro _;rfl
  ·have key:∀ (l:List gy) (H:ki) (i:Nat),(rD H l i).2.2=0→(rD H l i).2.1=0:=by
    intro l
    induction l with
    | nil=>intro H i _;rfl
    | cons e l ih=>
     intro H i;rw[rD];split
     case isTrue hb=>intro hc;exact absurd hc hb
     case isFalse hb=>exact ih _ _
   exact key l _ _
 have hr:V.cO.length≤1000:=by
  have e1:=h5.ln;have e2:=h5.le;exact Jr
 exact⟨b,V,by rw[hz,he],h3,h4,h5,h6,h7,hr,hz,by rw[V.jq];exact h5.now,by rw[V.jq,h4],h3.rd.now,h3.GX⟩
theorem r73{L:List EV}{s:AV}(o:fH h L s)(sh:Aa L)(gl:Gl h){t:Nat}(ht:t < 6)(n:By):aA P 73 [s,.i t,.str n] h (fun v k=>∃V:RV,v= .dJ [.agg V.row,.i (gE (L.map EV.ev) t n).2]∧V.ar= (gE (L.map EV.ev) t n).1∧aD k V∧fo V.ar):=by
 refine .nj 31 T.mix T.c73 ?_;intro ts hlen t0 t1 t2;unfold fn73;refine Rs (A3 t0 t1 t2) ?_;refine WF.res T.c78 (r78 T (o.ext Xx) sh (gl.ext Xx)) ?_;intro v g hv;by_cases he: (bU (L.map EV.ev)).2.2=0
 ·obtain⟨b,V,rfl,oV,hV,wV,_,_,hr,_,wn,hn,on,lo⟩:=AX T hv he;have st:=@aD.st _ _ on;refine Rs (A4 t0 t1 t2 @P7) ?_;refine WF.ce T.c79 (r79 T (oV.rd.ext Xx) hr) fun g2=>?_
  refine Rs (A5 t0 t1 t2 @st @aF) ?_;refine WF.ce T.c86 (r86 T (on.ext Xx) wn.len ht _) fun g3=>?_
  refine Rs (A4 t0 t1 t2 @aF) ?_;refine WF.ce T.c85 (r85 T _ _) fun g4=>?_
  refine Rs (A5 t0 t1 t2 @st @aF) ?_;refine⟨V.now,?_,?_,?_,wn⟩
  ·rw[gE,XG (fun z=>z he),hn]
  ·rw[gE,XG (fun z=>z he),hn]
  ·refine(on.az (k:=h++ [aq.b V.now.row]++g) fun j hj=>yp (by have:=lo j hj;simpa using this)).ext Xx
 ·have R2:=Gz T hv he;subst R2;have q:decide ((bU (L.map EV.ev)).2.2≠0)=true:=Xz he;refine Rs (A4 t0 t1 t2 q) ?_;refine⟨RV.zero,?_,?_,aD.zero,fo.zero⟩
  ·rw[gE,XI he];rfl
  ·rw[gE,XI he];rfl
end
def GI{l t n}(h: (gE l t n).2=0): (bU l).2.2=0∧(gE l t n).1= (bU l).1.now∧n∈Iq (bU l).1.now t:=by
 unfold gE at h ⊢;split at h
 case isTrue h1=>exact absurd h h1
 case isFalse h1=>
  rw[XG h1];refine⟨Zl.1 h1,rfl,?_⟩;by_cases hh:dD (bU l).1.now t n=true
  ·unfold dD at hh;exact YH hh
  ·have:dD (bU l).1.now t n=false:=by simpa using hh
   simp only[this,bX]at h;exact absurd h De
def kT(l:List gy)(n:By)(t:Int):Bool×Int:=
 if aX [(gE l 2 n).2,jl t]≠0 then(false,aX [(gE l 2 n).2,jl t])else(eI (gE l 2 n).1 (kS (gE l 2 n).1 n) t,0)
def fp(l:List gy)(t:Int):List (By)×Int:=
 if aX [(bU l).2.2,jl t]≠0 then([],aX [(bU l).2.2,jl t])else(eX (bU l).1.now t,0)
def wY{a b}(h:aX [a,b]=0):a=0∧b=0:=by
 simp only[aX]at h;split at h
 ·rename_i ha;split at h
  ·rename_i hb;exact⟨ha,hb⟩
  ·rename_i hb;exact absurd h hb
 ·rename_i ha;exact absurd h ha
section
variable {P:Program} (T:fA P) {h:ah}
include T
theorem r16{L s}(o:fH h L s)(sh:Aa L)(gl:Gl h)(n:By)(t:Int):aA P 16 [s,.str n,.i t] h (fun v _=>v= .dJ [.bool (kT (L.map EV.ev) n t).1,.i (kT (L.map EV.ev) n t).2]):=by
 refine .nj 31 T.mix T.c16 ?_;intro ts hlen t0 t1 t2;unfold fn16;refine Rs (A3 t0 t1 t2) ?_;refine WF.res T.c73 (r73 T (o.ext Xx) sh (gl.ext Xx) (t:=2) De n) ?_;rintro _ g ⟨V,rfl,hV,oV,wV⟩;have st:∀{b':Nat} {a0 a1 a2 a3 a4 a5 a6:AV},kL 7 0 (.agg V.row) b' (.b [a0,a1,a2,a3,a4,a5,a6])=some (aB,.set b' (.b V.row)):=fun {_ _ _ _ _ _ _ _}=>oV.st
 refine Rs (A5 t0 t1 t2 @st @aF) ?_;refine WF.ce T.c75 (r75 T t) fun g1=>?_
 refine Rs (A3 t0 t1 t2) ?_;refine WF.ce T.c74 (r74 T (b9 [_,_]) Si) fun g2=>?_
 obtain⟨f,hf⟩:∃f,f=aX [(gE (L.map EV.ev) 2 n).2,jl t]:=⟨_,rfl⟩;rw[←hf,kT,←hf];by_cases h0:f=0
 case neg=>
  have q:decide (f≠0)=true:=Xz h0;rw[XI h0];exact Rs (A4 t0 t1 t2 q) Tv
 have q:decide (f≠0)=false:=Xu (fun z=>z h0);rw[XG (fun z=>z h0)];rw[hf]at h0;obtain⟨he,hne,hm⟩:=GI (wY h0).1;rw[←hne,←hV]at hm;refine Rs (A5 t0 t1 t2 q @aF) ?_;refine WF.res T.c77 (r77 T (oV.ext Xx) wV.len hm) ?_;rintro _ g3 ⟨x,hx,To,rfl⟩;refine Rs (A3 t0 t1 t2) ?_;refine WF.ce T.c76 (r76 T (oV.ext Xx) wV.len ((oV.e2 x hx).ext Xx) (wV.vS.sh x hx).2 (wV.vS.sh x hx).1 t) fun g4=>?_
 refine Rs (A3 t0 t1 t2) ?_;rw[To,hV]
theorem r17{L s}(o:fH h L s)(sh:Aa L)(gl:Gl h)(t:Int):aA P 17 [s,.i t] h (fun v k=>∃s',v= .dJ [s',.i (fp (L.map EV.ev) t).2]∧aK k s' 1 ((fp (L.map EV.ev) t).1.map au)):=by
 refine .eF 28 T.mix T.c17 ?_;intro ts hlen t0 t1;unfold fn17;refine Rs (A2 t0 t1) ?_;refine WF.res T.c78 (r78 T (o.ext Xx) sh (gl.ext Xx)) ?_;intro v g hv;obtain⟨p,hvp⟩:∃p,v= .dJ [p,.i (bU (L.map EV.ev)).2.1,.i (bU (L.map EV.ev)).2.2]:=by obtain⟨p,h1,_⟩:=hv;exact⟨p,h1⟩
 rw[hvp];refine Rs (A2 t0 t1) ?_;refine WF.ce T.c75 (r75 T t) fun g1=>?_
 refine Rs (A2 t0 t1) ?_;refine WF.ce T.c74 (r74 T (b9 [_,_]) Si) fun g2=>?_
 obtain⟨f,hf⟩:∃f,f=aX [(bU (L.map EV.ev)).2.2,jl t]:=⟨_,rfl⟩;rw[←hf,fp,←hf];by_cases h0:f=0
 case neg=>
  have q:decide (f≠0)=true:=Xz h0;rw[XI h0];refine Rs (A3 t0 t1 q) ?_;exact⟨_,rfl,.nil⟩
 have q:decide (f≠0)=false:=Xu (fun z=>z h0);rw[XG (fun z=>z h0)];rw[hf]at h0;obtain⟨b,V,hvb,oV,hV,wV,Un,hle,hr,hz,wn,hn,on,lo⟩:=AX T hv (wY h0).1;rw[hvp]at hvb;have hpb:p= .ptr b 0:=by injection hvb with h1;injection h1
 rw[hpb];refine Rs (A3 t0 t1 q) ?_;refine WF.ce T.c79 (r79 T (oV.rd.ext Xx) hr) fun g3=>?_
 refine Rs (A2 t0 t1) ?_;refine WF.res T.c80 (r80 T (on.ext Xx) wn.len wn.vS t) ?_;rintro v4 g4 h4;refine Rs (A2 t0 t1) ?_;rw[hn]at h4;exact⟨_,rfl,h4⟩
theorem r219{x:jh×AV}(ox:x.2.one=true){S:List gQ}{s:AV}(hs:aK h s 3 (S.map cj))(hl:S.length < 2^63){b:Nat}(hb:h[b]? =some (.b [s])):
  aA P 219 [.agg (bg x),.ptr b 0] h (fun v _=>v= .bool (decide (x.1.line∈S.map gQ.name))):=by
 refine .eF 9 T.mix T.c219 ?_;intro ts hlen t0 t1;unfold fn219;have lb:∀{k:ah} {n':Option Nat} {a:Nat},Ext h k→ao n' (.ptr b a) (fun z=>k[z]?)=cp n' a (.b [s]):=fun e=>an (e.some hb)
 unfold bg at t0;refine Rs (A4 t0 t1 @ox @lb) ?_;refine WF.ce T.c142 (r142 T (hs.ext Xx) hl _) fun g1=>?_
 rw[show(fun y:gQ=>decide (y.name=x.1.line))=fun y=>decide (gQ.name y=x.1.line)from rfl];refine Rs (A2 t0 t1) ?_;rw[eZ]
theorem r126{V:RV}(o:aD h V)(w:fo V.ar){p:By}(hp:p∈kN V.ar):aA P 126 [.agg V.row,.str p] h (fun v h'=>aK h' v 1 ((si V.ar p).map au)):=by
 refine .eF 20 T.mix T.c126 ?_;intro ts hlen t0 t1;unfold fn126;have Qm:=@aD.box _ _ o;have l:=w.len;have hpc:=gX (f:=p6.name) (l:=V.ar.aQ) (n:=p) (d:=GM) hp;have hj:=(w.pc _ hpc).1;refine Rs (A4 t0 t1 @Qm @aF) ?_;refine WF.ce T.c218 (r218 T (o.ext Xx) l hp) fun g1=>?_
 have pj: (da (jK V.ar p))[1]? =some (.str (jK V.ar p).BE):=rfl;unfold da;refine Rs (A3 t0 t1 @aF) ?_;refine WF.res T.c124 (r124 T (o.ext Xx) l hj) ?_;rintro _ g2 ⟨x,hx,To,rfl⟩;unfold bO;refine Rs (A3 t0 t1 @aF) ?_;have hin:∀x∈V.aE,x.1.bu.length < 2^30:=fun x hx=>by have:=(w.md x.1 (XZ hx)).2.1;omega
 refine WF.res T.c122 (r122 T (o.ext Xx) l hin _) ?_;rintro v3 g3 h3;have ov:=h3.one;have hsl: (iG V.ar x.1.mod).length < 2^30:=by
  have h1: (iG V.ar x.1.mod).length≤V.ar.lines.length:=by unfold iG;exact Ya _ _
  have:=w.l0;omega
 have sn:∀{N:Nat},kL 1 0 v3 N (.b [.af])=some (aB,.set N (.b [v3])):=fun {_}=>bV ov Si
 refine Rs (A6 t0 t1 @fE @eJ @ov @sn) ?_;refine WF.res T.c138 (r138 T (o.i2.ext Xx) o.iZ.1 (by have:=l.l2;omega) (fun y=>decide (y.1.line∈(iG V.ar x.1.mod).map gQ.name)) (fun y hy k e=>bG.of (a:=[]) T.c219 (r219 T (o.iZ.1 y hy) (h3.ext (Ext.trans Xx e)) Om (e.some bf)))) ?_;rintro s4 g4 h4;have QT: (V.ak.filter fun y=>decide (y.1.line∈(iG V.ar x.1.mod).map gQ.name)).length≤V.ak.length:=Ya _ _;refine Rs (A2 t0 t1) ?_;refine WF.res T.c137 (r137 T h4.a8 (fun x hx=>o.iZ.1 x ((YI.1 hx).1)) (by have:=l.l2;omega) (fun x=>x.1.name) (fun x hx k e=>bG.of (a:=[]) (c:=[]) T.c140 (r140 T x (o.iZ.1 x ((YI.1 hx).1))))) ?_
 rintro s5 g5 h5;have:=h5.a8;refine Rs (A2 t0 t1) ?_;have e:si V.ar p= (V.ak.filter fun y=>decide (y.1.line∈(iG V.ar x.1.mod).map gQ.name)).map fun x=>x.1.name:=by
  rw[si,←To];simp only[RV.ar,ZA,Za];rfl
 rw[e];exact this
def DX(l:List Int):Int×Int:=
 if aX [bX (decide (l.length=0)) 12,bX (decide (32 < l.length)) 5]≠0 then(0,aX [bX (decide (l.length=0)) 12,bX (decide (32 < l.length)) 5])
 else if aX (l.map fun n=>bh n 0 999999999)≠0 then(0,aX (l.map fun n=>bh n 0 999999999))else(fO l,0)
theorem r93(n:Int):aA P 93 [.i n] h (fun v _=>v= .i (bh n 0 999999999)):=by
 refine .kE 5 T.mix T.c93 ?_;intro ts hlen t0;unfold fn93 yS;refine Rs t0 ?_;refine WF.ce T.c94 (r94 T _ _ _) fun g1=>?_
 exact Rs t0 Tv
theorem r27{s l}(hs:aK h s 1 (l.map aL))(hl:l.length < 2^30):aA P 27 [s] h (fun v _=>v= .dJ [.i (DX l).1,.i (DX l).2]):=by
 refine .kE 27 T.mix T.c27 ?_;intro ts hlen t0;unfold fn27;refine Rs (A2 t0 hs.aP) ?_;refine WF.ce T.c85 (r85 T _ _) fun g1=>?_
 refine Rs (A2 t0 hs.aP) ?_;refine WF.ce T.c85 (r85 T _ _) fun g2=>?_
 refine Rs t0 ?_;refine WF.ce T.c74 (r74 T (b9 [_,_]) Si) fun g3=>?_
 have e1:decide ((l.length:Int)=0)=decide (l.length=0):=Zi.2 Om;have e2:decide ((32:Int)< (l.length:Int))=decide (32 < l.length):=Zi.2 Om;rw[e1,e2];obtain⟨f,hf⟩:∃f,f=aX [bX (decide (l.length=0)) 12,bX (decide (32 < l.length)) 5]:=⟨_,rfl⟩;rw[←hf,DX,←hf];by_cases h0:f=0
 case neg=>
  have q:decide (f≠0)=true:=Xz h0;rw[XI h0];exact Rs (A2 t0 q) Tv
 have q:decide (f≠0)=false:=Xu (fun z=>z h0);rw[XG (fun z=>z h0)];refine Rs (A2 t0 q) ?_;refine WF.res T.c92 (r92 T (hs.ext Xx) Om (fun n=>bh n 0 999999999) (fun n _ k _=>bG.of (a:=[]) (c:=[]) T.c93 (r93 T n))) ?_;rintro s4 g4 hf4;refine Rs t0 ?_;refine WF.ce T.c74 (r74 T hf4.a8 (by simp;omega)) fun g5=>?_
 by_cases h1:aX (l.map fun n=>bh n 0 999999999)=0
 case neg=>
  have q:decide (aX (l.map fun n=>bh n 0 999999999)≠0)=true:=Xz h1;rw[XI h1];exact Rs (A2 t0 q) Tv
 have q1:decide (aX (l.map fun n=>bh n 0 999999999)≠0)=false:=Xu (fun z=>z h1);rw[XG (fun z=>z h1)];have hb:∀n∈l,-1≤n∧n≤999999999:=fun n hn=>by
  rw[pN]at h1;split at h1
  ·exact absurd h1 De
  case isFalse hh=>
   have:=gS (n:=n) (lo:=0) (hi:=999999999) fun z=>hh (Y9.2 ⟨n,hn,by simpa using z⟩)
   omega
 refine Rs (A2 t0 q1) ?_;refine WF.ce T.c95 (r95 T (hs.ext Xx) hl hb) fun g6=>?_
 exact Rs t0 Tv
end
def yh(l:List gy)(n:By):List (By)×Int:=if(gE l 3 n).2≠0 then([],(gE l 3 n).2)else((lZ (gE l 3 n).1 n).map gP.name,0)
def DU{h X:ah}{A A' R R':aq}{j:Nat}(hj:h.length+2≤j): (h++ [A]++ [R]++X)[j]? = (h++ [A']++ [R']++X)[j]? :=by
 exact Mb
def Ez:aj:=((fn213).body.tl).hd
def Ln:aj:=Ez.tl.He
def OM:aj:=(fn213).body.tl.tl
def Lm: (fn213).body= .seq ((fn213).body.hd) (.seq (.seq Ez.hd (.block 0 (.eA (.t 6) [7] Ln.Di Ln.Cv))) OM):=rfl
section
variable {P:Program} (T:fA P) {h:ah}
include T
theorem r213{f:FuncId}{A:ay}(hA:ai P f=some A){a c:List AV}{L:List (gP×AV)}{pre:ah→Prop}(hi:IterM P f a c (L.map fun x=>[.agg (aU x)]) pre)(ho:∀x∈L,x.2.one=true)(hl:L.length≤2^30)(hp:pre h)(hpe:∀k,Ext h k→pre k):
  aA P 213 [.af,.func (.func f) a c] h (fun v k=>aK k v 4 (L.map aU)):=by
 refine .of T.mix T.c213 ?_;obtain⟨ts,Qn⟩:∃ts,ts=aT 13 [.af,.func (.func f) a c]:=⟨_,rfl⟩;have hlen:ts.length=13:=by rw[Qn];rfl
 have t0:slot ts 0= .af:=by rw[Qn];rfl
 have t1:slot ts 1= .func (.func f) a c:=by rw[Qn];rfl
 show WC P bR (fn213).body [] (aT 13 [.af,.func (.func f) a c]) h _;rw[←Qn,Lm];clear Qn;obtain⟨RR,Rg⟩:∃RR,RR=OM:=⟨_,rfl⟩;obtain⟨RA,VV⟩:∃RA,RA=Ln.Di:=⟨_,rfl⟩;obtain⟨RB,VU⟩:∃RB,RB=Ln.Cv:=⟨_,rfl⟩;rw[←Rg,←VV,←VU];unfold Ez fn213;simp only[aj.tl,aj.hd];refine Rs (A2 t0 t1) ?_;refine WC.iterM T.mix hA (a:=a) (c:=c) (Sq t0) hi (fun y hy=>by obtain⟨z,_,rfl⟩:=X2.1 hy;rfl)
  (fun mm i h' g=>∃sl:AV,h' =h++ [aq.b [sl]]∧h'.length+1≤mm∧mm≤h'.length+1+g.length∧i≤L.length∧∀R:aq,Fr mm (h'++ [R]++g) sl 4 ((L.take i).map aU)) (fun _ _ _=>False)
  (fun g=>⟨.af,rfl,Om,XH _,X3 _,fun R=>.nil⟩)
  (fun mm i h' g g' hI=>by
   obtain⟨sl,a1,a2,a3,a4,a5⟩:=hI;exact⟨sl,a1,a2,by rw[Xs];omega,a4,fun R=>by rw[←Xt];exact(a5 R).app _⟩)
  (fun X=>hpe _ Xx) (fun mm i h' g X Qz hI=>by obtain⟨sl,rfl,_⟩:=hI;exact hpe _ Xx) (fun mm i hi' h' g R B Qz hI=>?_) (fun e h' g Qz hI=>?_)
 ·obtain⟨sl,rfl,R4,UK,hi0,hfr⟩:=hI;have hiL:i < L.length:=by simpa using hi'
  rw[YC,VV,VU];obtain⟨x,hx⟩:∃x,x=L[i]:=⟨_,rfl⟩;have ox:=ho x (by rw[hx];exact XJ _);have QJ:L.take (i+1)=L.take i++ [x]:=by rw[hx,Ye,Xw hiL];rfl
  rw[←hx];unfold Ln Ez fn213;simp only[aj.tl,aj.hd,aj.He,aj.Di,aj.Cv,setArgs,aU];refine Rs (A3 t0 t1 @ox) ?_;refine⟨_,g++ [aq.b [AV.str x.1.name,.str x.1.gives,.str x.1.line,x.2]],by rw[←Xt],Qz,?_⟩;rw[←Xt];have lb:∀{Z:ah} {n a},ao n (.ptr h.length a) (fun z=>(h++ [aq.b [sl]]++ [B]++g++Z)[z]?)=cp n a (.b [sl]):=fun {_ _ _}=>an rM
  have lx:∀{n a},ao n (.ptr (h++ [aq.b [sl]]++ [R]++g).length a) (fun z=>(h++ [aq.b [sl]]++ [B]++g++ [aq.b [AV.str x.1.name,.str x.1.gives,.str x.1.line,x.2]])[z]?)=cp n a (.b [AV.str x.1.name,.str x.1.gives,.str x.1.line,x.2]):=fun {_ _}=>by
   have: (h++ [aq.b [sl]]++ [R]++g).length= (h++ [aq.b [sl]]++ [B]++g).length:=Si
   rw[this];exact an bf
  refine Rs (A5 t0 t1 @ox @lb @lx) ?_;obtain⟨gt,Ty⟩:∃gt,gt=g.take (mm - (h.length+2)):=⟨_,rfl⟩;have U7:h.length+2≤mm∧mm≤h.length+2+g.length:=by
   simp only[Xs,Xy,XA]at R4 UK;omega
  have hgl:gt.length=mm - (h.length+2):=by rw[Ty,Yq];omega
  have hgs:g=gt++g.drop (mm - (h.length+2)):=by rw[Ty,YR]
  have h0l: (h++ [aq.b [sl]]++ [B]++gt).length=mm:=by
   exact z167
  have hfs:Fr (h++ [aq.b [sl]]++ [B]++gt).length (h++ [aq.b [sl]]++ [B]++g++ [aq.b [AV.str x.1.name,.str x.1.gives,.str x.1.line,x.2]]++ [aq.cells [AV.str x.1.name,.str x.1.gives,.str x.1.line,x.2] true true]) sl 4 ((L.take i).map aU):=by
   rw[h0l];exact((hfr B).app _).app _
  have hext:Ext (h++ [aq.b [sl]]++ [B]++gt) (h++ [aq.b [sl]]++ [B]++g++ [aq.b [AV.str x.1.name,.str x.1.gives,.str x.1.line,x.2]]++ [aq.cells [AV.str x.1.name,.str x.1.gives,.str x.1.line,x.2] true true]):=by
   refine⟨g.drop (mm - (h.length+2))++ [aq.b [AV.str x.1.name,.str x.1.gives,.str x.1.line,x.2]]++ [aq.cells [AV.str x.1.name,.str x.1.gives,.str x.1.line,x.2] true true],?_⟩
   conv=>lhs;rw[hgs]
   simp only[Xt]
  refine WR.fw (h0:=h++ [aq.b [sl]]++ [B]++gt) (cs:=(L.take i).map aU) (ys:=[aU x]) hfs (Fr.push (N:=0) (X3 _) [aU x] (by simp[aU])).a8 De Si (by simp only[XB,Yq,Xy,XA];omega) hext ?_;intro g' hlg hff hkp;have hrow: (L.take i).map aU++ [aU x]= (L.take (i+1)).map aU:=by rw[QJ,XD];rfl
  rw[hrow]at hff;rw[hrow];obtain⟨sn,Q6⟩:∃sn,sn=AV.slice (h++ [aq.b [sl]]++ [B]++g++ [aq.b [AV.str x.1.name,.str x.1.gives,.str x.1.line,x.2]]++ [aq.cells [AV.str x.1.name,.str x.1.gives,.str x.1.line,x.2] true true]).length 0 ((L.take (i+1)).map aU).length 4:=⟨_,rfl⟩;rw[←Q6]at hff ⊢;have osn:sn.one=true:=by rw[Q6];rfl
  have st:aW 1 (.ptr h.length 0) sn (fun z=>(h++ [aq.b [sl]]++ [B]++gt++g')[z]?)=some (aB,.set h.length (.b [sn])):=by
   have: (h++ [aq.b [sl]]++ [B]++gt++g')[h.length]? =some (.b [sl]):=rM;rw[aM this];exact bV osn Si
  refine Rs (A3 t0 t1 @st) ?_;refine⟨h++ [aq.b [sn]],gt++g',by simp only[Xt],Si,fun y hy=>?_,sn,rfl,by simp only[Xs,Xy,XA];omega,?_,Om,fun R'=>?_⟩
  ·have RW:y < gt.length:=by
    simp only[Xs,Xy,XA]at hy;omega
   rw[Xv RW]
   conv=>rhs;rw[hgs]
   rw[Xv RW]
  ·exact z167
  ·rw[←h0l];refine hff.aC fun b hb=>?_
   have hbb:=(hff.bN hb).1;rw[h0l]at hbb;rw[Xt _ gt];exact DU Om
 ·by_cases QZ:e= .normal
  case neg=>rw[XG QZ]at hI;exact hI.elim
  subst QZ;rw[XI rfl]at hI;obtain⟨mm,sl,rfl,_,_,_,hfr⟩:=hI;rw[XB,X8]at hfr;rw[Rg];have hf:=(hfr aq.dead).a8;have lb:∀{n a},ao n (.ptr h.length a) (fun z=>(h++ [aq.b [sl]]++ [aq.dead]++g)[z]?)=cp n a (.b [sl]):=fun {_ _}=>an zH
  unfold OM fn213;simp only[aj.tl,aj.hd];refine Rs (A3 t0 t1 @lb) ?_;exact hf
theorem r118{f:FuncId}{A:ay}(hA:ai P f=some A){a c:List AV}{L:List (gP×AV)}{pre:ah→Prop}(hi:IterM P f a c (L.map fun x=>[.agg (aU x)]) pre)(ho:∀x∈L,x.2.one=true)(hl:L.length≤2^30)(hp:pre h)(hpe:∀k,Ext h k→pre k):
  aA P 118 [.func (.func f) a c] h (fun v k=>aK k v 4 (L.map aU)):=by
 refine .kE 5 T.mix T.c118 ?_;intro ts hlen t0;unfold fn118;refine Rs t0 ?_;refine WF.res T.c213 (r213 T hA hi ho hl hp hpe) ?_;rintro v g1 h1;refine Rs t0 ?_;exact h1
theorem r51{L:List EV}{s:AV}(o:fH h L s)(sh:Aa L)(gl:Gl h)(n:By):aA P 51 [s,.str n] h (fun v k=>∃s',v= .dJ [s',.i (yh (L.map EV.ev) n).2]∧aK k s' 1 ((yh (L.map EV.ev) n).1.map au)):=by
 refine .eF 22 T.mix T.c51 ?_;intro ts hlen t0 t1;unfold fn51;refine Rs (A2 t0 t1) ?_;refine WF.res T.c73 (r73 T (o.ext Xx) sh (gl.ext Xx) (t:=3) De n) ?_;rintro _ g ⟨V,rfl,hV,oV,wV⟩;have st:∀{b':Nat} {a0 a1 a2 a3 a4 a5 a6:AV},kL 7 0 (.agg V.row) b' (.b [a0,a1,a2,a3,a4,a5,a6])=some (aB,.set b' (.b V.row)):=fun {_ _ _ _ _ _ _ _}=>oV.st
 rw[yh];by_cases h0: (gE (L.map EV.ev) 3 n).2=0
 case neg=>
  have q:decide ((gE (L.map EV.ev) 3 n).2≠0)=true:=Xz h0;rw[XI h0];refine Rs (A4 t0 t1 @st q) ?_;exact⟨_,rfl,.nil⟩
 have q:decide ((gE (L.map EV.ev) 3 n).2≠0)=false:=Xu (fun z=>z h0);rw[XG (fun z=>z h0)];refine Rs (A5 t0 t1 @st q @aF) ?_;have hin:∀x∈V.aE,x.1.bu.length < 2^30:=fun x hx=>by have:=(wV.md x.1 (XZ hx)).2.1;omega
 have ov1:∀x∈iu V n,x.2.one=true:=fun x hx=>oV.iZ.2.1 x (YI.1 hx).1
 have hnl: (iu V n).length≤2^30:=by
  have h1: (iu V n).length≤V.aE.length:=by unfold iu;exact Ya _ _
  have:=wV.len.l3;omega
 refine WF.res T.c119 (r119 T (oV.ext Xx) n) ?_;rintro _ g1 ⟨rfl,hp⟩;refine Rs (A2 t0 t1) ?_;refine WF.res T.c118 (r118 T T.c214 (a:=[]) (qW T wV.len hin n _ _) ov1 hnl hp (fun k e=>pT.ext hp e)) ?_;rintro v2 g2 h2;refine Rs (A2 t0 t1) ?_;refine WF.res T.c117 (r117 T h2 ov1 Om (fun x=>x.1.name) (fun x hx k _=>bG.of (a:=[]) (c:=[]) T.c120 (r120 T x (ov1 x hx)))) ?_;rintro v3 g3 h3;refine Rs (A2 t0 t1) ?_;refine⟨_,rfl,?_⟩;have:=h3.a8;rw[←hV,←oR,Za (g:=gP.name)];exact this
end
structure Ab(N:Nat)(h:ah)(out:AV)(x:EV):Prop where
 n:Fr N h x.sn 1 (x.ev.names.map au)
 v:Fr N h x.sv 1 (x.ev.cC.map aL)
 dn:∀j,sB x.sn=some j→sB out≠some j
 dv:∀j,sB x.sv=some j→sB out≠some j
def Ab.ok{N h out x}(o:Ab N h out x):bo h x:=⟨o.n.a8,o.v.a8⟩
theorem Ab.app{N h out x}(o:Ab N h out x)(g:ah):Ab N (h++g) out x:=⟨o.n.app g,o.v.app g,o.dn,o.dv⟩
def ph(n:By)(e:gy):Bool:=
 match DH (oT e)with
 | none=>false
 | some 3=>true
 | some i=>decide (aN e i=n)
def J2(l:List gy):List gy:=l.mapIdx fun i e=>{ e with num:=(i:Int)+1 }
def mA(l:List gy)(n:By):List gy×Int:=
 if aX [(bU l).2.2,bX (decide ((bU l).2.2=0) && !dD (bU l).1.now 0 n) 10]≠0 then([],aX [(bU l).2.2,bX (decide ((bU l).2.2=0) && !dD (bU l).1.now 0 n) 10])
 else(J2 ((bU l).1.fc.filter (ph n)),0)
section
variable {P:Program} (T:fA P) {h:ah}
include T
theorem r87{L s}(hs:fH h L s)(hl:L.length≤2^30)(hle:∀x∈L,x.ev.names.length≤2^30∧x.ev.cC.length≤2^30):
  aA P 87 [s,.func (.func 91) [] []] h (fun v h'=>∃L':List EV,L'.map EV.ev=L.map EV.ev∧Fr h.length h' v 5 (L'.map EV.row)∧∀x∈L',Ab h.length h' v x):=by
 refine .eF 22 T.mix T.c87 ?_;intro ts hlen t0 t1;unfold fn87;refine Rs (A3 t0 t1 hs.sl.aP) ?_;refine WL.inv T.mix (fun n ts h'=>∃ (k:Nat) (out:AV) (L':List EV) (g:ah),k≤L.length∧n=L.length - k∧h' =h++g∧L'.map EV.ev= (L.take k).map EV.ev∧Fr h.length (h++g) out 5 (L'.map EV.row)∧(∀x∈L',Ab h.length (h++g) out x)∧
   ts.length=22∧slot ts 1= .func (.func 91) [] []∧slot ts 5=out∧slot ts 8=s∧slot ts 9= .i L.length∧slot ts 10= .i k) L.length
  ⟨0,.af,[],[],Om,rfl,Si,rfl,.nil,(fun x hx=>by cases hx),Sn,(Sq t1),Sw,(Sq t0),Sw,iF⟩ ?_
 rintro _ ts _ ⟨k,out,L',g,hk,rfl,rfl,hm,hfr,hin,hlen,t1,t5,t8,t9,t10⟩;have UP:L'.length=k:=by have:=X6 List.length hm;simp at this;omega
 by_cases hlt:k < L.length
 ·have e3:=fk hlt;have e5:IntKind.i64.wrap ((k:Int)+1)= ((k+1:Nat):Int):=wrapN Om;have ix:=hs.sl.dG (kk:=.i64) hlt;have ld:∀{k'},Ext (h++g) k'→ao (some 5) (cV s 5 k) (fun b=>k'[b]?)=some (.agg (EV.row L[k]),.az):=fun {k'} e=>hs.sl.kB hlt (Ext.trans Xx e)
  obtain⟨x,hx⟩:∃x,x=L[k]:=⟨_,rfl⟩;have R4:x∈L:=by rw[hx];exact XJ _
  have QJ:L.take (k+1)=L.take k++ [x]:=by rw[hx,Ye,Xw hlt];rfl
  rw[←hx]at ld;have ox:=hs.all x R4;have st:∀{b':Nat} {a0 a1 a2 a3 a4:AV},kL 5 0 (.agg x.row) b' (.b [a0,a1,a2,a3,a4])=some (aB,.set b' (.b x.row)):=fun {_ _ _ _ _ _}=>ox.st
  refine Rs (mY t1 t5 t8 t9 t10 e3 ix @ld @st @cg) ?_;refine WF.res T.c91 (r91 T x (ox.ext Xx) ⟨by have:=(hle x R4).1;omega,by have:=(hle x R4).2;omega⟩) ?_;rintro _ g1 ⟨x',Qt,rfl,fn,fv⟩;have Vv:bo (h++g++ [aq.b x.row]++g1) x':=⟨by rw[Qt];exact fn.a8,by rw[Qt];exact fv.a8⟩;have bs:=@bo.FT _ _ Vv;refine Rs (A6 t1 t5 t8 t9 t10 @bs) ?_;refine WR.fw (h0:=h) (cs:=L'.map EV.row) (ys:=[x'.row]) (((hfr.app _).app _).app _) (Fr.push (N:=0) (X3 _) [x'.row] (by intro y hy;rw[XT]at hy;rw[hy];rfl)).a8 De Si (by simp only[XB,Xy,XA];omega) Xx ?_;intro g' Qz hff hkp;have hrow:L'.map EV.row++ [x'.row]= (L'++ [x']).map EV.row:=by rw[XD];rfl
  rw[hrow]at hff;rw[hrow];obtain⟨sn,Q6⟩:∃sn,sn=AV.slice (h++g++ [aq.b x.row]++g1++ [aq.cells x'.row true true]).length 0 ((L'++ [x']).map EV.row).length 5:=⟨_,rfl⟩;rw[←Q6]at hff ⊢;have SS:∀i,sB sn=some i→(h++g++ [aq.b x.row]++g1).length+1=i:=fun i hi=>by rw[Q6]at hi;cases hi;simp;omega
  have hout:∀b,sB out=some b→b < (h++g).length:=fun b hb=>(hfr.bN hb).2
  have kp:∀i,i < (h++g++ [aq.b x.row]++g1).length→sB out≠some i→(h++g')[i]? = (h++g++ [aq.b x.row]++g1)[i]? :=fun i hi hne=>by
   rw[hkp i (by rw[Xs];omega) (fun b0 o n e he zz=>hne (by rw[he,zz];rfl)),Xv hi]
  refine Rs (A6 t1 t5 t8 t9 t10 e5) ?_;refine⟨_,Om,k+1,sn,L'++ [x'],g',Om,rfl,rfl,?_,hff,fun y hy=>?_,rfl,rfl⟩
  ·rw[XD,hm,QJ,XD];simp[Qt]
  ·rcases XC.1 hy with hy| hy
   ·have oy:=hin y hy;have ln:=fun j (hj:sB y.sn=some j)=>(oy.n.bN hj).2
    have lv:=fun j (hj:sB y.sv=some j)=>(oy.v.bN hj).2
    refine⟨((oy.n.app [aq.b x.row]).app g1).aC fun j hj=>kp j (by have:=ln j hj;simp only[Xs]at this ⊢;omega) (oy.dn j hj),((oy.v.app [aq.b x.row]).app g1).aC fun j hj=>kp j (by have:=lv j hj;simp only[Xs]at this ⊢;omega) (oy.dv j hj),fun j hj e=>?_,fun j hj e=>?_⟩
    ·have h1:=ln j hj;have h2:=SS j e;simp only[Xs]at h1 h2;omega
    ·have h1:=lv j hj;have h2:=SS j e;simp only[Xs]at h1 h2;omega
   ·rw[XT]at hy;subst hy;have ln:=fun j (hj:sB y.sn=some j)=>fn.bN hj
    have lv:=fun j (hj:sB y.sv=some j)=>fv.bN hj
    have en: (h++g++ [aq.b x.row]).length= (h++g).length+1:=by rw[Xs];rfl
    rw[←Qt]at fn fv;exact z31
 ·have e3:=gq hlt;have e4:k=L.length:=Om
  refine Rs (A6 t1 t5 t8 t9 t10 e3) ?_;rw[e4,X8]at hm;exact⟨L',hm,hfr,hin⟩
theorem r240{x}(ox:bo h x){b i:Nat}(hb:h[b]? =some (.b [.i (i:Int)]))(hi:i < x.ev.names.length)(n:By):aA P 240 [.agg x.row,.str n,.ptr b 0] h (fun v _=>v= .bool (decide (aN x.ev i=n))):=by
 refine .nj 13 T.mix T.c240 ?_;intro ts hlen t0 t1 t2;unfold fn240;have Qm:=@bo.box _ _ ox;have lb:∀{k:ah} {n':Option Nat} {a:Nat},Ext h k→ao n' (.ptr b a) (fun z=>k[z]?)=cp n' a (.b [.i (i:Int)]):=fun e=>an (e.some hb)
 have ix:=ox.n.dG (kk:=.i64) hi;have ev:aN x.ev i=x.ev.names[i]:=by rw[aN,Yc,Xw hi];rfl
 have ld:∀{k':ah},Ext h k'→ao none (cV x.sn 1 i) (fun b=>k'[b]?)=some (.str (aN x.ev i),.az):=fun {k'} e=>by
  rw[ev];exact ox.n.kO hi rfl e
 exact Rs (A8 t0 t1 t2 @Qm @lb @aO ix @ld) Tv
theorem r153{x}(ox:bo h x)(n:By):aA P 153 [.agg x.row,.str n] h (fun v _=>v= .bool true):=by
 refine .eF 5 T.mix T.c153 ?_;intro ts hlen t0 t1;unfold fn153;have Qm:=@bo.box _ _ ox;exact Rs (A3 t0 t1 @Qm) Tv
theorem r89{x d}(ox:bo h x)(wx:kC x.ev d){b n}(hb:h[b]? =some (.b [.str n])):aA P 89 [.agg x.row,.ptr b 0] h (fun v _=>v= .bool (ph n x.ev)):=by
 refine .eF 18 T.mix T.c89 ?_;intro ts hlen t0 t1;unfold fn89;have Qm:=@bo.box _ _ ox;have lb:∀{k:ah} {n':Option Nat} {a:Nat},Ext h k→ao n' (.ptr b a) (fun z=>k[z]?)=cp n' a (.b [.str n]):=fun e=>an (e.some hb)
 refine Rs (A3 t0 t1 @Qm) ?_;refine WF.res T.c90 (r90 T) ?_;rintro _ g2 ⟨vf,rfl,hk⟩;have lk:∀{z:AV},gV .s z false (.map (h++ [aq.b x.row]).length) (.str x.ev.kind) (fun b=>(h++ [aq.b x.row]++g2)[b]?)=k5 z false ((gF x.ev.kind).map vf):=hk.look;rw[wx.kd]at lk;have QY:∀{z:AV},_=some (vf d,ia.az):=@lk;obtain⟨rs,a,hv,hr,ha,hab⟩:=(hk.k d).ex;rw[hv]at QY;unfold ph;rw[wx.oT];unfold xI at hab;have hnl:=wx.nl;cases Qu:DH d with
 | none=>
  rw[Qu]at hab;have hab:a= .nilFunc:=hab;subst hab;have en:tK true (o6 .oQ .nilFunc .nilFunc)=some (.bool false):=rfl;exact Rs (A6 t0 t1 @bA @bT @QY @en) Tv
 | some i=>
  rw[Qu]at hab;by_cases h3:i=3
  ·subst h3;have hab:a= .func (.func 153) [] []:=hab;subst hab;have en:∀{A C:List AV},tK true (o6 .oQ (.func (.func 153) A C) .nilFunc)=some (.bool true):=rfl;refine Rs (A8 t0 t1 @bA @bT @QY @en @cg @lb) ?_;refine WF.ce T.c153 (r153 T (ox.ext Xx) n) fun g3=>?_
   exact Rs t0 Tv
  ·obtain⟨b3,rfl,Tz⟩:∃b',a= .func (.func 240) [] [.ptr b' 0]∧(h++ [aq.b x.row]++g2)[b']? =some (.b [.i (i:Int)]):=by
    split at hab
    ·rename_i hz;cases hz
    ·rename_i hz;cases hz;exact absurd rfl h3
    ·rename_i hz;cases hz;exact hab
   have hil:i < x.ev.names.length:=by
    rw[hnl];cases d<;>simp[DH]at Qu<;>first| (subst Qu;decide)| exact absurd Qu.symm h3
   have en:∀{A C:List AV},tK true (o6 .oQ (.func (.func 240) A C) .nilFunc)=some (.bool true):=rfl;refine Rs (A8 t0 t1 @bA @bT @QY @en @cg @lb) ?_;refine WF.ce T.c240 (a:=[]) (c:=[.ptr b3 0]) (r240 T (ox.ext Xx) (Ext.some Xx Tz) hil n) fun g3=>?_
   exact Rs t0 Tv
theorem r26{L s}(o:fH h L s)(sh:Aa L)(gl:Gl h)(n:By):aA P 26 [s,.str n] h (fun v k=>∃s' L',v= .dJ [s',.i (mA (L.map EV.ev) n).2]∧fH k L' s'∧L'.map EV.ev= (mA (L.map EV.ev) n).1):=by
 refine .eF 54 T.mix T.c26 ?_;intro ts hlen t0 t1;unfold fn26;refine Rs (A2 t0 t1) ?_;refine WF.res T.c78 (r78 T (o.ext Xx) sh (gl.ext Xx)) ?_;intro v g hv;obtain⟨p,hvp⟩:∃p,v= .dJ [p,.i (bU (L.map EV.ev)).2.1,.i (bU (L.map EV.ev)).2.2]:=by obtain⟨p,h1,_⟩:=hv;exact⟨p,h1⟩
 rw[hvp];by_cases he: (bU (L.map EV.ev)).2.2=0
 case neg=>
  have q:decide ((bU (L.map EV.ev)).2.2=0)=false:=Xu he;refine Rs (A3 t0 t1 q) ?_;refine WF.ce T.c85 (r85 T _ _) fun g1=>?_
  refine Rs (A2 t0 t1) ?_;refine WF.ce T.c74 (r74 T (b9 [_,_]) Si) fun g2=>?_
  have e1:aX [(bU (L.map EV.ev)).2.2,bX false 10]= (bU (L.map EV.ev)).2.2:=by rw[aX,XG he]
  have q2:decide ((bU (L.map EV.ev)).2.2≠0)=true:=Xz he;rw[e1];refine Rs (A3 t0 t1 q2) ?_;have e2:mA (L.map EV.ev) n= ([],(bU (L.map EV.ev)).2.2):=by
   rw[mA,q,ZL,e1,XI he]
  rw[e2];exact II
 obtain⟨b,V,hvb,oV,hV,wV,Un,hle,hr,hz,wn,hn,on,lo⟩:=AX T hv he;rw[hvp]at hvb;have hpb:p= .ptr b 0:=by injection hvb with h1;injection h1
 rw[hpb];have q:decide ((bU (L.map EV.ev)).2.2=0)=true:=Xz he;refine Rs (A3 t0 t1 q) ?_;refine WF.ce T.c79 (r79 T (oV.rd.ext Xx) hr) fun g1=>?_
 refine Rs (A3 t0 t1 @aF) ?_;refine WF.ce T.c86 (r86 T (on.ext Xx) wn.len (t:=0) De _) fun g2=>?_
 refine Rs (A2 t0 t1) ?_;refine WF.ce T.c85 (r85 T _ _) fun g3=>?_
 refine Rs (A2 t0 t1) ?_;refine WF.ce T.c74 (r74 T (b9 [_,_]) Si) fun g4=>?_
 rw[hn];rw[mA,q,YZ];obtain⟨f,hf⟩:∃f,f=aX [(bU (L.map EV.ev)).2.2,bX (!dD (bU (L.map EV.ev)).1.now 0 n) 10]:=⟨_,rfl⟩;rw[←hf];by_cases h0:f=0
 case neg=>
  have q:decide (f≠0)=true:=Xz h0;rw[XI h0];refine Rs (A3 t0 t1 q) ?_;exact II
 have q2:decide (f≠0)=false:=Xu (fun z=>z h0);rw[XG (fun z=>z h0)];obtain⟨Hs,Xn⟩:∃Hs,Hs=h++ [aq.b [AV.str n]]++g++g1++g2++g3++ [aq.cells [AV.i (bU (L.map EV.ev)).2.2,.i (bX (!dD (bU (L.map EV.ev)).1.now 0 n) 10)] true true]++g4:=⟨_,rfl⟩;have oH:yK Hs b V:=by rw[Xn];exact oV.rd.ext Xx
 have mn:Hs[h.length]? =some (.b [.str n]):=by rw[Xn];exact(show Ext (h++ [aq.b [AV.str n]]) _ from Xx).some bf
 rw[←Xn];have hb:=oH.hb;have lb:∀{k n a},Ext Hs k→ao n (.ptr b a) (fun z=>k[z]?)=cp n a (.b [V.se,V.sc,V.sr]):=fun {_ _ _} e=>an (e.some hb)
 have hcl:V.fc.length≤1000:=by
  have e1:=wV.le;have e2:V.bS.fc.length=V.fc.length:=by simp[HV.bS]
  have e3:V.bS.de.length=V.de.length:=by simp[HV.bS]
  have e4: (L.map EV.ev).length≤1000:=hle;omega
 have wc:∀x∈V.fc,∃d,kC x.ev d:=fun x hx=>wV.cn x.ev (XZ hx)
 have oone:∀x∈V.fc,x.sn.one=true∧x.sv.one=true:=fun x hx=>⟨(oH.ac x hx).n.one,(oH.ac x hx).v.one⟩
 refine Rs (A4 t0 t1 q2 @lb) ?_;refine WF.res T.c88 (r88 T oH.ic oone Om (fun x=>ph n x.ev) (fun x hx k e=>by
  obtain⟨d,wx⟩:=wc x hx;exact bG.of (a:=[]) T.c89 (r89 T ((oH.ac x hx).ext e) wx (e.some mn)))) ?_
 rintro s5 g5 h5;refine Rs (A2 t0 t1) ?_;obtain⟨F,hF⟩:∃F,F=V.fc.filter fun x=>ph n x.ev:=⟨_,rfl⟩
 rw[←hF]at h5;have hFm:∀x∈F,x∈V.fc:=fun x hx=>by rw[hF]at hx;exact(YI.1 hx).1
 have hFl:F.length≤1000:=by have:F.length≤V.fc.length:=by(rw[hF];exact Ya _ _)
                            omega
 have oF:fH (Hs++g5) F s5:=⟨h5.a8,fun x hx=>(oH.ac x (hFm x hx)).ext Xx⟩;refine WF.res T.c87 (r87 T oF Om (fun x hx=>by
  obtain⟨d,wx⟩:=wc x (hFm x hx);have h1:=wx.nl;have h2:=wx.vl;have h3: (bL d).length≤3∧cB d≤3:=by cases d<;>decide
  omega)) ?_
 rintro s6 g6 ⟨L6,VW,f6,i6⟩;obtain⟨Hb,hHb⟩:∃Hb,Hb=Hs++g5:=⟨_,rfl⟩;rw[←hHb]at f6 i6 ⊢;have hl6:L6.length=F.length:=by have:=X6 List.length VW;simpa using this
 refine Rs (A3 t0 t1 f6.a8.aP) ?_;refine WL.inv T.mix (fun m ts h'=>∃ (k:Nat) (g':ah) (L':List EV),k≤L6.length∧m=L6.length - k∧h' =Hb++g'∧L'.length=L6.length∧(∀i (h1:i < L'.length) (h2:i < L6.length),(L'[i]).ev=if i < k then { (L6[i]).ev with num:=(i:Int)+1 } else(L6[i]).ev)∧Fr Hb.length (Hb++g') s6 5 (L'.map EV.row)∧(∀x∈L',Ab Hb.length (Hb++g') s6 x)∧
   ts.length=54∧slot ts 10=s6∧slot ts 41=s6∧slot ts 42= .i L6.length∧slot ts 43= .i k) L6.length
  ⟨0,g6,L6,Om,rfl,rfl,rfl,fun i _ _=>by rw[XG Om],f6,i6,Sn,Sw,Sw,Sw,iF⟩ ?_
 clear t0 t1 hlen lb;clear ts;rintro _ ts _ ⟨k,g',L',hk,rfl,rfl,hlL,hev,hfr,hin,hlen,t10,t41,t42,t43⟩;by_cases hlt:k < L6.length
 ·have e3:=fk hlt;have e5:IntKind.i64.wrap ((k:Int)+1)= ((k+1:Nat):Int):=wrapN Om;have QX:k < L'.length:=Om
  have ix:=hfr.a8.dG (kk:=.i64) QX;refine Rs (A7 t10 t41 t42 t43 e3 e5 ix) ?_;obtain⟨x,hx⟩:∃x,x=L'[k]:=⟨_,rfl⟩;have Ru:x∈L':=by rw[hx];exact XJ _
  refine WR.uG (h0:=Hb) (x':={ x with ev:={ x.ev with num:=((k+1:Nat):Int) } }) hfr QX De rfl (by rw[←hx];rfl) ?_;intro g2 hlg hff hkp;have kp:∀j,sB s6≠some j→(Hb++g2)[j]? = (Hb++g')[j]? :=fun j hj=>hkp j fun b0 o n e he zz=>hj (by rw[he,zz];rfl)
  have Vy:∀y:EV,Ab Hb.length (Hb++g') s6 y→Ab Hb.length (Hb++g2) s6 y:=fun y oy=>⟨oy.n.aC fun j hj=>kp j (oy.dn j hj),oy.v.aC fun j hj=>kp j (oy.dv j hj),oy.dn,oy.dv⟩
  refine Rs (A5 t10 t41 t42 t43 e5) ?_;refine⟨_,Om,k+1,g2,L'.set k { x with ev:={ x.ev with num:=((k+1:Nat):Int) } },Om,rfl,rfl,by rw[Yd];exact hlL,fun i h1 h2=>?_,hff,fun y hy=>?_,rfl⟩
  ·by_cases Sh:i=k
   ·subst Sh;simp only[Zu];rw[XI Om];have:=hev i QX h2;rw[XG Om]at this;rw[hx,this];rfl
   ·simp only[ZV (YP Sh)];rw[hev i (by simpa using h1) h2];by_cases hil:i < k
    ·rw[XI hil,XI Om]
    ·rw[XG hil,XG Om]
  ·rcases Zd hy with hy| hy
   ·exact Vy y (hin y hy)
   ·rw[hy];have:=Vy x (hin x Ru);exact⟨this.n,this.v,this.dn,this.dv⟩
 ·have e3:=gq hlt;have e4:k=L6.length:=Om
  refine Rs (A5 t10 t41 t42 t43 e3) ?_;refine⟨by rw[hHb,Xn];exact Xx,s6,L',rfl,⟨hfr.a8,fun x hx=>(hin x hx).ok⟩,?_⟩;have e6: (bU (L.map EV.ev)).1.fc.filter (ph n)=L6.map EV.ev:=by
   rw[VW,hF,←hV];show List.filter _ (V.fc.map EV.ev)=_;rw[ZA];rfl
  rw[e6,J2];refine List.ext_getElem (by simp[hlL]) fun i h1 h2=>?_
  have h1':i < L'.length:=by simpa using h1
  rw[YC,hev i h1' Om,XI Om,List.getElem_mapIdx,YC]
end
end Go.Abs
