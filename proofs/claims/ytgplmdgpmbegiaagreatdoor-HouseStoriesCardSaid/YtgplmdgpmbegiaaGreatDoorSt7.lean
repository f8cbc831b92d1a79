/- A part of the proof that HouseStories holds. No condition. -/
import Derived.Test.YtgplmdgpmbegiaaGreatDoorSt6
import Derived.Test.YtgplmdgpmbegiaaGreatDoorSt0
set_option maxHeartbeats 4000000
set_option linter.all false
open Nat (reduceAdd reduceMul reduceLeDiff reduceEqDiff)
namespace Go.Abs
theorem bg.row{h x}(o:bg h x):x.row.all AV.one=true:=by
 simp only[EV.row,CW,CV,BX,F5,o.n.one,o.v.one,Bool.and_self]
def bg.box{h x}(o:bg h x){N}:pv (.agg x.row) N=some (.ptr N 0,.push (.b x.row)):=by
 have: (AV.agg x.row).cells=x.row:=rfl;simp only[pv,this,o.row,Ys]
def na{x:EV}:x.row[0]? =some (.i x.ev.num):=rfl
def a8{x:EV}:x.row[1]? =some (.str x.ev.kind):=rfl
def aM{x:EV}:x.row[2]? =some x.sn:=rfl
def aY{x:EV}:x.row[3]? =some x.sv:=rfl
def yc{x:EV}:x.row[4]? =some (.str x.ev.text):=rfl
def cj{x:EV}{mu tl:Bool}:dE (some 5) 0 (.cells x.row mu tl)=some (.agg x.row,.au):=rfl
def lX(d:Kd): (jS d).one=true:=by cases d<;>rfl
def lI(d:Kd): (pn d).one=true:=by cases d<;>rfl
def yb{l:List (By)}:bf (l.map fun s=>bV (!dW s) 8)=if l.any (fun s=>!dW s)then 8 else 0:=by
 induction l with
 | nil=>rfl
 | cons a l ih=>
  rw[YY,bf,ih,aai,bV];cases h:dW a<;>simp
def p7{l:List Int}:bf (l.map fun n=>bh n 0 999999999)=if l.any (fun n=>decide (bh n 0 999999999≠0))then 3 else 0:=by
 induction l with
 | nil=>rfl
 | cons a l ih=>
  rw[YY,bf,ih,aai];by_cases h:bh a 0 999999999=0
  ·simp[h]
  ·have h3:bh a 0 999999999=3:=by unfold bh at h ⊢;split<;>simp_all
   simp[h3]
def tU{n lo hi}(h:bh n lo hi≠0):bh n lo hi=3:=by unfold bh at h ⊢;split<;>simp_all
set_option maxRecDepth 10000
attribute [local irreducible] WP WC WE WB WR WF WL WG fT
section
variable {P:Program} (T:fy P) {h:ah}
include T
def r131(s:By):ay P 131 [.str s] h (fun v _=>v= .i (bV (!dW s) 8)):=by
 refine .of T.mix T.c131 ?_;unfold fn131;refine Wn ?_;refine WF.ce T.c132 (r132 T s) fun g1=>?_
 refine Wn ?_;refine WF.ce T.c85 (r85 T _ _) fun g2=>?_
 exact Wn Tv
def r133(n:Int):ay P 133 [.i n] h (fun v _=>v= .i (bh n 0 999999999)):=by
 refine .of T.mix T.c133 ?_;unfold fn133 zB;refine Wn ?_;refine WF.ce T.c94 (r94 T _ _ _) fun g1=>?_
 exact Wn Tv
def r67{x:EV}(o:bg h x)(hl:x.ev.names.length≤2^40∧x.ev.b9.length≤2^40):ay P 67 [.agg x.row] h (fun v _=>v= .i (gL x.ev)):=by
 refine .kM 53 T.mix T.c67 ?_;intro ts hlen t0;unfold fn67;have QU:=@bg.box _ _ o;refine Rs (A3 t0 @QU @na) ?_;refine WF.ce T.c94 (r94 T _ _ _) fun g1=>?_
 by_cases h0:bh x.ev.num 1 1000=0
 case neg=>
  have e0:decide (bh x.ev.num 1 1000≠0)=true:=X7 h0;refine Rs (A2 t0 e0) ?_;rw[gL,Yh h0];exact YC (AV.int .i64) (tU h0)
 have e0:decide (bh x.ev.num 1 1000≠0)=false:=X3 (fun z=>z h0);refine Rs (A2 t0 e0) ?_;refine WF.res T.c90 (r90 T) ?_;rintro _ g2 ⟨vf,rfl,hk⟩;have lk:∀{z:AV},gW .s z true (.map (h++ [ak.b x.row]++g1).length) (.str x.ev.kind) (fun b=>(h++ [ak.b x.row]++g1++g2)[b]?)=lF z true ((gJ x.ev.kind).map vf):=hk.look;cases hd:gJ x.ev.kind with
 | none=>
  rw[hd]at lk;have Rw:∀{z:AV},_=some (AV.dL [z,.bool false],iA.au):=@lk;refine Rs (A6 t0 @a8 @bT @Rw @iw @Yz) ?_;rw[gL,Yd (by simpa using h0),hd]
 | some d=>
  rw[hd]at lk;have Rw:∀{z:AV},_=some (AV.dL [vf d,.bool true],iA.au):=@lk;obtain⟨rs,a,hv,hr,ha,hab⟩:=(hk.k d).ex;rw[hv]at Rw;have hlr:=hr.aL;have c1:=lX d;have c2:=lI d;have c3:=hr.one;refine Rs (AF t0 @a8 @aM @aY @bT @Rw @Yw @c1 @c2 @c3 @ha @hlr o.n.aL o.v.aL) ?_;have esh:gL x.ev=if x.ev.names.length≠(bL d).length∨x.ev.b9.length≠cB d then 2 else bf [bf (x.ev.names.map fun s=>bV (!dW s) 8),bf (x.ev.b9.map fun n=>bh n 0 999999999),bV (decide (x.ev.text≠[])) 1]:=by
   rw[gL,Yd (by simpa using h0),hd,yb,p7];simp only;split
   ·rfl
   cases x.ev.names.any (fun s=>!dW s)with
   | true=>rfl
   | false=>
    cases x.ev.b9.any (fun n=>decide (bh n 0 999999999≠0))with
    | true=>rfl
    | false=>by_cases ht:x.ev.text= []<;>simp[bf,bV,ht]
  rw[esh];by_cases h1:x.ev.names.length= (bL d).length∧x.ev.b9.length=cB d
  case neg=>
   have e1: (!(decide ((x.ev.names.length:Int)= ((bL d).length:Int)) && (decide ((x.ev.b9.length:Int)= (cB d:Int)) && true)))=true:=by
    by_cases q1:x.ev.names.length= (bL d).length
    ·have q2:¬x.ev.b9.length=cB d:=fun z=>h1 ⟨q1,z⟩
     have q3:¬ (x.ev.b9.length:Int)= (cB d:Int):=Om
     simp[q3]
    ·have q3:¬ (x.ev.names.length:Int)= ((bL d).length:Int):=Om
     simp[q3]
   rw[e1,Yh Om];exact Rs t0 Tv
  have e1: (!(decide ((x.ev.names.length:Int)= ((bL d).length:Int)) && (decide ((x.ev.b9.length:Int)= (cB d:Int)) && true)))=false:=by
   rw[h1.1,h1.2];simp
  rw[e1,Yd Om];refine Rs (A3 t0 @aM @aY) ?_;refine WF.res T.c130 (r130 T (o.n.ext Xx) hl.1 (fun s=>bV (!dW s) 8) (fun s _ k _=>bF.of (a:=[]) (c:=[]) T.c131 (r131 T s))) ?_;rintro s6 g6 hf6;refine Rs (A3 t0 @aM @aY) ?_;refine WF.res T.c92 (r92 T (o.v.ext Xx) hl.2 (fun n=>bh n 0 999999999) (fun n _ k _=>bF.of (a:=[]) (c:=[]) T.c133 (r133 T n))) ?_;rintro s7 g7 hf7;refine Rs (A3 t0 @aM @aY) ?_;refine WF.ce T.c74 (r74 T (hf6.aX.ext Xx) (by simp;omega)) fun g8=>?_
  refine Rs t0 ?_;refine WF.ce T.c74 (r74 T (hf7.aX.ext Xx) (by simp;omega)) fun g9=>?_
  refine Rs (A2 t0 @yc) ?_;refine WF.ce T.c85 (r85 T _ _) fun g10=>?_
  refine Rs t0 ?_;refine WF.ce T.c74 (r74 T (cw [_,_,_]) Si) fun g11=>?_
  refine Rs t0 ?_;exact⟨Xx,trivial⟩
end
def Qo:List AV:=[.str dO,.str dO,.str dO,.str lZ,.str lZ,.str nZ,.str nZ,.str nZ]
def Gl(h:ah):Prop:=∃mu tl,h[0]? =some (.cells Qo mu tl)
def Gl.ext{h k}(o:Gl h)(e:Ext h k):Gl k:=by obtain⟨mu,tl,h1⟩:=o;exact⟨mu,tl,e.some h1⟩
structure Cx(h:ah)(V:RV)(x:EV)(d:Kd):Prop where
 o:aC h V
 w:fk V.an
 e:bg h x
 we:jG x.ev d
 nk:sG V.an x.ev d
def Cx.nm{h V x d}(c:Cx h V x d){i:Nat}(hi:i < (bL d).length):aZ 1 x.sn (.i (i:Int))=some (cV x.sn 1 i,.au)∧∀{k},Ext h k→aq none (cV x.sn 1 i) (fun b=>k[b]?)=some (.str (aO x.ev i),.au):=by
 have hi':i < x.ev.names.length:=by rw[c.we.nl];exact hi
 refine⟨c.e.n.dI hi',fun {k} e=>?_⟩;have:aO x.ev i=x.ev.names[i]:=by rw[aO,YJ,X6 hi'];rfl
 rw[this];exact c.e.n.ki hi' rfl e
theorem Cx.vl{h V x d}(c:Cx h V x d){i:Nat}(hi:i < cB d):aZ 1 x.sv (.i (i:Int))=some (cV x.sv 1 i,.au)∧(∀{k},Ext h k→aq none (cV x.sv 1 i) (fun b=>k[b]?)=some (.i (bG x.ev i),.au))∧0≤bG x.ev i∧bG x.ev i≤999999999:=by
 have hi':i < x.ev.b9.length:=by rw[c.we.vl];exact hi
 have:bG x.ev i=x.ev.b9[i]:=by rw[bG,YJ,X6 hi'];rfl
 refine⟨c.e.v.dI hi',fun {k} e=>?_,c.we.vr _ (ql hi')⟩;rw[this];exact c.e.v.ki hi' rfl e
theorem Cx.ext{h k V x d}(c:Cx h V x d)(e:Ext h k):Cx k V x d:=⟨c.o.ext e,c.w,c.e.ext e,c.we,c.nk⟩
def dM{c e l}(he:e≠0):bf (bV c e::l)=if c=true then e else bf l:=by
 cases c<;>simp[bf,bV,he]
def ug{a b c l}:bf (bh a b c::l)=if bh a b c≠0 then 3 else bf l:=by
 by_cases h:bh a b c=0
 ·simp[bf,h]
 ·simp[bf,h,tU h]
section
variable {P:Program} (T:fy P) {h:ah}
include T
def r148{V x}(c:Cx h V x .line):ay P 148 [.agg V.row,.agg x.row] h (fun v _=>v= .i (bA V.an x.ev .line)):=by
 refine .eD 17 T.mix T.c148 ?_;intro ts hlen t0 t1;unfold fn148;have QU:=@aC.box _ _ c.o;have hex:=@bg.box _ _ c.e;have i1:aZ 1 x.sv (.i 1)=_:=(c.vl (i:=1) De).1;have d1:=@(c.vl (i:=1) De).2.1;refine Rs (A7 t0 t1 @QU @hex @aY @i1 @d1) ?_;refine WF.ce T.c94 (r94 T _ _ _) fun g1=>?_
 refine Rs (A4 t0 t1 @ga c.o.i0.aL) ?_;refine WF.ce T.c85 (r85 T _ _) fun g2=>?_
 refine Rs (A2 t0 t1) ?_;refine WF.ce T.c74 (r74 T (cw [_,_]) Si) fun g3=>?_
 refine Rs (A2 t0 t1) ?_;rw[ug,dM De,bA];congr 2;simp only[YO,bf];congr 1;exact propext ⟨fun z=>(by have:V.an.lines.length=V.lines.length:=rfl;omega),fun z=>(by have:V.an.lines.length=V.lines.length:=rfl;omega)⟩
def r151{V x}(c:Cx h V x .tape):ay P 151 [.agg V.row,.agg x.row] h (fun v _=>v= .i (bA V.an x.ev .tape)):=by
 refine .eD 23 T.mix T.c151 ?_;intro ts hlen t0 t1;unfold fn151;have QU:=@aC.box _ _ c.o;have hex:=@bg.box _ _ c.e;have i0:aZ 1 x.sv (.i 0)=_:=(c.vl (i:=0) De).1;have d0:=@(c.vl (i:=0) De).2.1;have i1:aZ 1 x.sv (.i 1)=_:=(c.vl (i:=1) De).1;have d1:=@(c.vl (i:=1) De).2.1;have q0:=(c.vl (i:=0) De).2.2;have q1:=(c.vl (i:=1) De).2.2;have hw:IntKind.i64.wrap (bG x.ev 0+bG x.ev 1)=bG x.ev 0+bG x.ev 1:=bo Om Om;refine Rs (nv t0 t1 @QU @hex @aY @i0 @d0 @i1 @d1 @hw) ?_;refine WF.ce T.c85 (r85 T _ _) fun g1=>?_
 refine Rs (A4 t0 t1 @la c.o.i1.aL) ?_;refine WF.ce T.c85 (r85 T _ _) fun g2=>?_
 refine Rs (A2 t0 t1) ?_;refine WF.ce T.c74 (r74 T (cw [_,_]) Si) fun g3=>?_
 refine Rs (A2 t0 t1) ?_;rw[dM De,dM De,bA];congr 1;simp only[YO,bf];have e: ((16:Int)≤(V.aI.length:Int))= (16≤V.an.aI.length):=propext ⟨fun z=>(by have:V.an.aI.length=V.aI.length:=rfl;omega),fun z=>(by have:V.an.aI.length=V.aI.length:=rfl;omega)⟩;simp only[e]
def r241{V x n d}(c:Cx h V x d)(hd:0 < cB d)(hn:n∈jB V.an):ay P 241 [.agg V.row,.agg x.row,.str n] h (fun v _=>v= .i (bV (!jo V.an (bG x.ev 0) n) 30)):=by
 refine .nH 17 T.mix T.c241 ?_;intro ts hlen t0 t1 t2;unfold fn241;have QU:=@aC.box _ _ c.o;have hex:=@bg.box _ _ c.e;have i0:aZ 1 x.sv (.i 0)=_:=(c.vl (i:=0) hd).1;have d0:=@(c.vl (i:=0) hd).2.1;refine Rs (A6 t0 t1 t2 @QU @hex @aG) ?_;refine WF.ce T.c134 (r134 T (c.o.ext Xx) c.w.len hn) fun g1=>?_
 refine Rs (A6 t0 t1 t2 @aY @i0 @d0) ?_;refine WF.ce T.c135 (r135 T _ _) fun g2=>?_
 refine Rs (A3 t0 t1 t2) ?_;refine WF.ce T.c85 (r85 T _ _) fun g3=>?_
 refine Rs (A3 t0 t1 t2) ?_;rfl
def r155{V x}(c:Cx h V x .gg):ay P 155 [.agg V.row,.agg x.row] h (fun v _=>v= .i (bA V.an x.ev .gg)):=by
 refine .eD 27 T.mix T.c155 ?_;intro ts hlen t0 t1;unfold fn155;have QU:=@aC.box _ _ c.o;have hex:=@bg.box _ _ c.e;have i1:aZ 1 x.sn (.i 1)=_:=(c.nm (i:=1) De).1;have d1:=@(c.nm (i:=1) De).2;have i2:aZ 1 x.sn (.i 2)=_:=(c.nm (i:=2) De).1;have d2:=@(c.nm (i:=2) De).2;have k1:aO x.ev 1∈gE V.an:=c.nk.kn 1 0 rfl;have k2:aO x.ev 2∈jB V.an:=c.nk.kn 2 1 rfl;refine Rs (A8 t0 t1 @QU @hex @aG @aM @i1 @d1) ?_;refine WF.ce T.c205 (r205 T (c.o.ext Xx) c.w.len k1) fun g1=>?_
 unfold cp;refine Rs (A2 t0 t1) ?_;refine WF.ce T.c85 (r85 T _ _) fun g2=>?_
 refine Rs (A7 t0 t1 @aG @cj @aM @i2 @d2) ?_;refine WF.ce T.c241 (r241 T (c.ext Xx) De k2) fun g3=>?_
 refine Rs (A4 t0 t1 @fF c.o.i2.aL) ?_;refine WF.ce T.c85 (r85 T _ _) fun g4=>?_
 refine Rs (A2 t0 t1) ?_;refine WF.ce T.c74 (r74 T (cw [_,_,_]) Si) fun g5=>?_
 refine Rs (A2 t0 t1) ?_;rw[dM De,dM De,dM De,bA];simp only[YO,bf];have e: ((64:Int)≤(V.aj.length:Int))= (64≤V.an.aj.length):=by
  have:V.an.aj.length=V.aj.length:=by simp[RV.an]
  exact GP
 simp only[e]
end
def Bd{R a b}(ha:a∈jB R)(hb:b∈jB R): (decide ((jn R a).name= (jn R b).name) && (decide ((jn R a).last= (jn R b).last) && true))=decide (a=b):=by
 have e1: (jn R a).name=a:=gR ha;have e2: (jn R b).name=b:=gR hb;by_cases h:a=b
 ·subst h;simp
 ·rw[e1,e2];simp[h]
section
variable {P:Program} (T:fy P) {h:ah}
include T
def r157{V x}(c:Cx h V x .copy):ay P 157 [.agg V.row,.agg x.row] h (fun v _=>v= .i (bA V.an x.ev .copy)):=by
 refine .eD 35 T.mix T.c157 ?_;intro ts hlen t0 t1;unfold fn157;have QU:=@aC.box _ _ c.o;have hex:=@bg.box _ _ c.e;have i0:aZ 1 x.sn (.i 0)=_:=(c.nm (i:=0) De).1;have d0:=@(c.nm (i:=0) De).2;have i1:aZ 1 x.sn (.i 1)=_:=(c.nm (i:=1) De).1;have d1:=@(c.nm (i:=1) De).2;have k0:aO x.ev 0∈jB V.an:=c.nk.kn 0 1 rfl;have k1:aO x.ev 1∈jB V.an:=c.nk.kn 1 1 rfl;refine Rs (A8 t0 t1 @QU @hex @aG @aM @i0 @d0) ?_;refine WF.ce T.c134 (r134 T (c.o.ext Xx) c.w.len k0) fun g1=>?_
 refine Rs (A6 t0 t1 @aG @aM @i1 @d1) ?_;refine WF.ce T.c134 (r134 T (c.o.ext Xx) c.w.len k1) fun g2=>?_
 unfold dQ;refine Rs (A2 t0 t1) ?_;refine WF.ce T.c85 (r85 T _ _) fun g3=>?_
 rw[Bd k0 k1];have n0: (jn V.an (aO x.ev 0)).name=aO x.ev 0:=gR k0;have n1: (jn V.an (aO x.ev 1)).name=aO x.ev 1:=gR k1;refine Rs (A6 t0 t1 @aG @cj @n0 @n1) ?_;refine WF.ce T.c241 (r241 T (c.ext Xx) De k0) fun g4=>?_
 refine Rs (A6 t0 t1 @aG @cj @n0 @n1) ?_;refine WF.ce T.c241 (r241 T (c.ext Xx) De k1) fun g5=>?_
 refine Rs (A2 t0 t1) ?_;refine WF.ce T.c74 (r74 T (cw [_,_,_]) Si) fun g6=>?_
 refine Rs (A2 t0 t1) ?_;rw[dM De,dM De,dM De,bA];simp only[YO,bf];exact⟨Xx,trivial⟩
def r161{V x}(o:aC h V)(e:bg h x):ay P 161 [.agg V.row,.agg x.row] h (fun v _=>v= .i (bV (decide (32≤V.an.aD.length)) 5)):=by
 refine .eD 10 T.mix T.c161 ?_;intro ts hlen t0 t1;unfold fn161;have QU:=@aC.box _ _ o;have hex:=@bg.box _ _ e;refine Rs (A6 t0 t1 @QU @hex @fN o.i3.aL) ?_;refine WF.ce T.c85 (r85 T _ _) fun g1=>?_
 refine Rs (A2 t0 t1) ?_;have e:decide ((32:Int)≤(V.aD.length:Int))=decide (32≤V.an.aD.length):=by
  have:V.an.aD.length=V.aD.length:=by simp[RV.an]
  rw[ZS];omega
 rw[e]
def r244{V x d}(c:Cx h V x d)(hd:0 < cB d){y}(hm:y∈V.aj){b b'}(hb:h[b]? =some (.b V.row))(hb':h[b']? =some (.b x.row)):
  ay P 244 [.agg (bj y),.ptr b 0,.ptr b' 0] h (fun v _=>v= .bool (!iB V.an y.1 (bG x.ev 0))):=by
 refine .nH 13 T.mix T.c244 ?_;intro ts hlen t0 t1 t2;unfold fn244;have oy:=(c.o.e2 y hm).one;have lb:∀{k:ah} {n:Option Nat} {a:Nat},Ext h k→aq n (.ptr b a) (fun z=>k[z]?)=dE n a (.b V.row):=fun e=>az (e.some hb)
 have lc:∀{k:ah} {n:Option Nat} {a:Nat},Ext h k→aq n (.ptr b' a) (fun z=>k[z]?)=dE n a (.b x.row):=fun e=>az (e.some hb')
 have i0:aZ 1 x.sv (.i 0)=_:=(c.vl (i:=0) hd).1;have d0:=@(c.vl (i:=0) hd).2.1;have hsf:=fun(k:ah) (e:Ext h k)=>r76 T (c.o.ext e) c.w.len ((c.o.e2 y hm).ext e) (c.w.y3.sh y hm).2 (c.w.y3.sh y hm).1 (bG x.ev 0)
 unfold bj at t0 hsf;refine Rs (nv t0 t1 t2 @oy @lb @lc @aG @aY @i0 @d0) ?_;refine WF.ce T.c76 (hsf _ Xx) fun g1=>?_
 exact FO
def r159{V x}(c:Cx h V x .accept):ay P 159 [.agg V.row,.agg x.row] h (fun v _=>v= .i (bA V.an x.ev .accept)):=by
 refine .eD 36 T.mix T.c159 ?_;intro ts hlen t0 t1;unfold fn159;have QU:=@aC.box _ _ c.o;have hex:=@bg.box _ _ c.e;have i0:aZ 1 x.sn (.i 0)=_:=(c.nm (i:=0) De).1;have d0:=@(c.nm (i:=0) De).2;have k0:aO x.ev 0∈gE V.an:=c.nk.kn 0 0 rfl;refine Rs (A8 t0 t1 @QU @hex @aG @aM @i0 @d0) ?_;refine WF.ce T.c205 (r205 T (c.o.ext Xx) c.w.len k0) fun g1=>?_
 unfold cp;refine Rs (A6 t0 t1 @aG @aM @i0 @d0) ?_;refine WF.res T.c206 (r206 T (c.o.ext Xx) c.w.len _) ?_;rintro s2 g2 Rt;refine Rs (A2 t0 t1) ?_;have hin:∀y∈V.aj.filter (fun y=>decide (y.1.line=aO x.ev 0)),y∈V.aj:=fun y hy=>(Zk.1 hy).1
 have Ru: (V.aj.filter (fun y=>decide (y.1.line=aO x.ev 0))).length≤V.aj.length:=YK _ _;have Tc:=c.w.len.l2;refine WF.res T.c243 (r243 T (Rt.ext Xx) Om (fun y=>!iB V.an y.1 (bG x.ev 0)) (fun y hy k e=>bF.of (a:=[]) (c:=[.ptr h.length 0,.ptr (h++ [ak.b V.row]).length 0]) T.c244 (r244 T (c.ext (Ext.trans Xx e)) De (hin y hy) (e.some ?_) (e.some ?_)))) ?_
 ·exact uo
 ·exact sE
 rintro _ g3 rfl;refine Rs (A2 t0 t1) ?_;refine WF.ce T.c85 (r85 T _ _) fun g4=>?_
 have hl2:=Rt.aL;refine Rs (A3 t0 t1 @hl2) ?_;refine WF.ce T.c85 (r85 T _ _) fun g5=>?_
 refine Rs (A2 t0 t1) ?_;refine WF.ce T.c85 (r85 T _ _) fun g6=>?_
 refine Rs (A2 t0 t1) ?_;refine WF.ce T.c74 (r74 T (cw [_,_,_]) Si) fun g7=>?_
 refine Rs (A2 t0 t1) ?_;rw[dM De,dM De,dM De,bA];have e1: (zR V.an (aO x.ev 0))= (V.aj.filter (fun y=>decide (y.1.line=aO x.ev 0))).map Prod.fst:=by
  show List.filter _ (List.map Prod.fst V.aj)=_;rw[aaa];rfl
 rw[e1,Ya,List.any_map];simp only[YO,bf];refine⟨Xx,?_⟩;rfl
def r163{V x}(c:Cx h V x .fP)(gl:Gl h):ay P 163 [.agg V.row,.agg x.row] h (fun v _=>v= .i (bA V.an x.ev .fP)):=by
 refine .eD 35 T.mix T.c163 ?_;intro ts hlen t0 t1;unfold fn163;have QU:=@aC.box _ _ c.o;have hex:=@bg.box _ _ c.e;have i1:aZ 1 x.sn (.i 1)=_:=(c.nm (i:=1) De).1;have d1:=@(c.nm (i:=1) De).2;have j1:aZ 1 x.sv (.i 1)=_:=(c.vl (i:=1) De).1;have f1:=@(c.vl (i:=1) De).2.1;have k1:aO x.ev 1∈gP V.an:=c.nk.kn 1 3 rfl;obtain⟨gmu,gtl,hg0⟩:=gl;rw[bA];by_cases hn:1≤bG x.ev 1∧bG x.ev 1≤4
 case neg=>
  have hr:bh (bG x.ev 1) 1 4≠0:=by unfold bh;rw[Yh Om];decide
  rw[Yh hr];by_cases ha:bG x.ev 1 < 1
  ·have q1:decide (bG x.ev 1 < 1)=true:=X7 ha;exact Rs (A8 t0 t1 @QU @hex @aY @j1 @f1 q1) Tv
  ·have q1:decide (bG x.ev 1 < 1)=false:=X3 ha;have q2:decide (4 < bG x.ev 1)=true:=X7 Om;exact Rs (A9 t0 t1 @QU @hex @aY @j1 @f1 q1 q2) Tv
 have hr:¬bh (bG x.ev 1) 1 4≠0:=by unfold bh;rw[Yd Om];decide
 rw[Yd hr];have q1:decide (bG x.ev 1 < 1)=false:=X3 Om;have q2:decide (4 < bG x.ev 1)=false:=X3 Om;have hw:IntKind.i64.wrap (bG x.ev 1 - 1)=bG x.ev 1 - 1:=bo Om Om;have a1:mE 4 2 (.ptr 0 0) (.i (bG x.ev 1 - 1))=some (.ptr 0 ((bG x.ev 1 - 1).toNat * 2)):=by simp only[mE];rw[Yh Om,YR]
 have a2:mE 2 1 (.ptr 0 ((bG x.ev 1 - 1).toNat * 2)) (.i 0)=some (.ptr 0 ((bG x.ev 1 - 1).toNat * 2)):=by simp[mE]
 have lg:∀{k:ah},Ext h k→aq none (.ptr 0 ((bG x.ev 1 - 1).toNat * 2)) (fun b=>k[b]?)=some (.str (mL (bG x.ev 1)),.au):=by
  intro k e;exact PK
 refine Rs (GH t0 t1 @QU @hex @aM @aY @j1 @f1 q1 q2 @aG @i1 @d1) ?_;refine WF.res T.c245 (r245 T (c.o.ext Xx) c.w.len k1) ?_;rintro _ g1 ⟨y,hy,Uv,rfl⟩;unfold aV;refine Rs (A6 t0 t1 @hw @a1 @a2 @lg) ?_;refine WF.ce T.c85 (r85 T _ _) fun g2=>?_
 refine Rs (A4 t0 t1 @aG @cj) ?_;refine WF.ce T.c161 (r161 T (c.o.ext Xx) (c.e.ext Xx)) fun g3=>?_
 refine Rs (A2 t0 t1) ?_;refine WF.ce T.c74 (r74 T (cw [_,_]) Si) fun g4=>?_
 refine Rs (A2 t0 t1) ?_;rw[dM De,dM De,Uv];simp only[YO,bf]
def r165{V x}(c:Cx h V x .merge):ay P 165 [.agg V.row,.agg x.row] h (fun v _=>v= .i (bA V.an x.ev .merge)):=by
 refine .eD 36 T.mix T.c165 ?_;intro ts hlen t0 t1;unfold fn165;have QU:=@aC.box _ _ c.o;have hex:=@bg.box _ _ c.e;have i1:aZ 1 x.sn (.i 1)=_:=(c.nm (i:=1) De).1;have d1:=@(c.nm (i:=1) De).2;have i2:aZ 1 x.sn (.i 2)=_:=(c.nm (i:=2) De).1;have d2:=@(c.nm (i:=2) De).2;have k1:aO x.ev 1∈gP V.an:=c.nk.kn 1 3 rfl;have k2:aO x.ev 2∈gP V.an:=c.nk.kn 2 3 rfl;refine Rs (A9 t0 t1 @QU @hex @aM @i1 @d1 @i2 @d2) ?_;refine WF.ce T.c85 (r85 T _ _) fun g1=>?_
 refine Rs (A6 t0 t1 @aG @aM @i1 @d1) ?_;refine WF.res T.c245 (r245 T (c.o.ext Xx) c.w.len k1) ?_;rintro _ g2 ⟨y,hy,Uv,rfl⟩;unfold aV;refine Rs (A6 t0 t1 @aG @aM @i2 @d2) ?_;refine WF.res T.c245 (r245 T (c.o.ext Xx) c.w.len k2) ?_;rintro _ g3 ⟨z,hz,hz1,rfl⟩;unfold aV;refine Rs (A2 t0 t1) ?_;refine WF.ce T.c85 (r85 T _ _) fun g4=>?_
 refine Rs (A4 t0 t1 @aG @cj) ?_;refine WF.ce T.c161 (r161 T (c.o.ext Xx) (c.e.ext Xx)) fun g5=>?_
 refine Rs (A2 t0 t1) ?_;refine WF.ce T.c74 (r74 T (cw [_,_,_]) Si) fun g6=>?_
 refine Rs (A2 t0 t1) ?_;rw[dM De,dM De,dM De,bA,Uv,hz1];simp only[YO,bf]
def r247(y:gM):ay P 247 [.agg (cp y)] h (fun v _=>v= .bool (!y.acc)):=by
 refine .of T.mix T.c247 ?_;unfold fn247 cp;exact Wn Tv
def r167{V x}(c:Cx h V x .run):ay P 167 [.agg V.row,.agg x.row] h (fun v _=>v= .i (bA V.an x.ev .run)):=by
 refine .eD 27 T.mix T.c167 ?_;intro ts hlen t0 t1;unfold fn167;have QU:=@aC.box _ _ c.o;have hex:=@bg.box _ _ c.e;have i1:aZ 1 x.sn (.i 1)=_:=(c.nm (i:=1) De).1;have d1:=@(c.nm (i:=1) De).2;have j1:aZ 1 x.sv (.i 1)=_:=(c.vl (i:=1) De).1;have f1:=@(c.vl (i:=1) De).2.1;have hin:∀y∈V.aD,y.1.bw.length < 2^30:=fun y hy=>by have:=(c.w.md y.1 (Yx hy)).2.1;omega
 refine Rs (A8 t0 t1 @QU @hex @aG @aM @i1 @d1) ?_;refine WF.res T.c122 (r122 T (c.o.ext Xx) c.w.len hin _) ?_;rintro s1 g1 SJ;have hsl: (iJ V.an (aO x.ev 1)).length≤V.lines.length:=YK _ _;have Tc:=c.w.len.l0;refine Rs (A2 t0 t1) ?_;refine WF.ce T.c246 (r246 T SJ Om (fun y=>!y.acc) (fun y hy k e=>bF.of (a:=[]) (c:=[]) T.c247 (r247 T y))) fun g2=>?_
 refine Rs (A2 t0 t1) ?_;refine WF.ce T.c85 (r85 T _ _) fun g3=>?_
 refine Rs (A5 t0 t1 @aY @j1 @f1) ?_;refine WF.ce T.c94 (r94 T _ _ _) fun g4=>?_
 refine Rs (A4 t0 t1 @fZ c.o.i4.aL) ?_;refine WF.ce T.c85 (r85 T _ _) fun g5=>?_
 refine Rs (A2 t0 t1) ?_;refine WF.ce T.c74 (r74 T (cw [_,_,_]) Si) fun g6=>?_
 refine Rs (A2 t0 t1) ?_;rw[dM De,ug,dM De,bA];simp only[YO,bf];have e: ((16:Int)≤(V.aH.length:Int))= (16≤V.an.aH.length):=by
  have:V.an.aH.length=V.aH.length:=by simp[RV.an]
  exact GP
 simp only[e]
end
theorem ti:∀{l m} {i},cS (l++m) i=cS l i++cS m (i+l.length)
 | [],m,i=>by simp[cS]
 | x::l,m,i=>by
  have e:i+1+l.length=i+ (x::l).length:=by simp;omega
  rw[Zj,cS,cS,ti,e];split<;>simp
theorem jR:∀{l} {i},(cS l i).length≤l.length
 | [],i=>by simp[cS]
 | x::l,i=>by
  have:=jR (l:=l) (i:=i+1);rw[cS];split<;>simp<;>omega
section
variable {P:Program} (T:fy P) {h:ah}
include T
def r125{x}(hx:aK h x.2 1 (x.1.bz.map aJ))(hl:x.1.bz.length < 2^30)(hs:∀s∈x.1.bz,-1≤s):ay P 125 [.agg (bN x)] h (fun v h'=>aK h' v 1 ((cS x.1.bz 0).map aJ)):=by
 refine .kM 23 T.mix T.c125 ?_;intro ts hlen t0;unfold fn125;have ox:=hx.one;unfold bN at t0;refine Rs (A3 t0 @ox hx.aL) ?_;obtain⟨H0,U5⟩:∃H0,H0=h++ [ak.b [AV.str x.1.name,.str x.1.mod,x.2]]:=⟨_,rfl⟩;have e0:Ext h H0:=by rw[U5];exact Xx
 have lb:∀{k n a},Ext H0 k→aq n (.ptr h.length a) (fun z=>k[z]?)=dE n a (.b [AV.str x.1.name,.str x.1.mod,x.2]):=fun {_ _ _} e=>az (e.some (by rw[U5];exact ba))
 rw[←U5];refine WL.inv T.mix (fun n ts h'=>∃ (k:Nat) (out:AV),k≤x.1.bz.length∧n=x.1.bz.length - k∧Ext H0 h'∧Fr H0.length h' out 1 ((cS (x.1.bz.take k) 0).map aJ)∧
   ts.length=23∧slot ts 1= .ptr h.length 0∧slot ts 3=out∧slot ts 7= .i x.1.bz.length∧slot ts 8= .i k) x.1.bz.length
  ⟨0,.af,Om,rfl,Ext.refl _,.nil,Sn,(Sq t0),(Sq t0),(Sq t0),hP⟩ ?_
 rintro _ ts _ ⟨k,out,hk',rfl,⟨g,rfl⟩,hfr,hlen,t1,t3,t7,t8⟩;by_cases hlt:k < x.1.bz.length
 ·have e3:=eT hlt;have ix:=hx.dI (kk:=.i64) hlt;have ld:∀{k':ah},Ext H0 k'→aq none (cV x.2 1 k) (fun b=>k'[b]?)=some (.i x.1.bz[k],.au):=fun {k'} e=>hx.ki hlt rfl (e0.trans e)
  have e5:=wrapN (n:=k) Om;have Rh:cS (x.1.bz.take (k+1)) 0=cS (x.1.bz.take k) 0++ (if x.1.bz[k] < 0 then [(k:Int)]else []):=by
   exact PJ
  have hsk:=hs _ (Yi hlt);by_cases hn:x.1.bz[k]= -1
  ·have q:decide (x.1.bz[k]= -1)=true:=X7 hn;rw[Yh Om]at Rh;refine Rs (A9 t1 t3 t7 t8 e3 @lb ix @ld q) ?_;have Tc:=jR (l:=x.1.bz.take k) (i:=0);refine WR.fL (h0:=H0) (cs:=(cS (x.1.bz.take k) 0).map aJ) (ys:=[aJ (k:Int)]) (hfr.app _) (Fr.push (N:=0) (YB _) [aJ (k:Int)] Si).aX De Si (by simp only[Ya,Y5,X8,X9]at Tc ⊢;omega) Xx ?_;intro g' Q7 hff hkp;have hrow: (cS (x.1.bz.take k) 0).map aJ++ [aJ (k:Int)]= (cS (x.1.bz.take (k+1)) 0).map aJ:=by rw[Rh,Yc];rfl
   rw[hrow]at hff;rw[hrow];refine Rs (A5 t1 t3 t7 t8 e5) ?_;exact z51
  ·have q:decide (x.1.bz[k]= -1)=false:=X3 hn;rw[Yd Om,Yu]at Rh;rw[←Rh]at hfr;refine Rs (nv t1 t3 t7 t8 e3 @lb ix @ld q e5) ?_;exact⟨_,Om,k+1,_,Om,rfl,hfr,rfl,rfl⟩
 ·have e3:=fQ hlt;have e4:k=x.1.bz.length:=Om
  rw[e4,YF]at hfr;have:=hfr.aX;refine Rs (A5 t1 t3 t7 t8 e3) ?_;exact⟨e0.trans Xx,this⟩
def r249{V x d}(c:Cx h V x d)(hd:1 < cB d)(h0:0 < (bL d).length)(k0:aO x.ev 0∈iE V.an):ay P 249 [.agg V.row,.agg x.row] h (fun v _=>v= .i (jF V.an x.ev)):=by
 refine .eD 28 T.mix T.c249 ?_;intro ts hlen t0 t1;unfold fn249;have QU:=@aC.box _ _ c.o;have hex:=@bg.box _ _ c.e;have i0:aZ 1 x.sn (.i 0)=_:=(c.nm (i:=0) h0).1;have d0:=@(c.nm (i:=0) h0).2;have j1:aZ 1 x.sv (.i 1)=_:=(c.vl (i:=1) hd).1;have f1:=@(c.vl (i:=1) hd).2.1;have q1:=(c.vl (i:=1) hd).2.2;refine Rs (A8 t0 t1 @QU @hex @aG @aM @i0 @d0) ?_;refine WF.ce T.c251 (r251 T (c.o.ext Xx) c.w.len _) fun g1=>?_
 refine Rs (A2 t0 t1) ?_;refine WF.ce T.c85 (r85 T _ _) fun g2=>?_
 refine Rs (A9 t0 t1 @aY @j1 @f1 @aG @aM @i0 @d0) ?_;refine WF.res T.c124 (r124 T (c.o.ext Xx) c.w.len k0) ?_;rintro _ g3 ⟨y,hy,Uv,rfl⟩;have SO:=(c.o.e4 y hy).aL;have TR:=(c.w.jb y.1 (Yx hy)).2;have hw:IntKind.i64.wrap ((y.1.bz.length:Int) - 1)= (y.1.bz.length:Int) - 1:=bo Om Om;unfold bN;refine Rs (A4 t0 t1 @SO @hw) ?_;refine WF.ce T.c94 (r94 T _ _ _) fun g4=>?_
 refine Rs (A2 t0 t1) ?_;refine WF.ce T.c74 (r74 T (cw [_,_]) Si) fun g5=>?_
 refine Rs (A2 t0 t1) ?_;rw[dM De,ug,jF,←Uv];have e: (bh (bG x.ev 1) 0 ((y.1.bz.length:Int) - 1)≠0)= ((y.1.bz.length:Int)≤bG x.ev 1):=by
  unfold bh;refine propext ⟨fun z=>?_,fun z=>?_⟩
  ·split at z
   ·omega
   ·exact absurd rfl z
  ·rw[Yh Om];decide
 simp only[e,bf]
def r169{V x}(c:Cx h V x .fM):ay P 169 [.agg V.row,.agg x.row] h (fun v _=>v= .i (bA V.an x.ev .fM)):=by
 refine .eD 27 T.mix T.c169 ?_;intro ts hlen t0 t1;unfold fn169;have QU:=@aC.box _ _ c.o;have hex:=@bg.box _ _ c.e;have i0:aZ 1 x.sn (.i 0)=_:=(c.nm (i:=0) De).1;have d0:=@(c.nm (i:=0) De).2;have j1:aZ 1 x.sv (.i 1)=_:=(c.vl (i:=1) De).1;have f1:=@(c.vl (i:=1) De).2.1;have q1:=(c.vl (i:=1) De).2.2;have k0:aO x.ev 0∈iE V.an:=c.nk.kn 0 4 rfl;refine Rs (A6 t0 t1 @QU @hex @aG @cj) ?_;refine WF.ce T.c249 (r249 T (c.ext Xx) De De k0) fun g1=>?_
 by_cases hb:jF V.an x.ev=0
 case neg=>
  exact JT
 have e1:decide (jF V.an x.ev≠0)=false:=X3 (fun z=>z hb);refine Rs (A7 t0 t1 e1 @aG @aM @i0 @d0) ?_;refine WF.res T.c124 (r124 T (c.o.ext Xx) c.w.len k0) ?_;rintro _ g2 ⟨y,hy,Uv,rfl⟩;have TR:=(c.w.jb y.1 (Yx hy)).2;have hlt: (bG x.ev 1).toNat < y.1.bz.length:=by
  exact z162
 have V4:bG x.ev 1= ((bG x.ev 1).toNat:Int):=Om
 have iy:aZ 1 y.2 (.i (bG x.ev 1))=some (cV y.2 1 (bG x.ev 1).toNat,.au):=by
  rw[V4];exact(c.o.e4 y hy).dI hlt
 have hsm:fE V.an x.ev=y.1.bz[(bG x.ev 1).toNat]:=by
  exact JJ
 have ly:∀{k:ah},Ext h k→aq none (cV y.2 1 (bG x.ev 1).toNat) (fun b=>k[b]?)=some (.i (fE V.an x.ev),.au):=fun {k} e=>by
  rw[hsm];exact(c.o.e4 y hy).ki hlt rfl e
 have hsb:=TR.2.2 _ (Yi hlt);rw[←hsm]at hsb;unfold bN;refine Rs (A7 t0 t1 @aY @j1 @f1 @iy @ly) ?_;refine WF.ce T.c85 (r85 T _ _) fun g3=>?_
 refine Rs (A2 t0 t1) ?_;rw[bA,Yd (fun z=>z hb),bV];have e2: (decide (fE V.an x.ev≠-1)=true)= (0≤fE V.an x.ev):=by
  exact JG
 simp only[e2]
def r171{V x}(c:Cx h V x .fail):ay P 171 [.agg V.row,.agg x.row] h (fun v _=>v= .i (bA V.an x.ev .fail)):=by
 refine .eD 27 T.mix T.c171 ?_;intro ts hlen t0 t1;unfold fn171;have QU:=@aC.box _ _ c.o;have hex:=@bg.box _ _ c.e;have i0:aZ 1 x.sn (.i 0)=_:=(c.nm (i:=0) De).1;have d0:=@(c.nm (i:=0) De).2;have j1:aZ 1 x.sv (.i 1)=_:=(c.vl (i:=1) De).1;have f1:=@(c.vl (i:=1) De).2.1;have q1:=(c.vl (i:=1) De).2.2;have k0:aO x.ev 0∈iE V.an:=c.nk.kn 0 4 rfl;refine Rs (A6 t0 t1 @QU @hex @aG @cj) ?_;refine WF.ce T.c249 (r249 T (c.ext Xx) De De k0) fun g1=>?_
 by_cases hb:jF V.an x.ev=0
 case neg=>
  exact JT
 have e1:decide (jF V.an x.ev≠0)=false:=X3 (fun z=>z hb);refine Rs (A7 t0 t1 e1 @aG @aM @i0 @d0) ?_;refine WF.res T.c124 (r124 T (c.o.ext Xx) c.w.len k0) ?_;rintro _ g2 ⟨y,hy,Uv,rfl⟩;have TR:=(c.w.jb y.1 (Yx hy)).2;have hlt: (bG x.ev 1).toNat < y.1.bz.length:=by
  exact z162
 have V4:bG x.ev 1= ((bG x.ev 1).toNat:Int):=Om
 have iy:aZ 1 y.2 (.i (bG x.ev 1))=some (cV y.2 1 (bG x.ev 1).toNat,.au):=by
  rw[V4];exact(c.o.e4 y hy).dI hlt
 have hsm:fE V.an x.ev=y.1.bz[(bG x.ev 1).toNat]:=by
  exact JJ
 have ly:∀{k:ah},Ext h k→aq none (cV y.2 1 (bG x.ev 1).toNat) (fun b=>k[b]?)=some (.i (fE V.an x.ev),.au):=fun {k} e=>by
  rw[hsm];exact(c.o.e4 y hy).ki hlt rfl e
 have hsb:=TR.2.2 _ (Yi hlt);rw[←hsm]at hsb;unfold bN;refine Rs (A7 t0 t1 @aY @j1 @f1 @iy @ly) ?_;refine WF.ce T.c85 (r85 T _ _) fun g3=>?_
 refine Rs (A2 t0 t1) ?_;rw[bA,Yd (fun z=>z hb),bV];have e2: (decide (fE V.an x.ev= -1)=true)= (fE V.an x.ev < 0):=by
  exact JG
 simp only[e2]
def r173{V x}(c:Cx h V x .gh):ay P 173 [.agg V.row,.agg x.row] h (fun v _=>v= .i (bA V.an x.ev .gh)):=by
 refine .eD 31 T.mix T.c173 ?_;intro ts hlen t0 t1;unfold fn173;have QU:=@aC.box _ _ c.o;have hex:=@bg.box _ _ c.e;have i1:aZ 1 x.sn (.i 1)=_:=(c.nm (i:=1) De).1;have d1:=@(c.nm (i:=1) De).2;have k1:aO x.ev 1∈iE V.an:=c.nk.kn 1 4 rfl;refine Rs (A8 t0 t1 @QU @hex @aG @aM @i1 @d1) ?_;refine WF.res T.c124 (r124 T (c.o.ext Xx) c.w.len k1) ?_;rintro _ g1 ⟨y,hy,Uv,rfl⟩;have TR:=(c.w.jb y.1 (Yx hy)).2;refine Rs (A2 t0 t1) ?_;refine WF.res T.c125 (r125 T (x:=y) ((c.o.e4 y hy).ext Xx) Om (fun s hs=>(TR.2.2 s hs).1)) ?_;rintro s2 g2 Rt;have hl2:=Rt.aL;refine Rs (A6 t0 t1 @aG @aM @i1 @d1) ?_
 refine WF.ce T.c251 (r251 T (c.o.ext Xx) c.w.len _) fun g3=>?_
 refine Rs (A2 t0 t1) ?_;refine WF.ce T.c85 (r85 T _ _) fun g4=>?_
 refine Rs (A3 t0 t1 @hl2) ?_;refine WF.ce T.c85 (r85 T _ _) fun g5=>?_
 refine Rs (A4 t0 t1 @gT c.o.i5.aL) ?_;refine WF.ce T.c85 (r85 T _ _) fun g6=>?_
 refine Rs (A2 t0 t1) ?_;refine WF.ce T.c74 (r74 T (cw [_,_,_]) Si) fun g7=>?_
 refine Rs (A2 t0 t1) ?_;rw[dM De,dM De,dM De,bA,←Uv];have e1: (decide ((0:Int)< ((cS y.1.bz 0).length:Int))=true)= (cS y.1.bz 0≠[]):=by
  rw[YO];refine propext ⟨fun z e=>by rw[e]at z;simp at z,fun z=>by have:=Z0.2 z;omega⟩
 have e2: (decide ((16:Int)≤(V.aQ.length:Int))=true)= (16≤V.an.aQ.length):=by
  rw[YO];have:V.an.aQ.length=V.aQ.length:=rfl;exact GP
 simp only[e1,e2,bf];exact⟨Xx,trivial⟩
def r175{V x}(c:Cx h V x .rel):ay P 175 [.agg V.row,.agg x.row] h (fun v _=>v= .i (bA V.an x.ev .rel)):=by
 refine .eD 13 T.mix T.c175 ?_;intro ts hlen t0 t1;unfold fn175;have QU:=@aC.box _ _ c.o;have hex:=@bg.box _ _ c.e;have i0:aZ 1 x.sn (.i 0)=_:=(c.nm (i:=0) De).1;have d0:=@(c.nm (i:=0) De).2;have k0:aO x.ev 0∈kX V.an:=c.nk.kn 0 5 rfl;refine Rs (A8 t0 t1 @QU @hex @aG @aM @i0 @d0) ?_;refine WF.ce T.c218 (r218 T (c.o.ext Xx) c.w.len k0) fun g1=>?_
 unfold c9;refine Rs (A2 t0 t1) ?_;refine WF.ce T.c85 (r85 T _ _) fun g2=>?_
 refine Rs (A2 t0 t1) ?_;rw[bA,bV]
def O8{V x d}(hd:d≠.ee)(c:Cx h V x d)(gl:Gl h):bF P (jS d) [.agg V.row,.agg x.row] h (fun v _=>v= .i (bA V.an x.ev d)):=by
 cases d with
 | ee=>exact absurd rfl hd
 | line=>exact bF.of (a:=[]) (c:=[]) T.c148 (r148 T c)
 | tape=>exact bF.of (a:=[]) (c:=[]) T.c151 (r151 T c)
 | gg=>exact bF.of (a:=[]) (c:=[]) T.c155 (r155 T c)
 | copy=>exact bF.of (a:=[]) (c:=[]) T.c157 (r157 T c)
 | accept=>exact bF.of (a:=[]) (c:=[]) T.c159 (r159 T c)
 | source=>
  refine bF.of (a:=[]) (c:=[]) T.c161 ((r161 T c.o c.e).mono fun v g hv=>?_);rw[hv,bA,bV];simp only[YO]
 | fP=>exact bF.of (a:=[]) (c:=[]) T.c163 (r163 T c gl)
 | merge=>exact bF.of (a:=[]) (c:=[]) T.c165 (r165 T c)
 | run=>exact bF.of (a:=[]) (c:=[]) T.c167 (r167 T c)
 | fM=>exact bF.of (a:=[]) (c:=[]) T.c169 (r169 T c)
 | fail=>exact bF.of (a:=[]) (c:=[]) T.c171 (r171 T c)
 | gh=>exact bF.of (a:=[]) (c:=[]) T.c173 (r173 T c)
 | rel=>exact bF.of (a:=[]) (c:=[]) T.c175 (r175 T c)
end
def iN{l1 l2:List (Option Nat)}{a y:Option Nat}(h:y∈l1∨y∈l2):y∈l1++a::l2:=by rcases h with h| h<;>simp[h]
def vC{l1 l2:List (Option Nat)}{a y:Option Nat}(h:y∈l1++a::l2):y∈l1∨y=a∨y∈l2:=by simpa using h
def kY.xP{l1 l2 a x}(h:kY (l1++a::l2))(hx:∀i,x=some i→a=some i∨((∀y∈l1,y≠some i)∧∀y∈l2,y≠some i)):kY (l1++x::l2):=by
 obtain⟨h1,h2,h3⟩:=Zl.1 h;obtain⟨h4,h5⟩:=Y8.1 h2;refine Zl.2 ⟨h1,Y8.2 ⟨fun y hy b hb=>?_,h5⟩,fun y hy z hz b hb=>?_⟩
 ·rcases hx b hb with ha| ⟨_,ha⟩
  ·exact h4 y hy b ha
  ·exact ha y hy
 ·rcases YH.1 hz with rfl| hz
  ·intro e;rcases hx b e with ha| ⟨ha,_⟩
   ·exact h3 y hy a Si b hb ha
   ·exact ha y hy hb
  ·exact h3 y hy z (YI _ hz) b hb
def kY.ins{l1 l2 x}(h:kY (l1++l2))(hx:∀i,x=some i→(∀y∈l1,y≠some i)∧∀y∈l2,y≠some i):kY (l1++x::l2):=by
 obtain⟨h1,h2,h3⟩:=Zl.1 h;refine Zl.2 ⟨h1,Y8.2 ⟨fun y hy b hb=>(hx b hb).2 y hy,h2⟩,fun y hy z hz b hb=>?_⟩;rcases YH.1 hz with rfl| hz
 ·exact fun e=>(hx b e).1 y hy hb
 ·exact h3 y hy z hz b hb
structure bX(N:Nat)(h:ah)(b:Nat)(V:RV):Prop where
 o:cG N h V
 hN:N≤b
 m:h[b]? =some (.b V.row)
 ne:some b∉V.bl
def bX.lt{N h b V}(r:bX N h b V):b < h.length:=(X1.1 r.m).1
theorem bX.app{N h b V}(r:bX N h b V)(g:ah):bX N (h++g) b V:=⟨r.o.app g,r.hN,(Ext.app g (Ext.refl h)).some r.m,r.ne⟩
section
variable {N b:Nat} {h k:ah} {V:RV}
def bX.My(r:bX N h b V){s:AV}{L:List gM}(hs:Fr N k s 3 (L.map cp))(hn:∀i,sB s=some i→sB V.s0=some i∨h.length≤i)(hm:k[b]? =some (.cells { V with lines:=L,s0:=s }.row true false))
  (hk:∀i,i < h.length→sB V.s0≠some i→i≠b→k[i]? =h[i]?):bX N k b { V with lines:=L,s0:=s }:=by
 have hd:V.bl= []++sB V.s0:: ([sB V.s1,sB V.s2,sB V.s3,sB V.s4,sB V.s5]++ (V.aj.map fun x=>sB x.2)++ (V.aD.map fun x=>sB x.2)++ (V.aH.map fun x=>sB x.2)):=rfl;have hin:∀i,some i∈V.bl→N≤i∧i < h.length:=fun i hi=>r.o.dP hi
 have RM:=r.o.di;rw[hd]at RM;have au:∀i,(some i∈[]∨some i∈([sB V.s1,sB V.s2,sB V.s3,sB V.s4,sB V.s5]++ (V.aj.map fun x=>sB x.2)++ (V.aD.map fun x=>sB x.2)++ (V.aH.map fun x=>sB x.2)))→k[i]? =h[i]? :=fun i hi=>by
  exact z9
 have own:cG N k { V with lines:=L,s0:=s }:=by
  refine⟨hs,(r.o.i1.aB fun i hi=>au i (.inr (by rw[←hi];simp))),(r.o.i2.aB fun i hi=>au i (.inr (by rw[←hi];simp))),(r.o.i3.aB fun i hi=>au i (.inr (by rw[←hi];simp))),(r.o.i4.aB fun i hi=>au i (.inr (by rw[←hi];simp))),(r.o.i5.aB fun i hi=>au i (.inr (by rw[←hi];simp))),(fun x hx=>(r.o.e2 x hx).aB fun i hi=>au i (.inr (by rw[←hi];simp only[Yb,YA];exact .inl (.inl (.inr ⟨x,hx,rfl⟩))))),(fun x hx=>(r.o.e3 x hx).aB fun i hi=>au i (.inr (by rw[←hi];simp only[Yb,YA];exact .inl (.inr ⟨x,hx,rfl⟩)))),(fun x hx=>(r.o.e4 x hx).aB fun i hi=>au i (.inr (by rw[←hi];simp only[Yb,YA];exact .inr ⟨x,hx,rfl⟩))),?_⟩
  have hx:∀i,sB s=some i→sB V.s0=some i∨((∀y∈[],y≠some i)∧∀y∈([sB V.s1,sB V.s2,sB V.s3,sB V.s4,sB V.s5]++ (V.aj.map fun x=>sB x.2)++ (V.aD.map fun x=>sB x.2)++ (V.aH.map fun x=>sB x.2)),y≠some i):=fun i hi=>by
   exact I0
  exact RM.xP hx
 refine⟨own,r.hN,hm,fun hb=>?_⟩;have hbl:=r.lt;have Td:=r.ne;rw[hd]at Td;have e:{ V with lines:=L,s0:=s }.bl= []++sB s:: ([sB V.s1,sB V.s2,sB V.s3,sB V.s4,sB V.s5]++ (V.aj.map fun x=>sB x.2)++ (V.aD.map fun x=>sB x.2)++ (V.aH.map fun x=>sB x.2)):=rfl;exact z31
def bX.Qm(r:bX N h b V){s:AV}{L:List rT}(hs:Fr N k s 2 (L.map dQ))(hn:∀i,sB s=some i→sB V.s1=some i∨h.length≤i)(hm:k[b]? =some (.cells { V with aI:=L,s1:=s }.row true false))
  (hk:∀i,i < h.length→sB V.s1≠some i→i≠b→k[i]? =h[i]?):bX N k b { V with aI:=L,s1:=s }:=by
 have hd:V.bl= [sB V.s0]++sB V.s1:: ([sB V.s2,sB V.s3,sB V.s4,sB V.s5]++ (V.aj.map fun x=>sB x.2)++ (V.aD.map fun x=>sB x.2)++ (V.aH.map fun x=>sB x.2)):=rfl;have hin:∀i,some i∈V.bl→N≤i∧i < h.length:=fun i hi=>r.o.dP hi
 have RM:=r.o.di;rw[hd]at RM;have au:∀i,(some i∈[sB V.s0]∨some i∈([sB V.s2,sB V.s3,sB V.s4,sB V.s5]++ (V.aj.map fun x=>sB x.2)++ (V.aD.map fun x=>sB x.2)++ (V.aH.map fun x=>sB x.2)))→k[i]? =h[i]? :=fun i hi=>by
  exact z9
 have own:cG N k { V with aI:=L,s1:=s }:=by
  refine⟨(r.o.i0.aB fun i hi=>au i (.inl (by rw[←hi];simp))),hs,(r.o.i2.aB fun i hi=>au i (.inr (by rw[←hi];simp))),(r.o.i3.aB fun i hi=>au i (.inr (by rw[←hi];simp))),(r.o.i4.aB fun i hi=>au i (.inr (by rw[←hi];simp))),(r.o.i5.aB fun i hi=>au i (.inr (by rw[←hi];simp))),(fun x hx=>(r.o.e2 x hx).aB fun i hi=>au i (.inr (by rw[←hi];simp only[Yb,YA];exact .inl (.inl (.inr ⟨x,hx,rfl⟩))))),(fun x hx=>(r.o.e3 x hx).aB fun i hi=>au i (.inr (by rw[←hi];simp only[Yb,YA];exact .inl (.inr ⟨x,hx,rfl⟩)))),(fun x hx=>(r.o.e4 x hx).aB fun i hi=>au i (.inr (by rw[←hi];simp only[Yb,YA];exact .inr ⟨x,hx,rfl⟩))),?_⟩
  have hx:∀i,sB s=some i→sB V.s1=some i∨((∀y∈[sB V.s0],y≠some i)∧∀y∈([sB V.s2,sB V.s3,sB V.s4,sB V.s5]++ (V.aj.map fun x=>sB x.2)++ (V.aD.map fun x=>sB x.2)++ (V.aH.map fun x=>sB x.2)),y≠some i):=fun i hi=>by
   exact I0
  exact RM.xP hx
 refine⟨own,r.hN,hm,fun hb=>?_⟩;have hbl:=r.lt;have Td:=r.ne;rw[hd]at Td;have e:{ V with aI:=L,s1:=s }.bl= [sB V.s0]++sB s:: ([sB V.s2,sB V.s3,sB V.s4,sB V.s5]++ (V.aj.map fun x=>sB x.2)++ (V.aD.map fun x=>sB x.2)++ (V.aH.map fun x=>sB x.2)):=rfl;exact z31
def bX.Ql(r:bX N h b V){s t:AV}{y:jI}(hs:Fr N k s 3 ((V.aj++ [(y,t)]).map bj))(ht:Fr N k t 1 (y.aI.map ao))(hn:∀i,sB s=some i→sB V.s2=some i∨h.length≤i)(hnt:∀i,sB t=some i→h.length≤i∧sB s≠some i)
  (hm:k[b]? =some (.cells { V with aj:=V.aj++ [(y,t)],s2:=s }.row true false))
  (hk:∀i,i < h.length→sB V.s2≠some i→i≠b→k[i]? =h[i]?):bX N k b { V with aj:=V.aj++ [(y,t)],s2:=s }:=by
 have hd:V.bl= [sB V.s0,sB V.s1]++sB V.s2:: ([sB V.s3,sB V.s4,sB V.s5]++ (V.aj.map fun x=>sB x.2)++ (V.aD.map fun x=>sB x.2)++ (V.aH.map fun x=>sB x.2)):=rfl;have hin:∀i,some i∈V.bl→N≤i∧i < h.length:=fun i hi=>r.o.dP hi
 have RM:=r.o.di;rw[hd]at RM;have au:∀i,(some i∈[sB V.s0,sB V.s1]∨some i∈([sB V.s3,sB V.s4,sB V.s5]++ (V.aj.map fun x=>sB x.2)++ (V.aD.map fun x=>sB x.2)++ (V.aH.map fun x=>sB x.2)))→k[i]? =h[i]? :=fun i hi=>by
  exact z9
 have own:cG N k { V with aj:=V.aj++ [(y,t)],s2:=s }:=by
  refine⟨(r.o.i0.aB fun i hi=>au i (.inl (by rw[←hi];simp))),(r.o.i1.aB fun i hi=>au i (.inl (by rw[←hi];simp))),hs,(r.o.i3.aB fun i hi=>au i (.inr (by rw[←hi];simp))),(r.o.i4.aB fun i hi=>au i (.inr (by rw[←hi];simp))),(r.o.i5.aB fun i hi=>au i (.inr (by rw[←hi];simp))),(fun x hx=>by
   rcases Yb.1 hx with hx| hx
   ·exact(r.o.e2 x hx).aB fun i hi=>au i (.inr (by rw[←hi];simp only[Yb,YA];exact .inl (.inl (.inr ⟨x,hx,rfl⟩))))
   ·rw[Yt]at hx;subst hx;exact ht),(fun x hx=>(r.o.e3 x hx).aB fun i hi=>au i (.inr (by rw[←hi];simp only[Yb,YA];exact .inl (.inr ⟨x,hx,rfl⟩)))),(fun x hx=>(r.o.e4 x hx).aB fun i hi=>au i (.inr (by rw[←hi];simp only[Yb,YA];exact .inr ⟨x,hx,rfl⟩))),?_⟩
  have hx:∀i,sB s=some i→sB V.s2=some i∨((∀y∈[sB V.s0,sB V.s1],y≠some i)∧∀y∈([sB V.s3,sB V.s4,sB V.s5]++ (V.aj.map fun x=>sB x.2)++ (V.aD.map fun x=>sB x.2)++ (V.aH.map fun x=>sB x.2)),y≠some i):=fun i hi=>by
   exact I0
  have h1:=RM.xP hx;have h2:kY (([sB V.s0,sB V.s1,sB s,sB V.s3,sB V.s4,sB V.s5]++ (V.aj.map fun x=>sB x.2))++ ((V.aD.map fun x=>sB x.2)++ (V.aH.map fun x=>sB x.2))):=by
   have: [sB V.s0,sB V.s1]++sB s:: ([sB V.s3,sB V.s4,sB V.s5]++ (V.aj.map fun x=>sB x.2)++ (V.aD.map fun x=>sB x.2)++ (V.aH.map fun x=>sB x.2))= ([sB V.s0,sB V.s1,sB s,sB V.s3,sB V.s4,sB V.s5]++ (V.aj.map fun x=>sB x.2))++ ((V.aD.map fun x=>sB x.2)++ (V.aH.map fun x=>sB x.2)):=Si
   rw[←this];exact h1
  have h3:=h2.ins (x:=sB t) (fun i hi=>by
   obtain⟨n1,n2⟩:=hnt i hi;refine⟨fun y hy e=>?_,fun y hy e=>?_⟩
   ·exact MS
   ·subst e;have:=(hin i (by rw[hd];simp only[Yb,YH,Y7,ZI]at hy ⊢<;>grind)).2;omega)
  have:{ V with aj:=V.aj++ [(y,t)],s2:=s }.bl= ([sB V.s0,sB V.s1,sB s,sB V.s3,sB V.s4,sB V.s5]++ (V.aj.map fun x=>sB x.2))++sB t:: ((V.aD.map fun x=>sB x.2)++ (V.aH.map fun x=>sB x.2)):=by
   simp[RV.bl]
  rw[this];exact h3
 exact z12
def bX.Qk(r:bX N h b V){s t:AV}{y:gS}(hs:Fr N k s 4 ((V.aD++ [(y,t)]).map aV))(ht:Fr N k t 1 (y.bw.map ao))(hn:∀i,sB s=some i→sB V.s3=some i∨h.length≤i)(hnt:∀i,sB t=some i→h.length≤i∧sB s≠some i)
  (hm:k[b]? =some (.cells { V with aD:=V.aD++ [(y,t)],s3:=s }.row true false))
  (hk:∀i,i < h.length→sB V.s3≠some i→i≠b→k[i]? =h[i]?):bX N k b { V with aD:=V.aD++ [(y,t)],s3:=s }:=by
 have hd:V.bl= [sB V.s0,sB V.s1,sB V.s2]++sB V.s3:: ([sB V.s4,sB V.s5]++ (V.aj.map fun x=>sB x.2)++ (V.aD.map fun x=>sB x.2)++ (V.aH.map fun x=>sB x.2)):=rfl;have hin:∀i,some i∈V.bl→N≤i∧i < h.length:=fun i hi=>r.o.dP hi
 have RM:=r.o.di;rw[hd]at RM;have au:∀i,(some i∈[sB V.s0,sB V.s1,sB V.s2]∨some i∈([sB V.s4,sB V.s5]++ (V.aj.map fun x=>sB x.2)++ (V.aD.map fun x=>sB x.2)++ (V.aH.map fun x=>sB x.2)))→k[i]? =h[i]? :=fun i hi=>by
  exact z9
 have own:cG N k { V with aD:=V.aD++ [(y,t)],s3:=s }:=by
  refine⟨(r.o.i0.aB fun i hi=>au i (.inl (by rw[←hi];simp))),(r.o.i1.aB fun i hi=>au i (.inl (by rw[←hi];simp))),(r.o.i2.aB fun i hi=>au i (.inl (by rw[←hi];simp))),hs,(r.o.i4.aB fun i hi=>au i (.inr (by rw[←hi];simp))),(r.o.i5.aB fun i hi=>au i (.inr (by rw[←hi];simp))),(fun x hx=>(r.o.e2 x hx).aB fun i hi=>au i (.inr (by rw[←hi];simp only[Yb,YA];exact .inl (.inl (.inr ⟨x,hx,rfl⟩))))),(fun x hx=>by
   rcases Yb.1 hx with hx| hx
   ·exact(r.o.e3 x hx).aB fun i hi=>au i (.inr (by rw[←hi];simp only[Yb,YA];exact .inl (.inr ⟨x,hx,rfl⟩)))
   ·rw[Yt]at hx;subst hx;exact ht),(fun x hx=>(r.o.e4 x hx).aB fun i hi=>au i (.inr (by rw[←hi];simp only[Yb,YA];exact .inr ⟨x,hx,rfl⟩))),?_⟩
  have hx:∀i,sB s=some i→sB V.s3=some i∨((∀y∈[sB V.s0,sB V.s1,sB V.s2],y≠some i)∧∀y∈([sB V.s4,sB V.s5]++ (V.aj.map fun x=>sB x.2)++ (V.aD.map fun x=>sB x.2)++ (V.aH.map fun x=>sB x.2)),y≠some i):=fun i hi=>by
   exact I0
  have h1:=RM.xP hx;have h2:kY (([sB V.s0,sB V.s1,sB V.s2,sB s,sB V.s4,sB V.s5]++ (V.aj.map fun x=>sB x.2)++ (V.aD.map fun x=>sB x.2))++ ((V.aH.map fun x=>sB x.2))):=by
   have: [sB V.s0,sB V.s1,sB V.s2]++sB s:: ([sB V.s4,sB V.s5]++ (V.aj.map fun x=>sB x.2)++ (V.aD.map fun x=>sB x.2)++ (V.aH.map fun x=>sB x.2))= ([sB V.s0,sB V.s1,sB V.s2,sB s,sB V.s4,sB V.s5]++ (V.aj.map fun x=>sB x.2)++ (V.aD.map fun x=>sB x.2))++ ((V.aH.map fun x=>sB x.2)):=Si
   rw[←this];exact h1
  have h3:=h2.ins (x:=sB t) (fun i hi=>by
   obtain⟨n1,n2⟩:=hnt i hi;refine⟨fun y hy e=>?_,fun y hy e=>?_⟩
   ·exact MS
   ·subst e;have:=(hin i (by rw[hd];simp only[Yb,YH,Y7,ZI]at hy ⊢<;>grind)).2;omega)
  have:{ V with aD:=V.aD++ [(y,t)],s3:=s }.bl= ([sB V.s0,sB V.s1,sB V.s2,sB s,sB V.s4,sB V.s5]++ (V.aj.map fun x=>sB x.2)++ (V.aD.map fun x=>sB x.2))++sB t:: ((V.aH.map fun x=>sB x.2)):=by
   simp[RV.bl]
  rw[this];exact h3
 exact z12
def bX.Qj(r:bX N h b V){s t:AV}{y:kU}(hs:Fr N k s 3 ((V.aH++ [(y,t)]).map bN))(ht:Fr N k t 1 (y.bz.map aJ))(hn:∀i,sB s=some i→sB V.s4=some i∨h.length≤i)(hnt:∀i,sB t=some i→h.length≤i∧sB s≠some i)
  (hm:k[b]? =some (.cells { V with aH:=V.aH++ [(y,t)],s4:=s }.row true false))
  (hk:∀i,i < h.length→sB V.s4≠some i→i≠b→k[i]? =h[i]?):bX N k b { V with aH:=V.aH++ [(y,t)],s4:=s }:=by
 have hd:V.bl= [sB V.s0,sB V.s1,sB V.s2,sB V.s3]++sB V.s4:: ([sB V.s5]++ (V.aj.map fun x=>sB x.2)++ (V.aD.map fun x=>sB x.2)++ (V.aH.map fun x=>sB x.2)):=rfl;have hin:∀i,some i∈V.bl→N≤i∧i < h.length:=fun i hi=>r.o.dP hi
 have RM:=r.o.di;rw[hd]at RM;have au:∀i,(some i∈[sB V.s0,sB V.s1,sB V.s2,sB V.s3]∨some i∈([sB V.s5]++ (V.aj.map fun x=>sB x.2)++ (V.aD.map fun x=>sB x.2)++ (V.aH.map fun x=>sB x.2)))→k[i]? =h[i]? :=fun i hi=>by
  exact z9
 have own:cG N k { V with aH:=V.aH++ [(y,t)],s4:=s }:=by
  refine⟨(r.o.i0.aB fun i hi=>au i (.inl (by rw[←hi];simp))),(r.o.i1.aB fun i hi=>au i (.inl (by rw[←hi];simp))),(r.o.i2.aB fun i hi=>au i (.inl (by rw[←hi];simp))),(r.o.i3.aB fun i hi=>au i (.inl (by rw[←hi];simp))),hs,(r.o.i5.aB fun i hi=>au i (.inr (by rw[←hi];simp))),(fun x hx=>(r.o.e2 x hx).aB fun i hi=>au i (.inr (by rw[←hi];simp only[Yb,YA];exact .inl (.inl (.inr ⟨x,hx,rfl⟩))))),(fun x hx=>(r.o.e3 x hx).aB fun i hi=>au i (.inr (by rw[←hi];simp only[Yb,YA];exact .inl (.inr ⟨x,hx,rfl⟩)))),(fun x hx=>by
   rcases Yb.1 hx with hx| hx
   ·exact(r.o.e4 x hx).aB fun i hi=>au i (.inr (by rw[←hi];simp only[Yb,YA];exact .inr ⟨x,hx,rfl⟩))
   ·rw[Yt]at hx;subst hx;exact ht),?_⟩
  have hx:∀i,sB s=some i→sB V.s4=some i∨((∀y∈[sB V.s0,sB V.s1,sB V.s2,sB V.s3],y≠some i)∧∀y∈([sB V.s5]++ (V.aj.map fun x=>sB x.2)++ (V.aD.map fun x=>sB x.2)++ (V.aH.map fun x=>sB x.2)),y≠some i):=fun i hi=>by
   exact I0
  have h1:=RM.xP hx;have h2:kY (([sB V.s0,sB V.s1,sB V.s2,sB V.s3,sB s,sB V.s5]++ (V.aj.map fun x=>sB x.2)++ (V.aD.map fun x=>sB x.2)++ (V.aH.map fun x=>sB x.2))++ ([])):=by
   have: [sB V.s0,sB V.s1,sB V.s2,sB V.s3]++sB s:: ([sB V.s5]++ (V.aj.map fun x=>sB x.2)++ (V.aD.map fun x=>sB x.2)++ (V.aH.map fun x=>sB x.2))= ([sB V.s0,sB V.s1,sB V.s2,sB V.s3,sB s,sB V.s5]++ (V.aj.map fun x=>sB x.2)++ (V.aD.map fun x=>sB x.2)++ (V.aH.map fun x=>sB x.2))++ ([]):=Si
   rw[←this];exact h1
  have h3:=h2.ins (x:=sB t) (fun i hi=>by
   obtain⟨n1,n2⟩:=hnt i hi;refine⟨fun y hy e=>?_,fun y hy e=>?_⟩
   ·exact MS
   ·subst e;have:=(hin i (by rw[hd];simp only[Yb,YH,Y7,ZI]at hy ⊢<;>grind)).2;omega)
  have:{ V with aH:=V.aH++ [(y,t)],s4:=s }.bl= ([sB V.s0,sB V.s1,sB V.s2,sB V.s3,sB s,sB V.s5]++ (V.aj.map fun x=>sB x.2)++ (V.aD.map fun x=>sB x.2)++ (V.aH.map fun x=>sB x.2))++sB t:: ([]):=by
   simp[RV.bl]
  rw[this];exact h3
 exact z12
def bX.Mx(r:bX N h b V){s:AV}{L:List qk}(hs:Fr N k s 4 (L.map c9))(hn:∀i,sB s=some i→sB V.s5=some i∨h.length≤i)(hm:k[b]? =some (.cells { V with aQ:=L,s5:=s }.row true false))
  (hk:∀i,i < h.length→sB V.s5≠some i→i≠b→k[i]? =h[i]?):bX N k b { V with aQ:=L,s5:=s }:=by
 have hd:V.bl= [sB V.s0,sB V.s1,sB V.s2,sB V.s3,sB V.s4]++sB V.s5:: ([]++ (V.aj.map fun x=>sB x.2)++ (V.aD.map fun x=>sB x.2)++ (V.aH.map fun x=>sB x.2)):=rfl;have hin:∀i,some i∈V.bl→N≤i∧i < h.length:=fun i hi=>r.o.dP hi
 have RM:=r.o.di;rw[hd]at RM;have au:∀i,(some i∈[sB V.s0,sB V.s1,sB V.s2,sB V.s3,sB V.s4]∨some i∈([]++ (V.aj.map fun x=>sB x.2)++ (V.aD.map fun x=>sB x.2)++ (V.aH.map fun x=>sB x.2)))→k[i]? =h[i]? :=fun i hi=>by
  exact z9
 have own:cG N k { V with aQ:=L,s5:=s }:=by
  refine⟨(r.o.i0.aB fun i hi=>au i (.inl (by rw[←hi];simp))),(r.o.i1.aB fun i hi=>au i (.inl (by rw[←hi];simp))),(r.o.i2.aB fun i hi=>au i (.inl (by rw[←hi];simp))),(r.o.i3.aB fun i hi=>au i (.inl (by rw[←hi];simp))),(r.o.i4.aB fun i hi=>au i (.inl (by rw[←hi];simp))),hs,(fun x hx=>(r.o.e2 x hx).aB fun i hi=>au i (.inr (by rw[←hi];simp only[Yb,YA];exact .inl (.inl (.inr ⟨x,hx,rfl⟩))))),(fun x hx=>(r.o.e3 x hx).aB fun i hi=>au i (.inr (by rw[←hi];simp only[Yb,YA];exact .inl (.inr ⟨x,hx,rfl⟩)))),(fun x hx=>(r.o.e4 x hx).aB fun i hi=>au i (.inr (by rw[←hi];simp only[Yb,YA];exact .inr ⟨x,hx,rfl⟩))),?_⟩
  have hx:∀i,sB s=some i→sB V.s5=some i∨((∀y∈[sB V.s0,sB V.s1,sB V.s2,sB V.s3,sB V.s4],y≠some i)∧∀y∈([]++ (V.aj.map fun x=>sB x.2)++ (V.aD.map fun x=>sB x.2)++ (V.aH.map fun x=>sB x.2)),y≠some i):=fun i hi=>by
   exact I0
  exact RM.xP hx
 refine⟨own,r.hN,hm,fun hb=>?_⟩;have hbl:=r.lt;have Td:=r.ne;rw[hd]at Td;have e:{ V with aQ:=L,s5:=s }.bl= [sB V.s0,sB V.s1,sB V.s2,sB V.s3,sB V.s4]++sB s:: ([]++ (V.aj.map fun x=>sB x.2)++ (V.aD.map fun x=>sB x.2)++ (V.aH.map fun x=>sB x.2)):=rfl;exact z31
end
def tI(B:ah)(b:Nat)(V:RV)(e:ed)(d:Kd)(k:ah):Prop:=∃g' V',k=B++g'∧bX B.length (B++g') b V'∧V'.an=dq V.an e d
def hO{B g:ah}{b i:Nat}{V:RV}{v:AV}(hb: (B++g)[b]? =some (.b V.row))(hv:v.one=true)(hi:i < 7):aT 1 (.ptr b i) v (fun z=>(B++g)[z]?)=some (aA,.set b (.b (V.row.set i v))):=by
 rw[aN hb];exact bW hv (by show i+1≤7;omega)
def ni{B g:ah}{b:Nat}{V:RV}(X:ak)(hN:B.length≤b)(hb: (B++g)[b]? =some (.b V.row)): (B++g).set b X=B++g.set (b - B.length) X∧(B++g.set (b - B.length) X)[b]? =some X∧∀i,i≠b→(B++g.set (b - B.length) X)[i]? = (B++g)[i]? :=by
 have h1: (B++g).set b X=B++g.set (b - B.length) X:=YX _ _ hN;refine⟨h1,?_,fun i hi=>?_⟩
 ·rw[←h1,Yl (X1.1 hb).1]
 ·rw[←h1,Yj (Zv hi)]
def eS{ts h}:cO [] ts h=some (.dL []):=rfl
section
variable {B g g':ah} {b:Nat} {V:RV} {e:ed} {d:Kd}
def LG(r:bX B.length (B++g) b V){s:AV}{L:List gM}(hff:Fr B.length (B++g') s 3 (L.map cp))(hb':∀i,sB s=some i→sB V.s0=some i∨(B++g).length≤i)(hk1:∀i,i < (B++g).length→sB V.s0≠some i→(B++g')[i]? = (B++g)[i]?)
  (hreg:{ V with lines:=L,s0:=s }.an=dq V.an e d):tI B b V e d ((B++g').set b (.b (V.row.set 1 s))):=by
 have hbl:=r.lt;have Rb:sB V.s0≠some b:=fun z=>r.ne (by rw[←z];simp[RV.bl])
 have mB: (B++g')[b]? =some (.b V.row):=(hk1 b hbl Rb).trans r.m;obtain⟨h1,h2,h3⟩:=ni (.b (V.row.set 1 s)) r.hN mB;have hsb:∀i,sB s=some i→i≠b:=fun i hi z=>by
  exact z59
 exact⟨_,_,h1,r.My (hff.aB fun i hi=>h3 i (hsb i hi)) hb' h2 (fun i hi hne Rb=>(h3 i Rb).trans (hk1 i hi hne)),hreg⟩
def LF(r:bX B.length (B++g) b V){s:AV}{L:List rT}(hff:Fr B.length (B++g') s 2 (L.map dQ))(hb':∀i,sB s=some i→sB V.s1=some i∨(B++g).length≤i)(hk1:∀i,i < (B++g).length→sB V.s1≠some i→(B++g')[i]? = (B++g)[i]?)
  (hreg:{ V with aI:=L,s1:=s }.an=dq V.an e d):tI B b V e d ((B++g').set b (.b (V.row.set 2 s))):=by
 have hbl:=r.lt;have Rb:sB V.s1≠some b:=fun z=>r.ne (by rw[←z];simp[RV.bl])
 have mB: (B++g')[b]? =some (.b V.row):=(hk1 b hbl Rb).trans r.m;obtain⟨h1,h2,h3⟩:=ni (.b (V.row.set 2 s)) r.hN mB;have hsb:∀i,sB s=some i→i≠b:=fun i hi z=>by
  exact z59
 exact⟨_,_,h1,r.Qm (hff.aB fun i hi=>h3 i (hsb i hi)) hb' h2 (fun i hi hne Rb=>(h3 i Rb).trans (hk1 i hi hne)),hreg⟩
def LD(r:bX B.length (B++g) b V){s t:AV}{y:jI}(hff:Fr B.length (B++g') s 3 ((V.aj++ [(y,t)]).map bj))(ht:Fr B.length (B++g') t 1 (y.aI.map ao))(hb':∀i,sB s=some i→sB V.s2=some i∨(B++g).length≤i)(hk1:∀i,i < (B++g).length→sB V.s2≠some i→(B++g')[i]? = (B++g)[i]?)(hnt:∀i,sB t=some i→(B++g).length≤i∧sB s≠some i)
  (hreg:{ V with aj:=V.aj++ [(y,t)],s2:=s }.an=dq V.an e d):tI B b V e d ((B++g').set b (.b (V.row.set 3 s))):=by
 have hbl:=r.lt;have Rb:sB V.s2≠some b:=fun z=>r.ne (by rw[←z];simp[RV.bl])
 have mB: (B++g')[b]? =some (.b V.row):=(hk1 b hbl Rb).trans r.m;obtain⟨h1,h2,h3⟩:=ni (.b (V.row.set 3 s)) r.hN mB;have hsb:∀i,sB s=some i→i≠b:=fun i hi z=>by
  exact z59
 have htb:∀i,sB t=some i→i≠b:=fun i hi z=>by
  exact zx
 exact⟨_,_,h1,r.Ql (hff.aB fun i hi=>h3 i (hsb i hi)) (ht.aB fun i hi=>h3 i (htb i hi)) hb' hnt h2 (fun i hi hne Rb=>(h3 i Rb).trans (hk1 i hi hne)),hreg⟩
def Gi(r:bX B.length (B++g) b V){s t:AV}{y:gS}(hff:Fr B.length (B++g') s 4 ((V.aD++ [(y,t)]).map aV))(ht:Fr B.length (B++g') t 1 (y.bw.map ao))(hb':∀i,sB s=some i→sB V.s3=some i∨(B++g).length≤i)(hk1:∀i,i < (B++g).length→sB V.s3≠some i→(B++g')[i]? = (B++g)[i]?)(hnt:∀i,sB t=some i→(B++g).length≤i∧sB s≠some i)
  (hreg:{ V with aD:=V.aD++ [(y,t)],s3:=s }.an=dq V.an e d):tI B b V e d ((B++g').set b (.b (V.row.set 4 s))):=by
 have hbl:=r.lt;have Rb:sB V.s3≠some b:=fun z=>r.ne (by rw[←z];simp[RV.bl])
 have mB: (B++g')[b]? =some (.b V.row):=(hk1 b hbl Rb).trans r.m;obtain⟨h1,h2,h3⟩:=ni (.b (V.row.set 4 s)) r.hN mB;have hsb:∀i,sB s=some i→i≠b:=fun i hi z=>by
  exact z59
 have htb:∀i,sB t=some i→i≠b:=fun i hi z=>by
  exact zx
 exact⟨_,_,h1,r.Qk (hff.aB fun i hi=>h3 i (hsb i hi)) (ht.aB fun i hi=>h3 i (htb i hi)) hb' hnt h2 (fun i hi hne Rb=>(h3 i Rb).trans (hk1 i hi hne)),hreg⟩
def LC(r:bX B.length (B++g) b V){s t:AV}{y:kU}(hff:Fr B.length (B++g') s 3 ((V.aH++ [(y,t)]).map bN))(ht:Fr B.length (B++g') t 1 (y.bz.map aJ))(hb':∀i,sB s=some i→sB V.s4=some i∨(B++g).length≤i)(hk1:∀i,i < (B++g).length→sB V.s4≠some i→(B++g')[i]? = (B++g)[i]?)(hnt:∀i,sB t=some i→(B++g).length≤i∧sB s≠some i)
  (hreg:{ V with aH:=V.aH++ [(y,t)],s4:=s }.an=dq V.an e d):tI B b V e d ((B++g').set b (.b (V.row.set 5 s))):=by
 have hbl:=r.lt;have Rb:sB V.s4≠some b:=fun z=>r.ne (by rw[←z];simp[RV.bl])
 have mB: (B++g')[b]? =some (.b V.row):=(hk1 b hbl Rb).trans r.m;obtain⟨h1,h2,h3⟩:=ni (.b (V.row.set 5 s)) r.hN mB;have hsb:∀i,sB s=some i→i≠b:=fun i hi z=>by
  exact z59
 have htb:∀i,sB t=some i→i≠b:=fun i hi z=>by
  exact zx
 exact⟨_,_,h1,r.Qj (hff.aB fun i hi=>h3 i (hsb i hi)) (ht.aB fun i hi=>h3 i (htb i hi)) hb' hnt h2 (fun i hi hne Rb=>(h3 i Rb).trans (hk1 i hi hne)),hreg⟩
def LB(r:bX B.length (B++g) b V){s:AV}{L:List qk}(hff:Fr B.length (B++g') s 4 (L.map c9))(hb':∀i,sB s=some i→sB V.s5=some i∨(B++g).length≤i)(hk1:∀i,i < (B++g).length→sB V.s5≠some i→(B++g')[i]? = (B++g)[i]?)
  (hreg:{ V with aQ:=L,s5:=s }.an=dq V.an e d):tI B b V e d ((B++g').set b (.b (V.row.set 6 s))):=by
 have hbl:=r.lt;have Rb:sB V.s5≠some b:=fun z=>r.ne (by rw[←z];simp[RV.bl])
 have mB: (B++g')[b]? =some (.b V.row):=(hk1 b hbl Rb).trans r.m;obtain⟨h1,h2,h3⟩:=ni (.b (V.row.set 6 s)) r.hN mB;have hsb:∀i,sB s=some i→i≠b:=fun i hi z=>by
  exact z59
 exact⟨_,_,h1,r.Mx (hff.aB fun i hi=>h3 i (hsb i hi)) hb' h2 (fun i hi hne Rb=>(h3 i Rb).trans (hk1 i hi hne)),hreg⟩
end
section
variable {P:Program} (T:fy P) {B g:ah} {b:Nat} {V:RV} {x:EV}
include T
def OD(r:bX B.length (B++g) b V)(c:Cx (B++g) V x .line):da P 149 [.ptr b 0,.agg x.row] (B++g) (fun _ k=>tI B b V x.ev .line k):=by
 refine .eD 22 T.mix T.c149 ?_;intro ts hlen t0 t1;unfold fn149;have hex:=@bg.box _ _ c.e;have lb:=@fH _ _ _ r.m;have i0:aZ 1 x.sn (.i 0)=_:=(c.nm (i:=0) De).1;have d0:=@(c.nm (i:=0) De).2;have j1:aZ 1 x.sv (.i 1)=_:=(c.vl (i:=1) De).1;have f1:=@(c.vl (i:=1) De).2.1;have q1:=(c.vl (i:=1) De).2.2;obtain⟨y,hy⟩:∃y:gM,y= ⟨aO x.ev 0,bG x.ev 1,false⟩:=⟨_,rfl⟩;have SC:cp y= [.str (aO x.ev 0),.i (bG x.ev 1),.bool false]:=by rw[hy];rfl
 refine Rs (nw t0 t1 @hex @lb @ga @aM @aY @i0 @d0 @j1 @f1) ?_;rw[←SC];refine WR.fL (h0:=B) (cs:=V.lines.map cp) (ys:=[cp y]) (((r.o.i0).app _).app _) (Fr.push (N:=0) (YB _) [cp y] (by simp[cp])).aX De Si (by have:=c.w.len.l0;simp;omega) Xx ?_;intro g' Q7 hff hkp;have hrow:V.lines.map cp++ [cp y]= (V.lines++ [y]).map cp:=by rw[Yc];rfl
 rw[hrow]at hff;rw[hrow];have hbl:=r.lt;have Rb:sB V.s0≠some b:=fun e=>r.ne (by rw[←e];simp[RV.bl])
 have hk1:∀i,i < (B++g).length→sB V.s0≠some i→(B++g')[i]? = (B++g)[i]? :=fun i hi hne=>by
  exact IZ
 have mB: (B++g')[b]? =some (.b V.row):=(hk1 b hbl Rb).trans r.m;have TZ:=fun(b' o n e:Nat)=>hO (i:=1) (v:=.slice b' o n e) mB rfl De
 refine Rs (A4 t0 t1 @TZ @eS) ?_;exact LG r hff (fun i hi=>by cases hi;exact .inr (by simp only[X2];omega)) hk1 (by rw[hy];rfl)
def OC(r:bX B.length (B++g) b V)(c:Cx (B++g) V x .tape):da P 152 [.ptr b 0,.agg x.row] (B++g) (fun _ k=>tI B b V x.ev .tape k):=by
 refine .eD 27 T.mix T.c152 ?_;intro ts hlen t0 t1;unfold fn152;have hex:=@bg.box _ _ c.e;have lb:=@fH _ _ _ r.m;have i0:aZ 1 x.sn (.i 0)=_:=(c.nm (i:=0) De).1;have d0:=@(c.nm (i:=0) De).2;have j0:aZ 1 x.sv (.i 0)=_:=(c.vl (i:=0) De).1;have f0:=@(c.vl (i:=0) De).2.1;have q0:=(c.vl (i:=0) De).2.2;have j1:aZ 1 x.sv (.i 1)=_:=(c.vl (i:=1) De).1;have f1:=@(c.vl (i:=1) De).2.1;have q1:=(c.vl (i:=1) De).2.2;have hw:IntKind.i64.wrap (bG x.ev 0+bG x.ev 1)=bG x.ev 0+bG x.ev 1:=bo Om Om;obtain⟨y,hy⟩:∃y:rT,y= ⟨aO x.ev 0,bG x.ev 0+bG x.ev 1⟩:=⟨_,rfl⟩
 have SC:dQ y= [.str (aO x.ev 0),.i (bG x.ev 0+bG x.ev 1)]:=by rw[hy];rfl
 refine Rs (AF t0 t1 @hex @lb @la @aM @aY @hw @i0 @d0 @j0 @f0 @j1 @f1) ?_;rw[←SC];refine WR.fL (h0:=B) (cs:=V.aI.map dQ) (ys:=[dQ y]) (((r.o.i1).app _).app _) (Fr.push (N:=0) (YB _) [dQ y] (by simp[dQ])).aX De Si (by have:=c.w.len.l1;simp;omega) Xx ?_;intro g' Q7 hff hkp;have hrow:V.aI.map dQ++ [dQ y]= (V.aI++ [y]).map dQ:=by rw[Yc];rfl
 rw[hrow]at hff;rw[hrow];have hbl:=r.lt;have Rb:sB V.s1≠some b:=fun e=>r.ne (by rw[←e];simp[RV.bl])
 have hk1:∀i,i < (B++g).length→sB V.s1≠some i→(B++g')[i]? = (B++g)[i]? :=fun i hi hne=>by
  exact IZ
 have mB: (B++g')[b]? =some (.b V.row):=(hk1 b hbl Rb).trans r.m;have TZ:=fun(b' o n e:Nat)=>hO (i:=2) (v:=.slice b' o n e) mB rfl De
 refine Rs (A4 t0 t1 @TZ @eS) ?_;exact LF r hff (fun i hi=>by cases hi;exact .inr (by simp only[X2];omega)) hk1 (by rw[hy];rfl)
end
theorem uj:∀ (l:List Int) (x:Int),(∀s∈l,-1≤s∧s≤999999999)→-16777213 < x→x < 16777213→-16777213 < l.foldl (fun x s=>(257 * x+s).tmod 16777213) x∧l.foldl (fun x s=>(257 * x+s).tmod 16777213) x < 16777213
 | [],x,_,h1,h2=>⟨h1,h2⟩
 | s::l,x,hs,h1,h2=>by
  have hb:-16777213 < (257 * x+s).tmod 16777213∧(257 * x+s).tmod 16777213 < 16777213:=by
   constructor
   ·have:=Int.lt_tmod_of_pos (257 * x+s) (show(0:Int)< 16777213 by decide);exact this
   ·exact Int.tmod_lt_of_pos _ De
  exact uj l _ (fun t ht=>hs t (YI _ ht)) hb.1 hb.2
section
variable {P:Program} (T:fy P) {h:ah}
include T
def r95{s l}(hs:aK h s 1 (l.map aJ))(hl:l.length < 2^30)(hb:∀s∈l,-1≤s∧s≤999999999):ay P 95 [s] h (fun v _=>v= .i (fC l)):=by
 refine .kM 19 T.mix T.c95 ?_;intro ts hlen t0;unfold fn95;refine Rs (A2 t0 hs.aL) ?_;refine WL.inv T.mix (fun n ts h'=>∃k:Nat,k≤l.length∧n=l.length - k∧h' =h∧ts.length=19∧slot ts 3= .i (fC (l.take k))∧slot ts 6=s∧slot ts 7= .i l.length∧slot ts 8= .i k) l.length
  ⟨0,Om,rfl,rfl,Sn,hP,(Sq t0),(Sq t0),hP⟩ ?_
 rintro _ ts _ ⟨k,hk,rfl,rfl,hlen,t3,t6,t7,t8⟩;by_cases hlt:k < l.length
 ·have e3:=eT hlt;have ix:=hs.dI (kk:=.i64) hlt;have ld:=hs.ki (i:=k) (x:=.i l[k]) hlt rfl (Ext.refl _);have e5:=wrapN (n:=k) Om;have hd:=uj (l.take k) 1 (fun s hs=>hb s (Zd hs)) De De;have Tf:=hb _ (Yi hlt);have Rr:-16777213 < fC (l.take k)∧fC (l.take k)< 16777213:=hd;have w1:IntKind.i64.wrap (257 * fC (l.take k))=257 * fC (l.take k):=bo Om Om;have w2:IntKind.i64.wrap (257 * fC (l.take k)+l[k])=257 * fC (l.take k)+l[k]:=bo Om Om;have er:=oh (k:=.i64) (a:=257 * fC (l.take k)+l[k]) (b:=16777213) De;have Rh:fC (l.take (k+1))= (257 * fC (l.take k)+l[k]).tmod 16777213:=by
   exact z156
  rw[←Rh]at er;refine Rs (nw t3 t6 t7 t8 e3 ix @ld @w1 @w2 @er e5) ?_;exact⟨_,Om,k+1,Om,rfl,rfl,rfl⟩
 ·have e3:=fQ hlt;have e4:k=l.length:=Om
  rw[e4,YF]at t3;exact Rs (A5 t3 t6 t7 t8 e3) Tv
end
section
variable {P:Program} (T:fy P) {B g:ah} {b:Nat} {V:RV} {x:EV}
include T
def OB(r:bX B.length (B++g) b V)(c:Cx (B++g) V x .gg):da P 156 [.ptr b 0,.agg x.row] (B++g) (fun _ k=>tI B b V x.ev .gg k):=by
 refine .eD 27 T.mix T.c156 ?_;intro ts hlen t0 t1;unfold fn156;have hex:=@bg.box _ _ c.e;have lb:=@fH _ _ _ r.m;have i0:aZ 1 x.sn (.i 0)=_:=(c.nm (i:=0) De).1;have d0:=@(c.nm (i:=0) De).2;have i1:aZ 1 x.sn (.i 1)=_:=(c.nm (i:=1) De).1;have d1:=@(c.nm (i:=1) De).2;have i2:aZ 1 x.sn (.i 2)=_:=(c.nm (i:=2) De).1;have d2:=@(c.nm (i:=2) De).2;obtain⟨y,hy⟩:∃y:jI,y= ⟨aO x.ev 0,aO x.ev 1,[aO x.ev 2]⟩:=⟨_,rfl⟩;obtain⟨t,ht⟩:∃t,t=AV.slice (B++g++ [ak.b x.row]).length 0 1 1:=⟨_,rfl⟩;have RW:Fr (B++g).length (B++g++ [ak.b x.row]++ [ak.cells [.str (aO x.ev 2)] true true]) t 1 (y.aI.map ao):=by
  rw[ht,hy];exact(Fr.push (h:=B++g++ [ak.b x.row]) (N:=(B++g).length) Si [ao (aO x.ev 2)] (by simp[ao]))
 have SC:bj (y,t)= [.str (aO x.ev 0),.str (aO x.ev 1),t]:=by rw[hy];rfl
 refine Rs (GH t0 t1 @hex @lb @fF @aM @aY @i0 @d0 @i1 @d1 @i2 @d2) ?_;rw[←ht];have ot:=RW.aX.one;refine Rs (A7 t0 t1 @ot @lb @fF @aM @aY) ?_;rw[←SC];refine WR.fL (h0:=B) (cs:=V.aj.map bj) (ys:=[bj (y,t)]) ((((r.o.i2).app _).app _).app _) (Fr.push (N:=0) (YB _) [bj (y,t)] (by simp[bj])).aX De Si (by have:=c.w.len.l2;simp;omega) Xx ?_;intro g' Q7 hff hkp;have hrow:V.aj.map bj++ [bj (y,t)]= (V.aj++ [(y,t)]).map bj:=by rw[Yc];rfl
 rw[hrow]at hff;rw[hrow];have hbl:=r.lt;have Rb:sB V.s2≠some b:=fun e=>r.ne (by rw[←e];simp[RV.bl])
 have hk1:∀i,i < (B++g).length→sB V.s2≠some i→(B++g')[i]? = (B++g)[i]? :=fun i hi hne=>by
  exact IZ
 have mB: (B++g')[b]? =some (.b V.row):=(hk1 b hbl Rb).trans r.m;have TZ:=fun(b' o n e:Nat)=>hO (i:=3) (v:=.slice b' o n e) mB rfl De
 refine Rs (A4 t0 t1 @TZ @eS) ?_;refine LD r hff ?_ (fun i hi=>by cases hi;exact .inr (by simp only[X2];omega)) hk1 ?_ ?_
 ·exact(((RW.app _).aB fun i hi=>hkp i (by have:=(RW.bM hi).2;simp only[X2]at this ⊢;omega) (fun b0 o n e he z=>by
   have h1:=(RW.bM hi).1;have h2:=(r.o.i2.bM (show sB V.s2=some i by rw[he,z];rfl)).2;omega)).low Si)
 ·intro i hi;exact z40
 ·rw[hy];simp[RV.an,dq]
def Oy(r:bX B.length (B++g) b V)(c:Cx (B++g) V x .source):da P 162 [.ptr b 0,.agg x.row] (B++g) (fun _ k=>tI B b V x.ev .source k):=by
 refine .eD 22 T.mix T.c162 ?_;intro ts hlen t0 t1;unfold fn162;have hex:=@bg.box _ _ c.e;have lb:=@fH _ _ _ r.m;have i0:aZ 1 x.sn (.i 0)=_:=(c.nm (i:=0) De).1;have d0:=@(c.nm (i:=0) De).2;have i1:aZ 1 x.sn (.i 1)=_:=(c.nm (i:=1) De).1;have d1:=@(c.nm (i:=1) De).2;obtain⟨y,hy⟩:∃y:gS,y= ⟨aO x.ev 0,dO,aO x.ev 1,[]⟩:=⟨_,rfl⟩;obtain⟨t,ht⟩:∃t,t=AV.af:=⟨_,rfl⟩;have SC:aV (y,t)= [.str (aO x.ev 0),.str [115,104,111,116,115],.str (aO x.ev 1),.af]:=by rw[hy,ht];rfl
 refine Rs (nw t0 t1 @hex @lb @fN @aM @aY @i0 @d0 @i1 @d1) ?_;rw[←SC];refine WR.fL (h0:=B) (cs:=V.aD.map aV) (ys:=[aV (y,t)]) (((r.o.i3).app _).app _) (Fr.push (N:=0) (YB _) [aV (y,t)] (by simp[aV])).aX De Si (by have:=c.w.len.l3;simp;omega) Xx ?_;intro g' Q7 hff hkp;have hrow:V.aD.map aV++ [aV (y,t)]= (V.aD++ [(y,t)]).map aV:=by rw[Yc];rfl
 rw[hrow]at hff;rw[hrow];have hbl:=r.lt;have Rb:sB V.s3≠some b:=fun e=>r.ne (by rw[←e];simp[RV.bl])
 have hk1:∀i,i < (B++g).length→sB V.s3≠some i→(B++g')[i]? = (B++g)[i]? :=fun i hi hne=>by
  exact IZ
 have mB: (B++g')[b]? =some (.b V.row):=(hk1 b hbl Rb).trans r.m;have TZ:=fun(b' o n e:Nat)=>hO (i:=4) (v:=.slice b' o n e) mB rfl De
 refine Rs (A4 t0 t1 @TZ @eS) ?_;refine Gi r hff ?_ (fun i hi=>by cases hi;exact .inr (by simp only[X2];omega)) hk1 ?_ ?_
 ·rw[ht,hy];exact .nil
 ·intro i hi;rw[ht]at hi;cases hi
 ·rw[hy];simp[RV.an,dq]
def Ox(r:bX B.length (B++g) b V)(c:Cx (B++g) V x .fP)(hc:bA V.an x.ev .fP=0)(gl:Gl (B++g)):da P 164 [.ptr b 0,.agg x.row] (B++g) (fun _ k=>tI B b V x.ev .fP k):=by
 refine .eD 30 T.mix T.c164 ?_;intro ts hlen t0 t1;unfold fn164;have hex:=@bg.box _ _ c.e;have lb:=@fH _ _ _ r.m;have i0:aZ 1 x.sn (.i 0)=_:=(c.nm (i:=0) De).1;have d0:=@(c.nm (i:=0) De).2;have j1:aZ 1 x.sv (.i 1)=_:=(c.vl (i:=1) De).1;have f1:=@(c.vl (i:=1) De).2.1;have q1:=(c.vl (i:=1) De).2.2;obtain⟨gmu,gtl,hg0⟩:=gl;have hn:1≤bG x.ev 1∧bG x.ev 1≤4:=by
  rw[bA]at hc;split at hc
  ·cases hc
  case isFalse hr=>exact gk hr
 have hw:IntKind.i64.wrap (bG x.ev 1 - 1)=bG x.ev 1 - 1:=bo Om Om;have a1:mE 4 2 (.ptr 0 0) (.i (bG x.ev 1 - 1))=some (.ptr 0 ((bG x.ev 1 - 1).toNat * 2)):=by simp only[mE];rw[Yh Om,YR]
 have a2:mE 2 1 (.ptr 0 ((bG x.ev 1 - 1).toNat * 2)) (.i 1)=some (.ptr 0 ((bG x.ev 1 - 1).toNat * 2+1)):=by simp[mE]
 have lg:∀{k:ah},Ext (B++g) k→aq none (.ptr 0 ((bG x.ev 1 - 1).toNat * 2+1)) (fun b=>k[b]?)=some (.str (jE (bG x.ev 1)),.au):=by
  intro k e;exact PK
 have hnl:1≤x.ev.names.length:=by rw[c.we.nl];decide
 have hnl2:x.ev.names.length≤3:=by rw[c.we.nl];decide
 obtain⟨s',es',QW⟩:=c.e.n.FT (lo:=some (.i 1)) (hi:=none) (ml (k:=1) hnl);have et:List.take (x.ev.names.length - 1) (List.drop 1 x.ev.names)=x.ev.names.drop 1:=YN Si;rw[et]at QW;obtain⟨y,hy⟩:∃y:gS,y= ⟨aO x.ev 0,jE (bG x.ev 1),[],x.ev.names.drop 1⟩:=⟨_,rfl⟩;refine Rs (FN t0 t1 @hex @lb @fN @aM @aY @hw @a1 @a2 @lg @es' @i0 @d0 @j1 @f1) ?_;refine WF.res T.c177 (r177 T (QW.ext Xx) (by simp;omega)) ?_;rintro t g1 RW;have SC:aV (y,t)= [.str (aO x.ev 0),.str (jE (bG x.ev 1)),.str [],t]:=by rw[hy];rfl
 have RW:Fr (B++g).length (B++g++ [ak.b x.row]++g1) t 1 (y.bw.map ao):=by rw[hy];exact RW.low Si
 have ot:=RW.aX.one;refine Rs (A3 t0 t1 @ot) ?_;rw[←SC];refine WR.fL (h0:=B) (cs:=V.aD.map aV) (ys:=[aV (y,t)]) ((((r.o.i3).app _).app _).app _) (Fr.push (N:=0) (YB _) [aV (y,t)] (by simp[aV])).aX De Si (by have:=c.w.len.l3;simp;omega) Xx ?_;intro g' Q7 hff hkp;exact Qg
def Ov(r:bX B.length (B++g) b V)(c:Cx (B++g) V x .merge):da P 166 [.ptr b 0,.agg x.row] (B++g) (fun _ k=>tI B b V x.ev .merge k):=by
 refine .eD 31 T.mix T.c166 ?_;intro ts hlen t0 t1;unfold fn166;have hex:=@bg.box _ _ c.e;have lb:=@fH _ _ _ r.m;have i0:aZ 1 x.sn (.i 0)=_:=(c.nm (i:=0) De).1;have d0:=@(c.nm (i:=0) De).2;have i1:aZ 1 x.sn (.i 1)=_:=(c.nm (i:=1) De).1;have d1:=@(c.nm (i:=1) De).2;have hnl:1≤x.ev.names.length:=by rw[c.we.nl];decide
 have hnl2:x.ev.names.length≤3:=by rw[c.we.nl];decide
 obtain⟨s',es',QW⟩:=c.e.n.FT (lo:=some (.i 1)) (hi:=none) (ml (k:=1) hnl);have et:List.take (x.ev.names.length - 1) (List.drop 1 x.ev.names)=x.ev.names.drop 1:=YN Si;rw[et]at QW;have k1:aO x.ev 1∈gP V.an:=c.nk.kn 1 3 rfl;refine Rs (pJ t0 t1 @hex @lb @fN @aG @aM @aY @i0 @d0 @i1 @d1) ?_;refine WF.res T.c245 (r245 T (c.o.ext Xx) c.w.len k1) ?_;rintro _ g1 ⟨z,hz,hz1,rfl⟩;unfold aV;obtain⟨y,hy⟩:∃y:gS,y= ⟨aO x.ev 0,(gI V.an (aO x.ev 1)).gives,[],x.ev.names.drop 1⟩:=⟨_,rfl⟩;refine Rs (A5 t0 t1 @lb @aM @es') ?_;refine WF.res T.c177 (r177 T (QW.ext Xx) (by simp;omega)) ?_;rintro t g2 RW;have SC:aV (y,t)= [.str (aO x.ev 0),.str z.1.gives,.str [],t]:=by rw[hy,hz1];rfl
 have RW:Fr (B++g).length (B++g++ [ak.b x.row]++g1++g2) t 1 (y.bw.map ao):=by rw[hy];exact RW.low (by simp only[X2];omega)
 have ot:=RW.aX.one;refine Rs (A3 t0 t1 @ot) ?_;rw[←SC];refine WR.fL (h0:=B) (cs:=V.aD.map aV) (ys:=[aV (y,t)]) (((((r.o.i3).app _).app _).app _).app _) (Fr.push (N:=0) (YB _) [aV (y,t)] (by simp[aV])).aX De Si (by have:=c.w.len.l3;simp;omega) Xx ?_;intro g' Q7 hff hkp;exact Qg
def Oo(r:bX B.length (B++g) b V)(c:Cx (B++g) V x .gh):da P 174 [.ptr b 0,.agg x.row] (B++g) (fun _ k=>tI B b V x.ev .gh k):=by
 refine .eD 32 T.mix T.c174 ?_;intro ts hlen t0 t1;unfold fn174;have hex:=@bg.box _ _ c.e;have lb:=@fH _ _ _ r.m;have i0:aZ 1 x.sn (.i 0)=_:=(c.nm (i:=0) De).1;have d0:=@(c.nm (i:=0) De).2;have i1:aZ 1 x.sn (.i 1)=_:=(c.nm (i:=1) De).1;have d1:=@(c.nm (i:=1) De).2;have k1:aO x.ev 1∈iE V.an:=c.nk.kn 1 4 rfl;refine Rs (pJ t0 t1 @hex @lb @gT @aG @aM @aY @i0 @d0 @i1 @d1) ?_;refine WF.res T.c124 (r124 T (c.o.ext Xx) c.w.len k1) ?_;rintro _ g1 ⟨z,hz,hz1,rfl⟩;have hzb:=(c.w.jb z.1 (Yx hz)).2;unfold bN;refine Rs (A2 t0 t1) ?_;refine WF.ce T.c95 (r95 T ((c.o.e4 z hz).ext Xx) Om hzb.2.2) fun g2=>?_
 obtain⟨y,hy⟩:∃y:qk,y= ⟨aO x.ev 0,aO x.ev 1,fC (gu V.an (aO x.ev 1)).bz,false⟩:=⟨_,rfl⟩;have SC:c9 y= [.str (aO x.ev 0),.str (aO x.ev 1),.i (fC z.1.bz),.bool false]:=by rw[hy,hz1];rfl
 refine Rs (A2 t0 t1) ?_;rw[←SC];refine WR.fL (h0:=B) (cs:=V.aQ.map c9) (ys:=[c9 y]) (((((r.o.i5).app _).app _).app _).app _) (Fr.push (N:=0) (YB _) [c9 y] (by simp[c9])).aX De Si (by have:=c.w.len.l5;simp;omega) Xx ?_;intro g' Q7 hff hkp;have hrow:V.aQ.map c9++ [c9 y]= (V.aQ++ [y]).map c9:=by rw[Yc];rfl
 rw[hrow]at hff;rw[hrow];have hbl:=r.lt;have Rb:sB V.s5≠some b:=fun e=>r.ne (by rw[←e];simp[RV.bl])
 have hk1:∀i,i < (B++g).length→sB V.s5≠some i→(B++g')[i]? = (B++g)[i]? :=fun i hi hne=>by
  exact IZ
 have mB: (B++g')[b]? =some (.b V.row):=(hk1 b hbl Rb).trans r.m;have TZ:=fun(b' o n e:Nat)=>hO (i:=6) (v:=.slice b' o n e) mB rfl De
 refine Rs (A4 t0 t1 @TZ @eS) ?_;exact LB r hff (fun i hi=>by cases hi;exact .inr (by simp only[X2];omega)) hk1 (by rw[hy];rfl)
end
def bX.Qi{N b h k V}(r:bX N h b V){i}(hi:i < V.aH.length){y}(hy:y.name=V.aH[i].1.name∧y.mod=V.aH[i].1.mod)(hf:Fr N k V.aH[i].2 1 (y.bz.map aJ))
  (hk:∀j,j < h.length→sB V.aH[i].2≠some j→k[j]? =h[j]?):bX N k b { V with aH:=V.aH.set i (y,V.aH[i].2) }:=by
 have hin:∀j,some j∈V.bl→N≤j∧j < h.length:=fun j hj=>r.o.dP hj
 have hbl:{ V with aH:=V.aH.set i (y,V.aH[i].2) }.bl=V.bl:=by
  simp only[RV.bl,aac];congr 1;have:sB V.aH[i].2= (V.aH.map fun x=>sB x.2)[i]'(by simpa using hi):=Si
  exact GK
 obtain⟨h1,h2,h3⟩:=Zl.1 (show kY (([sB V.s0,sB V.s1,sB V.s2,sB V.s3,sB V.s4,sB V.s5]++ (V.aj.map fun x=>sB x.2)++ (V.aD.map fun x=>sB x.2))++ (V.aH.map fun x=>sB x.2))from r.o.di);have Su:sB V.aH[i].2∈V.aH.map fun x=>sB x.2:=Yx (f:=fun x:kU×AV=>sB x.2) (Yi hi)
 have kA:∀j,some j∈([sB V.s0,sB V.s1,sB V.s2,sB V.s3,sB V.s4,sB V.s5]++ (V.aj.map fun x=>sB x.2)++ (V.aD.map fun x=>sB x.2))→k[j]? =h[j]? :=fun j hj=>
  hk j (hin j (by rw[RV.bl];exact Yb.2 (.inl hj))).2 (h3 _ hj _ Su j rfl)
 have k6:∀j,some j∈[sB V.s0,sB V.s1,sB V.s2,sB V.s3,sB V.s4,sB V.s5]→k[j]? =h[j]? :=fun j hj=>kA j (by simp only[Yb];exact .inl (.inl hj))
 have hrow: (V.aH.set i (y,V.aH[i].2)).map bN=V.aH.map bN:=by
  rw[aac];have:bN (y,V.aH[i].2)= (V.aH.map bN)[i]'(by simpa using hi):=by simp[bN,hy.1,hy.2]
  exact GK
 have own:cG N k { V with aH:=V.aH.set i (y,V.aH[i].2) }:=by
  refine⟨r.o.i0.aB fun j hj=>k6 j (by rw[←hj];simp),r.o.i1.aB fun j hj=>k6 j (by rw[←hj];simp),r.o.i2.aB fun j hj=>k6 j (by rw[←hj];simp),r.o.i3.aB fun j hj=>k6 j (by rw[←hj];simp),?_,r.o.i5.aB fun j hj=>k6 j (by rw[←hj];simp),?_,?_,?_,?_⟩
  ·show Fr N k V.s4 3 ((V.aH.set i (y,V.aH[i].2)).map bN);rw[hrow];exact r.o.i4.aB fun j hj=>k6 j (by rw[←hj];simp)
  ·exact fun x hx=>(r.o.e2 x hx).aB fun j hj=>kA j (by rw[←hj];simp only[Yb,YA];exact .inl (.inr ⟨x,hx,rfl⟩))
  ·exact fun x hx=>(r.o.e3 x hx).aB fun j hj=>kA j (by rw[←hj];simp only[Yb,YA];exact .inr ⟨x,hx,rfl⟩)
  ·intro x hx;obtain⟨n,hn,rfl⟩:=aad hx;have Vl:n < V.aH.length:=by simpa using hn
   by_cases hni:n=i
   ·subst hni;simp only[Z2];exact hf
   ·simp only[aau (Zv hni)];refine(r.o.e4 _ (Yi Vl)).aB fun j hj=>hk j ?_ fun e=>?_
    ·exact((r.o.e4 _ (Yi Vl)).bM hj).2
    ·have e1: (V.aH.map fun x=>sB x.2)[n]'(by simpa using Vl)=some j:=by simpa using hj
     have e2: (V.aH.map fun x=>sB x.2)[i]'(by simpa using hi)=some j:=by simpa using e
     rcases Nat.lt_or_gt_of_ne hni with hlt| hlt
     ·exact List.pairwise_iff_getElem.1 h2 n i (by simpa using Vl) (by simpa using hi) hlt j e1 e2
     ·exact List.pairwise_iff_getElem.1 h2 i n (by simpa using hi) (by simpa using Vl) hlt j e2 e1
  ·show kY { V with aH:=V.aH.set i (y,V.aH[i].2) }.bl;rw[hbl];exact r.o.di
 refine⟨own,r.hN,?_,by rw[hbl];exact r.ne⟩;have:sB V.aH[i].2≠some b:=fun e=>r.ne (by rw[←e,RV.bl];exact Yb.2 (.inr Su))
 exact(hk b r.lt this).trans r.m
section
variable {P:Program} (T:fy P) {B g:ah} {b:Nat} {V:RV} {x:EV}
include T
def Oz(r:bX B.length (B++g) b V)(c:Cx (B++g) V x .accept):da P 160 [.ptr b 0,.agg x.row] (B++g) (fun _ k=>tI B b V x.ev .accept k):=by
 refine .eD 19 T.mix T.c160 ?_;intro ts hlen t0 t1;unfold fn160 yB;have hex:=@bg.box _ _ c.e;have lb:=@fH _ _ _ r.m;have i0:aZ 1 x.sn (.i 0)=_:=(c.nm (i:=0) De).1;have d0:=@(c.nm (i:=0) De).2;have hn:aO x.ev 0∈gE V.an:=c.nk.kn 0 0 rfl;have hlt:bp (gE V.an) (aO x.ev 0)< V.lines.length:=by have:=cY hn;simpa [gE,RV.an]using this
 have ei:cU (fun y:gM=>decide (y.name=aO x.ev 0)) V.lines= (bp (gE V.an) (aO x.ev 0):Int):=e9 (f:=gM.name) hn;have ix:aZ 3 V.s0 (.i (bp (gE V.an) (aO x.ev 0):Int))=some (cV V.s0 3 (bp (gE V.an) (aO x.ev 0)),.au):=c.o.i0.dI hlt;have sp:dJ V.an (aO x.ev 0)=V.lines[bp (gE V.an) (aO x.ev 0)]:=dh hn;refine Rs (A8 t0 t1 @hex @lb @ga @aM @i0 @d0) ?_;refine WF.ce T.c142 (r142 T (c.o.i0.ext Xx) (by have:=c.w.len.l0;omega) _) fun g1=>?_
 rw[ei];refine Rs (A3 t0 t1 ix) ?_;rw[X4 B g,X4 B];refine WR.vm (h0:=B) (x':={ V.lines[bp (gE V.an) (aO x.ev 0)]with acc:=true }) (by rw[←X4,←X4];exact(r.o.i0.app _).app _) hlt De rfl rfl ?_;intro g' Q7 hff hkp;have hbl:=r.lt;have Rb:sB V.s0≠some b:=fun e=>r.ne (by rw[←e];simp[RV.bl])
 have hk1:∀i,i < (B++g).length→sB V.s0≠some i→(B++g')[i]? = (B++g)[i]? :=fun i hi hne=>by
  rw[hkp i (fun b0 o n e he z=>hne (by rw[he,z];rfl)),←X4,←X4];exact z46
 refine Rs (A3 t0 t1 @eS) ?_;refine⟨g',{ V with lines:=V.lines.set (bp (gE V.an) (aO x.ev 0)) { V.lines[bp (gE V.an) (aO x.ev 0)]with acc:=true },s0:=V.s0 },rfl,r.My hff (fun i hi=>.inl hi) ((hk1 b hbl Rb).trans r.m) (fun i hi h1 _=>hk1 i hi h1),?_⟩;simp only[dq,sp];rfl
def On(r:bX B.length (B++g) b V)(c:Cx (B++g) V x .rel):da P 176 [.ptr b 0,.agg x.row] (B++g) (fun _ k=>tI B b V x.ev .rel k):=by
 refine .eD 19 T.mix T.c176 ?_;intro ts hlen t0 t1;unfold fn176 yB;have hex:=@bg.box _ _ c.e;have lb:=@fH _ _ _ r.m;have i0:aZ 1 x.sn (.i 0)=_:=(c.nm (i:=0) De).1;have d0:=@(c.nm (i:=0) De).2;have hn:aO x.ev 0∈kX V.an:=c.nk.kn 0 5 rfl;have hlt:bp (kX V.an) (aO x.ev 0)< V.aQ.length:=by have:=cY hn;simpa [kX,RV.an]using this
 have ei:cU (fun y:qk=>decide (y.name=aO x.ev 0)) V.aQ= (bp (kX V.an) (aO x.ev 0):Int):=e9 (f:=qk.name) hn;have ix:aZ 4 V.s5 (.i (bp (kX V.an) (aO x.ev 0):Int))=some (cV V.s5 4 (bp (kX V.an) (aO x.ev 0)),.au):=c.o.i5.dI hlt;have sp:jO V.an (aO x.ev 0)=V.aQ[bp (kX V.an) (aO x.ev 0)]:=dh hn;refine Rs (A8 t0 t1 @hex @lb @gT @aM @i0 @d0) ?_;refine WF.ce T.c146 (r146 T (c.o.i5.ext Xx) (by have:=c.w.len.l5;omega) _) fun g1=>?_
 rw[ei];refine Rs (A3 t0 t1 ix) ?_;rw[X4 B g,X4 B];refine WR.vm (h0:=B) (x':={ V.aQ[bp (kX V.an) (aO x.ev 0)]with rel:=true }) (by rw[←X4,←X4];exact(r.o.i5.app _).app _) hlt De rfl rfl ?_;intro g' Q7 hff hkp;have hbl:=r.lt;have Rb:sB V.s5≠some b:=fun e=>r.ne (by rw[←e];simp[RV.bl])
 have hk1:∀i,i < (B++g).length→sB V.s5≠some i→(B++g')[i]? = (B++g)[i]? :=fun i hi hne=>by
  rw[hkp i (fun b0 o n e he z=>hne (by rw[he,z];rfl)),←X4,←X4];exact z46
 refine Rs (A3 t0 t1 @eS) ?_;refine⟨g',{ V with aQ:=V.aQ.set (bp (kX V.an) (aO x.ev 0)) { V.aQ[bp (kX V.an) (aO x.ev 0)]with rel:=true },s5:=V.s5 },rfl,r.Mx hff (fun i hi=>.inl hi) ((hk1 b hbl Rb).trans r.m) (fun i hi h1 _=>hk1 i hi h1),?_⟩;simp only[dq,sp];rfl
def Ly(r:bX B.length (B++g) b V){d}(c:Cx (B++g) V x d)(hd:1 < cB d)(h0:0 < (bL d).length)(hn:aO x.ev 0∈iE V.an)(hlt1:bG x.ev 1 < (gu V.an (aO x.ev 0)).bz.length)(s:Int):
  da P 250 [.ptr b 0,.agg x.row,.i s] (B++g) (fun _ k=>∃g' V',k=B++g'∧bX B.length (B++g') b V'∧V'.an={ V.an with aH:=mO V.an x.ev s }):=by
 refine .nH 28 T.mix T.c250 ?_;intro ts hlen t0 t1 t2;unfold fn250;have hex:=@bg.box _ _ c.e;have lb:=@fH _ _ _ r.m;have i0:aZ 1 x.sn (.i 0)=_:=(c.nm (i:=0) h0).1;have d0:=@(c.nm (i:=0) h0).2;have j1:aZ 1 x.sv (.i 1)=_:=(c.vl (i:=1) hd).1;have f1:=@(c.vl (i:=1) hd).2.1;have q1:=(c.vl (i:=1) hd).2.2;have hlt:bp (iE V.an) (aO x.ev 0)< V.aH.length:=by have:=cY hn;simpa [iE,RV.an]using this
 have ei:cU (fun y:kU×AV=>decide (y.1.name=aO x.ev 0)) V.aH= (bp (iE V.an) (aO x.ev 0):Int):=(e9 (f:=fun y:kU×AV=>y.1.name) (by rw[←gV];exact hn)).trans (by rw[gV]);have ix:aZ 3 V.s4 (.i (bp (iE V.an) (aO x.ev 0):Int))=some (cV V.s4 3 (bp (iE V.an) (aO x.ev 0)),.au):=c.o.i4.dI hlt;have sp: (V.aH[bp (iE V.an) (aO x.ev 0)]).1=gu V.an (aO x.ev 0):=by
  have:=dh (f:=kU.name) (l:=V.an.aH) (n:=aO x.ev 0) (d:=zS) hn;rw[show gu V.an (aO x.ev 0)=_ from this];exact Dj
 obtain⟨p,hp⟩:∃p,p=bp (iE V.an) (aO x.ev 0):=⟨_,rfl⟩;rw[←hp]at ei ix;have hlt:p < V.aH.length:=by rw[hp];exact hlt
 have sp:V.aH[p].1=gu V.an (aO x.ev 0):=by rw[←sp];congr 2
 have l2:∀{k:ah},Ext (B++g) k→aq none (jv V.s4 3 p 2) (fun b=>k[b]?)=some (V.aH[p].2,.au):=fun {k} e=>c.o.i4.lG hlt rfl e
 have oj:=r.o.e4 _ (Yi hlt);have hsl: (bG x.ev 1).toNat < V.aH[p].1.bz.length:=by rw[sp];omega
 have V4:bG x.ev 1= ((bG x.ev 1).toNat:Int):=Om
 have iy:aZ 1 V.aH[p].2 (.i (bG x.ev 1))=some (cV V.aH[p].2 1 (bG x.ev 1).toNat,.au):=by
  rw[V4];exact oj.aX.dI hsl
 refine Rs (A9 t0 t1 t2 @hex @lb @fZ @aM @i0 @d0) ?_;refine WF.ce T.c145 (r145 T (c.o.i4.ext Xx) c.o.jd.2.2 (by have:=c.w.len.l4;omega) _) fun g1=>?_
 rw[ei];refine Rs (A9 t0 t1 t2 ix @l2 @aY @j1 @f1 @iy) ?_;rw[X4 B g,X4 B];have UY:cV V.aH[p].2 1 (bG x.ev 1).toNat=jv V.aH[p].2 1 (bG x.ev 1).toNat 0:=rfl;rw[UY];refine WR.vm (h0:=B) (x':=s) (row:=aJ) (L:=V.aH[p].1.bz) (by rw[←X4,←X4];exact(oj.app _).app _) hsl De rfl rfl ?_;intro g' Q7 hff hkp;have hk1:∀i,i < (B++g).length→sB V.aH[p].2≠some i→(B++g')[i]? = (B++g)[i]? :=fun i hi hne=>by
  rw[hkp i (fun b0 o n e he z=>hne (by rw[he,z];rfl)),←X4,←X4];exact z46
 refine Rs (A4 t0 t1 t2 @eS) ?_;refine⟨g',{ V with aH:=V.aH.set p ({ V.aH[p].1 with bz:=V.aH[p].1.bz.set (bG x.ev 1).toNat s },V.aH[p].2) },rfl,r.Qi hlt ⟨rfl,rfl⟩ hff hk1,?_⟩;have e:mO V.an x.ev s= (V.aH.set p ({ V.aH[p].1 with bz:=V.aH[p].1.bz.set (bG x.ev 1).toNat s },V.aH[p].2)).map Prod.fst:=by
  rw[mO,←hp,←sp,aac];rfl
 rw[e];rfl
def Ot(r:bX B.length (B++g) b V)(c:Cx (B++g) V x .fM)(hc:bA V.an x.ev .fM=0):da P 170 [.ptr b 0,.agg x.row] (B++g) (fun _ k=>tI B b V x.ev .fM k):=by
 refine .eD 11 T.mix T.c170 ?_;intro ts hlen t0 t1;unfold fn170;have hex:=@bg.box _ _ c.e;have j2:aZ 1 x.sv (.i 2)=_:=(c.vl (i:=2) De).1;have f2:=@(c.vl (i:=2) De).2.1;have k0:aO x.ev 0∈iE V.an:=c.nk.kn 0 4 rfl;have hlt:bG x.ev 1 < (gu V.an (aO x.ev 0)).bz.length:=by
  exact z72
 refine Rs (A7 t0 t1 @hex @cj @aY @j2 @f2) ?_;rw[X4 B g];refine WF.gen T.c250 (Ly T (B:=B) (by rw[←X4];exact r.app _) (by rw[←X4];exact c.ext Xx) De De k0 hlt (bG x.ev 2)) ?_;rintro _ _ ⟨g',V',rfl,h1,h2⟩;exact Jt
def Oq(r:bX B.length (B++g) b V)(c:Cx (B++g) V x .fail)(hc:bA V.an x.ev .fail=0):da P 172 [.ptr b 0,.agg x.row] (B++g) (fun _ k=>tI B b V x.ev .fail k):=by
 refine .eD 7 T.mix T.c172 ?_;intro ts hlen t0 t1;unfold fn172;have hex:=@bg.box _ _ c.e;have k0:aO x.ev 0∈iE V.an:=c.nk.kn 0 4 rfl;have hlt:bG x.ev 1 < (gu V.an (aO x.ev 0)).bz.length:=by
  exact z72
 refine Rs (A4 t0 t1 @hex @cj) ?_;rw[X4 B g];refine WF.gen T.c250 (Ly T (B:=B) (by rw[←X4];exact r.app _) (by rw[←X4];exact c.ext Xx) De De k0 hlt (-1)) ?_;rintro _ _ ⟨g',V',rfl,h1,h2⟩;exact Jt
end
def w9{k:Nat}(hk:k≤32):dY .and (.int .u64 (k:Int)) (.int .u64 4294967295)=some (.int .u64 (k:Int))∧dY .shr (.int .u64 (k:Int)) (.int .u64 32)=some (.int .u64 0):=by
 have:k=0∨k=1∨k=2∨k=3∨k=4∨k=5∨k=6∨k=7∨k=8∨k=9∨k=10∨k=11∨k=12∨k=13∨k=14∨k=15∨k=16∨k=17∨k=18∨k=19∨k=20∨k=21∨k=22∨k=23∨k=24∨k=25∨k=26∨k=27∨k=28∨k=29∨k=30∨k=31∨k=32:=Om
 rcases this with rfl| rfl| rfl| rfl| rfl| rfl| rfl| rfl| rfl| rfl| rfl| rfl| rfl| rfl| rfl| rfl| rfl| rfl| rfl| rfl| rfl| rfl| rfl| rfl| rfl| rfl| rfl| rfl| rfl| rfl| rfl| rfl| rfl<;>exact⟨rfl,rfl⟩
def zv:dY .and (.int .u64 0) (.int .u64 4294967295)=some (.int .u64 0)∧dY .shr (.int .u64 0) (.int .u64 32)=some (.int .u64 0):=⟨rfl,rfl⟩
def BY:dY .and (.int .u64 1) (.int .u64 4294967295)=some (.int .u64 1)∧dY .shr (.int .u64 1) (.int .u64 32)=some (.int .u64 0):=⟨rfl,rfl⟩
def Io{x y:cT}{ρ:cT→AV}{h:ah}{b o n m N:Nat}{c:List AV}{tl:Bool}(hx:ρ x= .slice b o n 1)(hy:ρ y= .slice b 0 m 1)(hb:h[b]? =some (.cells c true tl))(hn:o+n≤c.length)(hm:m≤c.length)(h0:0 < min m n):
  stepT (.wI 1 x y) ρ (fun z=>h[z]?) N=some (.i (min m n:Nat),.set b (.cells (fI c o (c.take (min m n))) true tl)):=by
 have hc:ff 1 (fun z=>h[z]?) (ρ y)=some (c.take m,m):=by
  rw[hy];simp only[ff,Ys,hb,YR,aaf,Zu];rw[Yh hm]
 have e:stepT (.wI 1 x y) ρ (fun z=>h[z]?) N= (match ρ x,ff 1 (fun z=>h[z]?) (ρ y)with
  | .slice b o n es',some (ys,k)=>
   if es' =1 then
    if min k n=0 then some (.i 0,.au)
    else
     match h[b]? with
     | some (.cells c true tl)=>if o+min k n * 1≤c.length then some (.i (min k n:Nat),.set b (.cells (fI c o (ys.take (min k n * 1))) true tl))else none
     | _=>none
   else none
  | .af,some _=>some (.i 0,.au)
  | _,_=>none):=rfl
 rw[e,hc,hx];simp only[Ys,hb,aaf];rw[Yd Om,Yh Om,List.take_take,ZW (Nat.min_le_left _ _)]
def EC{x y ρ h b n N c v tl}(hx:ρ x= .slice b 0 n 1)(hy:aK h (ρ y) 1 [[v]])(hb:h[b]? =some (.cells c true tl))(hn:c.length=n)(h0:0 < n):
  stepT (.wI 1 x y) ρ (fun z=>h[z]?) N=some (.i 1,.set b (.cells (c.set 0 v) true tl)):=by
 have hc:=hy.ff;have e:stepT (.wI 1 x y) ρ (fun z=>h[z]?) N= (match ρ x,ff 1 (fun z=>h[z]?) (ρ y)with
  | .slice b o n es',some (ys,k)=>
   if es' =1 then
    if min k n=0 then some (.i 0,.au)
    else
     match h[b]? with
     | some (.cells c true tl)=>if o+min k n * 1≤c.length then some (.i (min k n:Nat),.set b (.cells (fI c o (ys.take (min k n * 1))) true tl))else none
     | _=>none
   else none
  | .af,some _=>some (.i 0,.au)
  | _,_=>none):=rfl
 have hm:min 1 n=1:=Om
 rw[e,hc,hx];simp only[Ys,hb,Yv,hm,aaf];rw[Yd De,Yh Om];rfl
def Bq{v z c m k}(hm:c+m≤k):fI (List.replicate c v++List.replicate (k - c) z) c (List.replicate m v)=List.replicate (c+m) v++List.replicate (k - (c+m)) z:=by
 induction m generalizing c with
 | zero=>rfl
 | succ m ih=>
  rw[ZG,pa];have hk:k - c= (k - (c+1))+1:=Om
  have e: (List.replicate c v++List.replicate (k - c) z).set c v=List.replicate (c+1) v++List.replicate (k - (c+1)) z:=by
   rw[YX _ _ Si,Ze,Zb,hk,ZG,List.set_cons_zero,List.replicate_succ',X4];rfl
  rw[e,ih Om];congr 2<;>omega
def Be{v z:AV}{c m k:Nat}(hm:m≤c): (List.replicate c v++List.replicate (k - c) z).take m=List.replicate m v:=by
 rw[List.take_append_of_le_length (by simpa using hm),List.take_replicate,ZW hm]
section
variable {P:Program} (T:fy P) {h:ah}
include T
def r286{k:Nat}(hk:k≤32):ay P 286 [.int .u64 1,.int .u64 (k:Int)] h (fun v _=>v= .dL [.int .u64 0,.int .u64 (k:Int)]):=by
 refine .eD 51 T.mix T.c286 ?_;intro ts hlen t0 t1;unfold fn286;obtain⟨a1,a2⟩:=w9 hk;obtain⟨b1,b2⟩:=zv;obtain⟨c1,c2⟩:=BY;have w1:IntKind.u64.wrap (1 * (k:Int))= (k:Int):=by rw[Int.one_mul];exact yr Om Om
 have w2:IntKind.u64.wrap (0 * (k:Int))=0:=by rw[Int.zero_mul];rfl
 have w3:IntKind.u64.wrap (0+0)=0:=rfl;have w4:IntKind.u64.wrap (1 * 0)=0:=rfl;have w5:IntKind.u64.wrap (0 * 0)=0:=rfl;exact Rs (GH t0 t1 @a1 @a2 @b1 @b2 @c1 @c2 @w1 @w2 @w3 @w4 @w5) Tv
def r267{k:Nat}(hk:k≤32):ay P 267 [.int .u64 1,.int .u64 (k:Int)] h (fun v _=>v= .dL [.int .u64 0,.int .u64 (k:Int)]):=by
 refine .eD 30 T.mix T.c267 ?_;intro ts hlen t0 t1;unfold fn267;refine Rs (A2 t0 t1) ?_;refine WF.ce T.c286 (r286 T hk) fun g1=>?_
 exact Rs (A2 t0 t1) Tv
def r248{s:AV}(hs:aK h s 1 (([-1] :List Int).map aJ)){k:Nat}(hk:k≤32)(hk0:0 < k):ay P 248 [s,.i (k:Int)] h (fun v h'=>Fr h.length h' v 1 ((List.replicate k (-1:Int)).map aJ)):=by
 refine .eD 48 T.mix T.c248 ?_;intro ts hlen t0 t1;unfold fn248;have q0:decide ((k:Int)< 0)=false:=X3 Om;have TB:=fun G=>hs.aL G
 have c1:IntKind.u64.wrap ((([-1] :List Int).length:Nat):Int)=1:=rfl;have c2:IntKind.u64.wrap (k:Int)= (k:Int):=yr Om Om;have q1:decide ((0:Int)< 0)=false:=rfl;have q2:decide ((9223372036854775807:Int)< (k:Int))=false:=X3 Om;have c3:IntKind.i64.wrap (k:Int)= (k:Int):=bo Om Om;have mk:∀{N:Nat},tg 1 8 [AV.i 0] (.i (k:Int)) (.i (k:Int)) N=some (.slice N 0 k 1,.push (.cells (dK k [AV.i 0]) true true)):=nT Om Om;refine Rs (A6 t0 t1 q0 @TB @c1 @c2) ?_;refine WF.ce T.c267 (r267 T hk) fun g1=>?_
 refine Rs (A6 t0 t1 q1 q2 @c3 @mk) ?_;rw[EC (b:=(h++g1).length) (n:=k) (v:=.i (-1)) (c:=dK k [AV.i 0]) (tl:=true)]
 rotate_left
 ·exact(Sq t0)
 ·have:aK (h++g1++ [ak.cells (dK k [AV.i 0]) true true]) s 1 [[AV.i (-1)]]:=hs.ext Xx;refine Zs t0 ?_;exact this
 ·exact ba
 ·rw[lP,Z6];simp
 ·exact hk0
 have hz: (dK k [AV.i 0]).set 0 (.i (-1))=List.replicate 1 (AV.i (-1))++List.replicate (k - 1) (AV.i 0):=by
  rw[lP,Z6];obtain⟨n,rfl⟩:∃n,k=n+1:=⟨k - 1,Om⟩;rw[ZG,List.set_cons_zero];rfl
 rw[hz];refine Rs (A2 t0 t1) ?_;obtain⟨b0,R9⟩:∃b0,b0= (h++g1).length:=⟨_,rfl⟩;rw[←R9];have hN:h.length≤b0:=by rw[R9];simp
 refine WL.inv T.mix (fun n ts h'=>∃c:Nat,1≤c∧c≤k∧n=k - c∧h' =h++g1++ [ak.cells (List.replicate c (AV.i (-1))++List.replicate (k - c) (AV.i 0)) true true]∧ts.length=48∧slot ts 7= .slice b0 0 k 1∧slot ts 8= .i (c:Int)) (k - 1)
  ⟨1,Om,Om,rfl,rfl,Sn,(Sq t0),hP⟩ ?_
 rintro _ ts _ ⟨c,h1,h2,rfl,rfl,hlen,t7,t8⟩;have hb: (h++g1++ [ak.cells (List.replicate c (AV.i (-1))++List.replicate (k - c) (AV.i 0)) true true])[b0]? =some (.cells (List.replicate c (AV.i (-1))++List.replicate (k - c) (AV.i 0)) true true):=by rw[R9];exact ba
 have VJ:∀G:Nat→Option ak,iO .sl G (.slice b0 0 k 1)=some k:=fun _=>rfl
 by_cases hlt:c < k
 ·have e3:decide ((c:Int)< (k:Int))=true:=X7 Om;have s1:AH 1 (.slice b0 0 k 1) (some (.i (c:Int))) none=some (.slice b0 c (k - c) 1,.au):=by
   simp only[AH,Ys,ml (kk:=.i64) h2,aaf,YR]
  have s2:AH 1 (.slice b0 0 k 1) none (some (.i (c:Int)))=some (.slice b0 0 c 1,.au):=by
   simp only[AH,Ys,jy (kk:=.i64) h2,aaf,YR,Nat.sub_zero]
  refine Rs (A6 t7 t8 @VJ e3 @s1 @s2) ?_;rw[Io (b:=b0) (o:=c) (n:=k - c) (m:=c) (c:=List.replicate c (AV.i (-1))++List.replicate (k - c) (AV.i 0)) (tl:=true)]
  rotate_left
  ·exact(Sq t7)
  ·exact(Sq t7)
  ·exact hb
  ·exact z168
  ·exact z168
  ·omega
  rw[Be (Nat.min_le_left _ _),Bq Om];have bS:∀X:ak,(h++g1++ [ak.cells (List.replicate c (AV.i (-1))++List.replicate (k - c) (AV.i 0)) true true]).set b0 X=h++g1++ [X]:=fun X=>by rw[R9];exact Bp
  have hw:IntKind.i64.wrap ((c:Int)+ ((min c (k - c):Nat):Int))= ((c+min c (k - c):Nat):Int):=by rw[bo Om Om];rfl
  refine Rs (A4 t7 t8 @bS @hw) ?_;exact⟨_,Om,c+min c (k - c),Om,Om,rfl,rfl,rfl⟩
 ·have e3:decide ((c:Int)< (k:Int))=false:=X3 Om;have e4:c=k:=Om
  refine Rs (A4 t7 t8 @VJ e3) ?_;have Ru: (List.replicate c (AV.i (-1))++List.replicate (k - c) (AV.i 0))= ((List.replicate k (-1:Int)).map aJ).flatten:=by
   rw[e4,Zb,aav,Yu,List.map_replicate,Z6]
  have hlr: ((List.replicate k (-1:Int)).map aJ).length=k:=Si
  rw[Ru]at hb;have:=Fr.mk (N:=h.length) (es:=1) (cs:=(List.replicate k (-1:Int)).map aJ) (b:=b0) (tl:=true) hN hb Si;rw[hlr]at this;rw[Ru];exact this
end
section
variable {P:Program} (T:fy P) {B g:ah} {b:Nat} {V:RV} {x:EV}
include T
def Ou(r:bX B.length (B++g) b V)(c:Cx (B++g) V x .run)(hc:bA V.an x.ev .run=0):da P 168 [.ptr b 0,.agg x.row] (B++g) (fun _ k=>tI B b V x.ev .run k):=by
 refine .eD 28 T.mix T.c168 ?_;intro ts hlen t0 t1;unfold fn168;have hex:=@bg.box _ _ c.e;have lb:=@fH _ _ _ r.m;have i0:aZ 1 x.sn (.i 0)=_:=(c.nm (i:=0) De).1;have d0:=@(c.nm (i:=0) De).2;have i1:aZ 1 x.sn (.i 1)=_:=(c.nm (i:=1) De).1;have d1:=@(c.nm (i:=1) De).2;have j1:aZ 1 x.sv (.i 1)=_:=(c.vl (i:=1) De).1;have f1:=@(c.vl (i:=1) De).2.1;have q1:=(c.vl (i:=1) De).2.2;have hn:1≤bG x.ev 1∧bG x.ev 1≤32:=by
  rw[bA]at hc;split at hc
  ·cases hc
  split at hc
  ·cases hc
  case isFalse hr=>exact gk hr
 obtain⟨k,hk⟩:∃k:Nat,bG x.ev 1= (k:Int):=⟨(bG x.ev 1).toNat,Om⟩;rw[hk]at f1;obtain⟨y,hy⟩:∃y:kU,y= ⟨aO x.ev 0,aO x.ev 1,List.replicate k (-1)⟩:=⟨_,rfl⟩;refine Rs (GH t0 t1 @hex @lb @fZ @aM @aY @i0 @d0 @i1 @d1 @j1 @f1) ?_;refine WF.res T.c248 (r248 T (s:=.slice (B++g++ [ak.b x.row]).length 0 1 1) (k:=k) (cw [-1]) Om Om) ?_;rintro t g1 RW;have SC:bN (y,t)= [.str (aO x.ev 0),.str (aO x.ev 1),t]:=by rw[hy];rfl
 have RW:Fr (B++g).length (B++g++ [ak.b x.row]++ [ak.cells [AV.i (-1)] true true]++g1) t 1 (y.bz.map aJ):=by rw[hy];exact RW.low (by simp only[X2,Yv];omega)
 have ot:=RW.aX.one;refine Rs (A3 t0 t1 @ot) ?_;rw[←SC];refine WR.fL (h0:=B) (cs:=V.aH.map bN) (ys:=[bN (y,t)]) (((((r.o.i4).app _).app _).app _).app _) (Fr.push (N:=0) (YB _) [bN (y,t)] (by simp[bN])).aX De Si (by have:=c.w.len.l4;simp;omega) Xx ?_;intro g' Q7 hff hkp;have hrow:V.aH.map bN++ [bN (y,t)]= (V.aH++ [(y,t)]).map bN:=by rw[Yc];rfl
 rw[hrow]at hff;rw[hrow];have hbl:=r.lt;have Rb:sB V.s4≠some b:=fun e=>r.ne (by rw[←e];simp[RV.bl])
 have hk1:∀i,i < (B++g).length→sB V.s4≠some i→(B++g')[i]? = (B++g)[i]? :=fun i hi hne=>by
  exact IZ
 have mB: (B++g')[b]? =some (.b V.row):=(hk1 b hbl Rb).trans r.m;have TZ:=fun(b' o n e:Nat)=>hO (i:=5) (v:=.slice b' o n e) mB rfl De
 refine Rs (A4 t0 t1 @TZ @eS) ?_;refine LC r hff ?_ (fun i hi=>by cases hi;exact .inr (by simp only[X2,Yv];omega)) hk1 ?_ ?_
 ·refine Fr.low (N:=(B++g).length) ((show Fr (B++g).length _ t 1 _ from RW.app _).aB fun i hi=>hkp i ?_ (fun b0 o n e he z=>?_)) Si
  ·have:=(RW.bM hi).2;simp only[X2,Yv]at this ⊢;omega
  ·have h1:=(RW.bM hi).1;have h2:=(r.o.i4.bM (show sB V.s4=some i by rw[he,z];rfl)).2;omega
 ·intro i hi;exact z40
 ·have e: (bG x.ev 1).toNat=k:=Om
  rw[hy];simp[RV.an,dq,e]
end
end Go.Abs
namespace Go.Abs
section
variable {P:Program} {ro:Option Nat→Prop} {ks:List Kt} {ts:TS} {h:ah} {Q:Ex→TS→ah→Prop} {S:ah→Prop} {K:TS→ah→Prop} {l:List bJ}
def oT(S:ah→Prop)(H:WM P S l ts h (kq P ro ks Q .normal)):WC P ro (.lC l) ks ts h Q:=⟨S,H⟩
def c7{o}(hS:S h)(hl:mD o=false)(hn:kg (o::l)=false)(H:WP P bR [o] [] ts h (fun _ Sz h1=>WM P S l Sz h1 K)):WM P S (o::l) ts h K:=⟨hS,.inr ⟨hn,.inr ⟨hl,H⟩⟩⟩
def oS{o}(hS:S h)(hl:kg (o::l)=true)(H:WP P ro (o::l) ks ts h Q):WM P S (o::l) ts h (kq P ro ks Q .normal):=⟨hS,.inl ⟨hl,H⟩⟩
def kN{n a d v}(hS:S h)(hv:∀g,S g→aq n (val ts a) (fun b=>g[b]?)=some (v,.au))(H:WM P S l (put ts d v) h K)(hn:kg (({ dst:=d,k:=.load n a,gd:=none,q:=true }:bJ)::l)=false:=by rfl):WM P S ({ dst:=d,k:=.load n a,gd:=none,q:=true } ::l) ts h K:=by
 refine⟨hS,.inr ⟨hn,.inl ⟨rfl,v,fun g hg=>?_,H⟩⟩⟩;refine dx.run trivial ?_ ?_
 ·cases d<;>trivial
 ·have h1:stepT (.load n a) (val ts) (fun b=>g[b]?) g.length=some (v,.au):=hv g hg;exact nG h1
end
def bX.Qh{N b h k V}(r:bX N h b V){i}(hi:i < V.aj.length){y t}(hs:Fr N k V.s2 3 ((V.aj.set i (y,t)).map bj))(ht:Fr N k t 1 (y.aI.map ao))(hnt:∀j,sB t=some j→h.length≤j)
  (hk:∀j,j < h.length→sB V.s2≠some j→sB V.aj[i].2≠some j→k[j]? =h[j]?):bX N k b { V with aj:=V.aj.set i (y,t) }:=by
 have hin:∀j,some j∈V.bl→N≤j∧j < h.length:=fun j hj=>r.o.dP hj
 let l1:List (Option Nat):=[sB V.s0,sB V.s1,sB V.s2,sB V.s3,sB V.s4,sB V.s5]++ (V.aj.take i).map fun x=>sB x.2
 let l2:List (Option Nat):=(V.aj.drop (i+1)).map (fun x=>sB x.2)++ (V.aD.map fun x=>sB x.2)++ (V.aH.map fun x=>sB x.2)
 have hV:V.bl=l1++sB V.aj[i].2::l2:=by
  have e:V.aj=V.aj.take i++V.aj[i]::V.aj.drop (i+1):=by rw[←Z4 hi,Zx]
  have e2: (V.aj.map fun x=>sB x.2)= (V.aj.take i).map (fun x=>sB x.2)++sB V.aj[i].2:: (V.aj.drop (i+1)).map (fun x=>sB x.2):=by
   conv=>lhs;rw[e]
   simp only[Yc,YY]
  exact Jq
 have VX:{ V with aj:=V.aj.set i (y,t) }.bl=l1++sB t::l2:=by
  have e2: ((V.aj.set i (y,t)).map fun x=>sB x.2)= (V.aj.take i).map (fun x=>sB x.2)++sB t:: (V.aj.drop (i+1)).map (fun x=>sB x.2):=by
   rw[List.set_eq_take_append_cons_drop,Yh hi];simp only[Yc,YY]
  exact Jq
 have RM:=r.o.di;rw[hV]at RM;obtain⟨h1,h2,h3⟩:=Zl.1 RM;have h4:=Y8.1 h2;have nti:∀j,some j∈l1∨some j∈l2→sB V.aj[i].2≠some j:=fun j hj e=>by
  rcases hj with hj| hj
  ·exact h3 _ hj _ Si j rfl e
  ·exact h4.1 _ hj j e rfl
 have hlt:∀j,some j∈l1∨some j∈l2→j < h.length:=fun j hj=>(hin j (by rw[hV];exact iN hj)).2
 have ns2:∀j,(some j∈[sB V.s0,sB V.s1]∨some j∈[sB V.s3,sB V.s4,sB V.s5]++ ((V.aj.map fun x=>sB x.2)++ (V.aD.map fun x=>sB x.2)++ (V.aH.map fun x=>sB x.2)))→sB V.s2≠some j:=fun j hj e=>by
  have VS:kY ([sB V.s0,sB V.s1]++sB V.s2:: ([sB V.s3,sB V.s4,sB V.s5]++ ((V.aj.map fun x=>sB x.2)++ (V.aD.map fun x=>sB x.2)++ (V.aH.map fun x=>sB x.2)))):=by
   have:=r.o.di;simp only[RV.bl]at this
   simpa using this
  obtain⟨a1,a2,a3⟩:=Zl.1 VS;rcases hj with hj| hj
  ·exact a3 _ hj _ Si j rfl e
  ·exact(Y8.1 a2).1 _ hj j e rfl
 have kp:∀j,(some j∈l1∨some j∈l2)→sB V.s2≠some j→k[j]? =h[j]? :=fun j hj hn=>hk j (hlt j hj) hn (nti j hj)
 have own:cG N k { V with aj:=V.aj.set i (y,t) }:=by
  refine⟨r.o.i0.aB fun j hj=>kp j (.inl (by rw[←hj];simp[l1])) (ns2 j (.inl (by rw[←hj];simp))),r.o.i1.aB fun j hj=>kp j (.inl (by rw[←hj];simp[l1])) (ns2 j (.inl (by rw[←hj];simp))),hs,
   r.o.i3.aB fun j hj=>kp j (.inl (by rw[←hj];simp[l1])) (ns2 j (.inr (by rw[←hj];simp))),r.o.i4.aB fun j hj=>kp j (.inl (by rw[←hj];simp[l1])) (ns2 j (.inr (by rw[←hj];simp))),r.o.i5.aB fun j hj=>kp j (.inl (by rw[←hj];simp[l1])) (ns2 j (.inr (by rw[←hj];simp))),?_,?_,?_,?_⟩
  ·intro x hx;obtain⟨n,hn,rfl⟩:=aad hx;have Vl:n < V.aj.length:=by simpa using hn
   by_cases hni:n=i
   ·subst hni;simp only[Z2];exact ht
   ·simp only[aau (Zv hni)];refine(r.o.e2 _ (Yi Vl)).aB fun j hj=>kp j ?_ (ns2 j (.inr ?_))
    ·rcases Nat.lt_or_gt_of_ne hni with hlt| hlt
     ·left
      refine Yb.2 (.inr (YA.2 ⟨V.aj[n],?_,hj⟩));exact List.mem_take_iff_getElem.2 ⟨n,Om,rfl⟩
     ·right
      simp only[l2,Yb];refine .inl (.inl (YA.2 ⟨V.aj[n],?_,hj⟩));exact List.mem_drop_iff_getElem.2 ⟨n - (i+1),Om,by congr 1;omega⟩
    ·simp only[Yb];exact .inr (.inl (.inl (YA.2 ⟨V.aj[n],Yi Vl,hj⟩)))
  ·intro x hx;refine(r.o.e3 x hx).aB fun j hj=>kp j (.inr ?_) (ns2 j (.inr ?_))
   ·simp only[l2,Yb];exact .inl (.inr (YA.2 ⟨x,hx,hj⟩))
   ·simp only[Yb];exact .inr (.inl (.inr (YA.2 ⟨x,hx,hj⟩)))
  ·intro x hx;refine(r.o.e4 x hx).aB fun j hj=>kp j (.inr ?_) (ns2 j (.inr ?_))
   ·simp only[l2,Yb];exact .inr (YA.2 ⟨x,hx,hj⟩)
   ·simp only[Yb];exact .inr (.inr (YA.2 ⟨x,hx,hj⟩))
  ·show kY { V with aj:=V.aj.set i (y,t) }.bl;rw[VX];refine RM.xP fun j hj=>.inr ⟨fun z hz e=>?_,fun z hz e=>?_⟩
   ·subst e;have:=hlt j (.inl hz);have:=hnt j hj;omega
   ·subst e;have:=hlt j (.inr hz);have:=hnt j hj;omega
 have hne:=r.ne;rw[hV]at hne;refine⟨own,r.hN,?_,fun hb=>?_⟩
 ·have n1:sB V.s2≠some b:=fun e=>hne (iN (.inl (by rw[←e];simp[l1])))
  have n2:sB V.aj[i].2≠some b:=fun e=>hne (by rw[e];simp)
  exact(hk b r.lt n1 n2).trans r.m
 ·rw[VX]at hb;rcases vC hb with z| z| z
  ·exact hne (iN (.inl z))
  ·have:=hnt b z.symm;have:=r.lt;omega
  ·exact hne (iN (.inr z))
set_option maxRecDepth 10000
attribute [local irreducible] WP WC WE WB WR WF WL WG fT
section
variable {P:Program} (T:fy P) {h:ah}
include T
def r266{L s}(hs:aK h s 1 (L.map ao))(hl:L.length < 2^63)(n:By):ay P 266 [s,.str n] h (fun v _=>v= .i (cU (fun y=>decide (n=y)) L)):=by
 refine .eD 19 T.mix T.c266 ?_;intro ts hlen t0 t1;unfold fn266;refine Rs (A3 t0 t1 hs.aL) ?_;refine WL.inv T.mix (fun m ts h'=>∃k:Nat,k≤L.length∧m=L.length - k∧h' =h∧L.findIdx? (fun y=>decide (n=y))= ((L.drop k).findIdx? (fun y=>decide (n=y))).map (· +k)∧ts.length=19∧slot ts 0=s∧slot ts 1= .str n∧slot ts 7= .i L.length∧slot ts 8= .i k) L.length
  ⟨0,Om,rfl,rfl,Si,Sn,(Sq t0),(Sq t1),(Sq t0),hP⟩ ?_
 rintro _ ts _ ⟨k,hk,rfl,rfl,hi,hlen,t0,t1,t7,t8⟩;by_cases hlt:k < L.length
 ·have hd:L.drop k=L[k]::L.drop (k+1):=Si
  have e3:=eT hlt;have ix:=hs.dI (kk:=.i64) hlt;have ld:=hs.ki (i:=k) (x:=.str L[k]) hlt rfl (Ext.refl _);have e5:=wrapN (n:=k) Om;by_cases hp:n=L[k]
  ·have q:decide (n=L[k])=true:=X7 hp;refine Rs (A8 t0 t1 t7 t8 e3 ix @ld q) ?_;rw[cU,hi,hd,aam,q];simp
  ·have q:decide (n=L[k])=false:=X3 hp;refine Rs (A9 t0 t1 t7 t8 e3 ix @ld q e5) ?_;refine⟨_,?_,k+1,Om,rfl,?_,rfl⟩
   ·omega
   ·rw[hi,hd,aam,q];exact Qb
 ·have e3:=fQ hlt;have e4:k=L.length:=Om
  refine Rs (A5 t0 t1 t7 t8 e3) ?_;rw[cU,hi,e4,YZ];rfl
def r242{L:List (By)}{s:AV}(hs:aK h s 1 (L.map ao))(hl:L.length < 2^63)(n:By):ay P 242 [s,.str n] h (fun v _=>v= .bool (decide (n∈L))):=by
 refine .eD 9 T.mix T.c242 ?_;intro ts hlen t0 t1;unfold fn242 pK;refine Rs (A2 t0 t1) ?_;refine WF.ce T.c266 (r266 T hs hl n) fun g1=>?_
 refine Rs (A2 t0 t1) ?_;rw[nY];congr 1;rw[Bool.eq_iff_iff];simp[ZE]
end
attribute [local irreducible] WM
section
variable {P:Program} (T:fy P) {B g:ah} {b:Nat} {V:RV} {x:EV}
include T
def OA(r:bX B.length (B++g) b V)(c:Cx (B++g) V x .copy):da P 158 [.ptr b 0,.agg x.row] (B++g) (fun _ k=>tI B b V x.ev .copy k):=by
 refine .eD 50 T.mix T.c158 ?_;intro ts hlen t0 t1;unfold fn158;have hex:=@bg.box _ _ c.e;have lb:=@fH _ _ _ r.m;have i0:aZ 1 x.sn (.i 0)=_:=(c.nm (i:=0) De).1;have d0:=@(c.nm (i:=0) De).2;have i1:aZ 1 x.sn (.i 1)=_:=(c.nm (i:=1) De).1;have d1:=@(c.nm (i:=1) De).2;have Tc:V.aj.length≤64:=by have:=c.w.l2;simpa [RV.an]using this
 have htp:∀y∈V.aj,y.1.aI.length < 2^30:=fun y hy=>(c.w.y3.sh y hy).2
 refine Rs (nw t0 t1 @hex @lb @fF @aM @i0 @d0 @i1 @d1 c.o.i2.aL) ?_;obtain⟨a,ha⟩:∃a,a=aO x.ev 0:=⟨_,rfl⟩;obtain⟨z,hz⟩:∃z,z=aO x.ev 1:=⟨_,rfl⟩;rw[←ha,←hz];refine WL.inv T.mix (fun n ts h'=>∃ (k:Nat) (g':ah) (U:RV),k≤V.aj.length∧n=V.aj.length - k∧h' =B++g'∧bX B.length (B++g') b U∧U.s2=V.s2∧U.aj.length=V.aj.length∧
   { U.an with aj:=V.an.aj } =V.an∧(∀i (hi:i < U.aj.length) (hi':i < V.aj.length),(U.aj[i]).1=if i < k then ku a z (V.aj[i]).1 else(V.aj[i]).1)∧
   ts.length=50∧slot ts 0= .ptr b 0∧slot ts 4= .str a∧slot ts 5= .str z∧slot ts 19=V.s2∧slot ts 20= .i V.aj.length∧slot ts 21= .i k) V.aj.length
  ⟨0,g++ [ak.b x.row],V,Om,rfl,by rw[X4],by rw[←X4];exact r.app _,rfl,rfl,rfl,fun i hi hi'=>by rw[Yd Om],Sn,(Sq t0),(Sq t0),(Sq t0),(Sq t0),(Sq t0),hP⟩ ?_
 clear t0 t1 hlen i0 d0 i1 d1 hex lb;clear ts;rintro _ ts _ ⟨k,g',U,hk,rfl,rfl,rU,Rt,S2,hreg,hU,hlen,t0,t4,t5,t19,t20,t21⟩;by_cases hlt:k < V.aj.length
 ·have T8:k < U.aj.length:=Om
  have e3:=eT hlt;have e5:=wrapN (n:=k) Om;have oU:=rU.o.ok;have ix:aZ 3 V.s2 (.i (k:Int))=some (cV V.s2 3 k,.au):=by rw[←Rt];exact oU.i2.dI T8
  have ld:∀{k':ah},Ext (B++g') k'→aq (some 3) (cV V.s2 3 k) (fun b=>k'[b]?)=some (.agg (bj U.aj[k]),.au):=fun {k'} e=>by rw[←Rt];exact oU.i2.kR T8 e
  have RC:U.aj[k]∈U.aj:=Yi _;have hx1: (U.aj[k]).1= (V.aj[k]).1:=by rw[hU k T8 hlt,Yd Om]
  have hxl: (U.aj[k]).1.aI.length < 2^30:=by rw[hx1];exact htp _ (Yi _)
  have UU:=rU.o.e2 _ RC;have next:∀ (U2:RV),U2.aj.length=V.aj.length→(∀i (hi:i < U2.aj.length) (hi':i < U.aj.length),(U2.aj[i]).1=if i=k then ku a z (U.aj[i]).1 else(U.aj[i]).1)→
    ∀i (hi:i < U2.aj.length) (hi':i < V.aj.length),(U2.aj[i]).1=if i < k+1 then ku a z (V.aj[i]).1 else(V.aj[i]).1:=by
   intro U2 a3 a5 i hi hi';exact PY
  obtain⟨y,hy⟩:∃y,y=U.aj[k]:=⟨_,rfl⟩;rw[←hy]at ld UU hxl;have oy:=UU.aX.one;unfold bj at ld;refine Rs (nv t0 t4 t5 t19 t20 t21 e3 ix @ld @oy) ?_;refine WF.ce T.c242 (r242 T (UU.aX.ext Xx) Om a) fun g1=>?_
  by_cases h1:a∈y.1.aI
  case neg=>
   have q1:decide (a∈y.1.aI)=false:=X3 h1;rw[q1];refine Rs (A7 t0 t4 t5 t19 t20 t21 e5) ?_;have Up:B++g'++ [ak.b [AV.str y.1.name,.str y.1.line,y.2]]++g1=B++ (g'++ [ak.b [AV.str y.1.name,.str y.1.line,y.2]]++g1):=by simp only[X4]
   refine⟨_,Om,k+1,_,U,Om,rfl,Up,by rw[←Up];exact(rU.app _).app _,Rt,S2,hreg,next U S2 (fun i hi hi'=>?_),rfl⟩;split
   ·rename_i SU;subst SU;rw[←hy,ku,Yd (fun w=>h1 w.1)]
   ·rfl
  have q1:decide (a∈y.1.aI)=true:=X7 h1;rw[q1];refine Rs (A6 t0 t4 t5 t19 t20 t21) ?_;refine WF.ce T.c242 (r242 T (UU.aX.ext Xx) Om z) fun g2=>?_
  by_cases h2:z∈y.1.aI
  ·have q2:decide (z∈y.1.aI)=true:=X7 h2;rw[q2];refine Rs (A8 t0 t4 t5 t19 t20 t21 @Yw e5) ?_;have Up:B++g'++ [ak.b [AV.str y.1.name,.str y.1.line,y.2]]++g1++g2=B++ (g'++ [ak.b [AV.str y.1.name,.str y.1.line,y.2]]++g1++g2):=by simp only[X4]
   refine⟨_,Om,k+1,_,U,Om,rfl,Up,by rw[←Up];exact((rU.app _).app _).app _,Rt,S2,hreg,next U S2 (fun i hi hi'=>?_),rfl⟩;split
   ·rename_i SU;subst SU;rw[←hy,ku,Yd (fun w=>w.2 h2)]
   ·rfl
  have q2:decide (z∈y.1.aI)=false:=X3 h2;rw[q2];refine Rs (A7 t0 t4 t5 t19 t20 t21 @Yz) ?_;obtain⟨xb,hxb⟩:∃xb,xb= (B++g').length:=⟨_,rfl⟩;obtain⟨G,hG⟩:∃G,G=g'++ [ak.b [AV.str y.1.name,.str y.1.line,y.2]]++g1++g2:=⟨_,rfl⟩;have Up:B++g'++ [ak.b [AV.str y.1.name,.str y.1.line,y.2]]++g1++g2=B++G:=by rw[hG];simp only[X4]
  have hex:Ext (B++g') (B++G):=by rw[←Up];exact Xx
  have mx: (B++G)[xb]? =some (.b [AV.str y.1.name,.str y.1.line,y.2]):=by
   rw[←Up,hxb,X4 _ g1,X5 Si,Ye Om];simp
  have mb: (B++G)[b]? =some (.b U.row):=hex.some rU.m;have hfx2:Fr B.length (B++G) y.2 1 (y.1.aI.map ao):=by rw[←Up];exact((UU.app _).app _).app _
  have hs22:Fr B.length (B++G) V.s2 3 (U.aj.map bj):=by rw[←Up,←Rt];exact((rU.o.i2.app _).app _).app _
  rw[Up,←hxb];refine oT (fun h=>h[b]? =some (.b U.row)∧h[xb]? =some (.b [AV.str y.1.name,.str y.1.line,y.2])) ?_;have hS: (fun h:ah=>h[b]? =some (.b U.row)∧h[xb]? =some (.b [AV.str y.1.name,.str y.1.line,y.2])) (B++G):=⟨mb,mx⟩;refine c7 hS rfl rfl ?_;refine Rs t0 ?_;refine c7 hS rfl rfl ?_;refine Rs t0 ?_;refine c7 hS rfl rfl ?_;refine Rs t0 ?_;refine kN hS (v:=V.s2) (fun g hg=>?_) ?_
  ·simp only[aW,bd,bC,bD,reduceAdd,reduceMul,reduceLeDiff,reduceEqDiff,bE,hlen,Yo,Ys,t0,az hg.1,fF,Rt]
  refine Rs t0 ?_;refine c7 hS rfl rfl ?_;refine Rs t0 ?_;refine c7 hS rfl rfl ?_;refine Rs t0 ?_;refine kN hS (v:=y.2) (fun g hg=>?_) ?_
  ·simp only[aW,bd,bC,bD,reduceAdd,reduceMul,reduceLeDiff,reduceEqDiff,bE,hlen,Yo,Ys,t0,az hg.2]
  refine Rs t0 ?_;refine c7 hS rfl rfl ?_;refine Rs (A2 t0 t5) ?_;obtain⟨zr,hzr⟩:∃zr,zr=ao z:=⟨_,rfl⟩;have hS2: (fun h:ah=>h[b]? =some (.b U.row)∧h[xb]? =some (.b [AV.str y.1.name,.str y.1.line,y.2])) (B++G++ [ak.cells [.str z] true true]):=⟨(Ext.app _ (Ext.refl _)).some mb,(Ext.app _ (Ext.refl _)).some mx⟩;have hxlt:xb < (B++G).length:=by
   rw[←Up,hxb];simp only[X2,X8,X9];omega
  refine c7 hS rfl rfl ?_;refine Rs t0 ?_;refine c7 hS2 rfl rfl ?_;refine Rs t0 ?_;refine WR.fL (h0:=B) (cs:=y.1.aI.map ao) (ys:=[ao z]) (hfx2.app _) (Fr.push (N:=0) (YB _) [ao z] (by simp[ao])).aX De Si (by simp only[Ya,X8,X9];omega) (by rw[X4];exact⟨_,rfl⟩) ?_;intro g3 XH hff hkp;have hrow:y.1.aI.map ao++ [ao z]= (y.1.aI++ [z]).map ao:=by rw[Yc];rfl
  rw[hrow]at hff;rw[hrow];obtain⟨t',ht'⟩:∃t',t' =AV.slice (B++G++ [ak.cells [.str z] true true]).length 0 ((y.1.aI++ [z]).map ao).length 1:=⟨_,rfl⟩;rw[←ht']at hff;rw[←ht'];have o1:t'.one=true:=by rw[ht'];rfl
  have hGl: (B++g').length≤(B++G).length:=hex.len;have hty:sB t' =some (B++G++ [ak.cells [.str z] true true]).length:=by rw[ht'];rfl
  have hbl:=rU.lt;have TR:sB y.2≠some b:=fun e=>rU.ne (by rw[←e,RV.bl,hy];simp only[Yb,YA];exact .inl (.inl (.inr ⟨_,RC,rfl⟩)))
  have SO:∀i,sB y.2=some i→i < xb:=fun i hi=>by rw[hxb];exact(UU.bM hi).2
  have hk3:∀i,i < (B++G).length→sB y.2≠some i→(B++g3)[i]? = (B++G)[i]? :=fun i hi hne=>by
   rw[hkp i (by simp only[X2]at hi ⊢;omega) (fun b0 o n e he z=>hne (by rw[he,z];rfl)),X5 hi]
  have hS3: (fun h:ah=>h[b]? =some (.b U.row)∧h[xb]? =some (.b [AV.str y.1.name,.str y.1.line,y.2])) (B++g3):=
   ⟨(hk3 b Om TR).trans mb,(hk3 xb hxlt (fun e=>by have:=SO _ e;omega)).trans mx⟩
  have hsy:∀j,sB V.s2=some j→sB y.2≠some j:=fun j hj e=>by
   have VS:kY ([sB U.s0,sB U.s1]++sB U.s2:: ([sB U.s3,sB U.s4,sB U.s5]++ ((U.aj.map fun x=>sB x.2)++ (U.aD.map fun x=>sB x.2)++ (U.aH.map fun x=>sB x.2)))):=by
    have:=rU.o.di;simp only[RV.bl]at this
    simpa using this
   obtain⟨_,a2,_⟩:=Zl.1 VS;refine(Y8.1 a2).1 (sB y.2) ?_ j (by rw[Rt];exact hj) e;simp only[Yb,YA];exact .inr (.inl (.inl ⟨_,RC,by rw[←hy]⟩))
  have hs23:Fr B.length (B++g3) V.s2 3 (U.aj.map bj):=hs22.aB fun i hi=>hk3 i (hs22.bM hi).2 (hsy i hi)
  refine Rs t0 ?_;refine oS hS3 rfl ?_;refine Rs (A3 t0 ix @o1) ?_;have hkU:k < U.aj.length:=T8;refine WR.vm (h0:=B) (x':=(⟨y.1.name,y.1.line,y.1.aI++ [z]⟩,t')) (row:=bj) hs23 T8 De o1 (by rw[←hy];rfl) ?_;intro g4 hl4 hff4 hkp4;have hk4:∀i,i < (B++g').length→sB V.s2≠some i→sB y.2≠some i→(B++g4)[i]? = (B++g')[i]? :=fun i hi n1 n2=>by
   rw[hkp4 i (fun b0 o n e he z=>n1 (by rw[he,z];rfl)),hk3 i Om n2];exact hex.get hi
  have nb2:sB V.s2≠some b:=fun e=>rU.ne (by rw[←e,←Rt];simp[RV.bl])
  have ht4:Fr B.length (B++g4) t' 1 ((y.1.aI++ [z]).map ao):=hff.aB fun i hi=>by
   rw[hty]at hi;cases hi;refine hkp4 _ (fun b0 o n e he zz=>?_);have:=(rU.o.i2.bM (show sB U.s2=some b0 by rw[Rt,he];rfl)).2;have h3: (B++g').length≤(B++G++ [ak.cells [.str z] true true]).length:=by simp only[X2]at hGl ⊢;omega
   omega
  refine Rs (A7 t0 t4 t5 t19 t20 t21 e5) ?_;refine⟨_,Om,k+1,g4,{ U with aj:=U.aj.set k (⟨y.1.name,y.1.line,y.1.aI++ [z]⟩,t') },Om,rfl,rfl,rU.Qh T8 (by rw[Rt];exact hff4) ht4 (fun j hj=>?_) (fun j hj n1 n2=>hk4 j hj (by rw[←Rt];exact n1) (by rw[hy];exact n2)),Rt,(by simp only[YL];exact S2),hreg,next _ (by simp only[YL];exact S2) (fun i hi hi'=>?_),rfl⟩
  ·rw[hty]at hj;cases hj;simp only[X2]at hGl ⊢;omega
  ·by_cases SU:i=k
   ·subst SU;simp only[Z2,Ys];rw[←hy,ku,Yh ⟨h1,h2⟩]
   ·exact Jl
 ·have e3:decide ((k:Int)< V.aj.length)=false:=X3 Om;have e4:k=V.aj.length:=Om
  refine Rs (A8 t0 t4 t5 t19 t20 t21 e3 @eS) ?_;refine⟨g',U,rfl,rU,?_⟩;exact P8
end
def HV.now(V:HV):RV:=V.cM.getLastD RV.zero
def HV.jr(V:HV):V.now.an=V.bS.now:=by
 rw[HV.now,HV.bS,jj.now];show _= (V.cM.map RV.an).getLastD eX.zero;rw[ZP,ZP,List.getLast?_map];cases V.cM.getLast? <;>rfl
structure zt(h:ah)(b:Nat)(V:HV):Prop where
 hb:h[b]? =some (.b [V.se,V.sc,V.sr])
 ie:aK h V.se 5 (V.db.map EV.row)
 ic:aK h V.sc 5 (V.ez.map EV.row)
 ig:aK h V.sr 7 (V.cM.map RV.row)
 ae:∀x∈V.db,bg h x
 ac:∀x∈V.ez,bg h x
 ag:∀x∈V.cM,aC h x
theorem zt.ext{h k b V}(o:zt h b V)(e:Ext h k):zt k b V:=
 ⟨e.some o.hb,o.ie.ext e,o.ic.ext e,o.ig.ext e,fun x hx=>(o.ae x hx).ext e,fun x hx=>(o.ac x hx).ext e,fun x hx=>(o.ag x hx).ext e⟩
def cF.rd{N h b V}(o:cF N h b V):zt h b V:=
 ⟨o.hb,o.oe.aX,o.oc.aX,o.og.aX,fun x hx=>(o.ae x hx).sub (ji.fG _ _),fun x hx=>(o.ac x hx).sub (ji.fG _ _),fun x hx=>(o.ag x hx).sub (ji.fG _ _)⟩
theorem zt.now{h b V}(o:zt h b V):aC h V.now:=by
 rw[HV.now,ZP];cases hx:V.cM.getLast? with
 | none=>exact aC.zero
 | some R=>exact o.ag R (List.mem_of_getLast? hx)
def aC.st{h V}(o:aC h V){b a0 a1 a2 a3 a4 a5 a6 tl}:kV 7 0 (.agg V.row) b (.cells [a0,a1,a2,a3,a4,a5,a6] true tl)=some (aA,.set b (.cells V.row true tl)):=by
 refine(tQ (l:=V.row) rfl o.row (by show 0+7≤7;omega)).trans ?_;rfl
def bg.st{h x}(o:bg h x){b a0 a1 a2 a3 a4 tl}:kV 5 0 (.agg x.row) b (.cells [a0,a1,a2,a3,a4] true tl)=some (aA,.set b (.cells x.row true tl)):=by
 refine(tQ (l:=x.row) rfl o.row (by show 0+5≤5;omega)).trans ?_;rfl
def HS{e d}(hd:d≠.ee):e.kind=bu d↔jH e=d:=by
 rw[jH];constructor
 ·intro h;rw[h,lV];rfl
 ·intro h;cases hk:gJ e.kind with
  | none=>rw[hk]at h;exact absurd h.symm hd
  | some c=>rw[hk]at h;cases h;exact cg hk
structure kC(H:jj):Prop where
 rg:∀R∈H.cM,fk R
 ln:H.cM.length=H.ez.length
 le:H.ez.length≤H.db.length
 ev:∀e∈H.db,∃d,jG e d
 cn:∀e∈H.ez,∃d,jG e d
theorem kC.zero:kC jj.zero:=by
 refine⟨?_,rfl,Yg _,?_,?_⟩
 all_goals intro x hx;cases hx
theorem kC.now{H}(w:kC H):fk H.now:=by
 rw[jj.now,ZP];cases hx:H.cM.getLast? with
 | none=>exact fk.zero
 | some R=>exact w.rg R (List.mem_of_getLast? hx)
section
variable {P:Program} (T:fy P)
include T
def FC{B g b V x d ro ks ts Q dd l}(hd:d≠.ee)(r:bX B.length (B++g) b V)(c:Cx (B++g) V x d)(hc:bA V.an x.ev d=0)(gl:Gl (B++g))
  (K:∀v h',tI B b V x.ev d h'→WP P ro l ks (put ts dd v) h' Q):WF P ro false (pn d) [.ptr b 0,.agg x.row] dd l ks ts (B++g) Q:=by
 cases d with
 | ee=>exact absurd rfl hd
 | line=>exact WF.gen (a:=[]) (c:=[]) T.c149 (OD T r c) K
 | tape=>exact WF.gen (a:=[]) (c:=[]) T.c152 (OC T r c) K
 | gg=>exact WF.gen (a:=[]) (c:=[]) T.c156 (OB T r c) K
 | copy=>exact WF.gen (a:=[]) (c:=[]) T.c158 (OA T r c) K
 | accept=>exact WF.gen (a:=[]) (c:=[]) T.c160 (Oz T r c) K
 | source=>exact WF.gen (a:=[]) (c:=[]) T.c162 (Oy T r c) K
 | fP=>exact WF.gen (a:=[]) (c:=[]) T.c164 (Ox T r c hc gl) K
 | merge=>exact WF.gen (a:=[]) (c:=[]) T.c166 (Ov T r c) K
 | run=>exact WF.gen (a:=[]) (c:=[]) T.c168 (Ou T r c hc) K
 | fM=>exact WF.gen (a:=[]) (c:=[]) T.c170 (Ot T r c hc) K
 | fail=>exact WF.gen (a:=[]) (c:=[]) T.c172 (Oq T r c hc) K
 | gh=>exact WF.gen (a:=[]) (c:=[]) T.c174 (Oo T r c) K
 | rel=>exact WF.gen (a:=[]) (c:=[]) T.c176 (On T r c) K
variable {h:ah}
def r79{V b}(o:zt h b V)(hl:V.cM.length≤1000):ay P 79 [.ptr b 0] h (fun v _=>v= .agg V.now.row):=by
 refine .kM 20 T.mix T.c79 ?_;intro ts hlen t0;unfold fn79;have hb:=o.hb;have lb:=@fH _ _ _ hb;refine Rs (A3 t0 @lb o.ig.aL) ?_;rcases List.eq_nil_or_concat V.cM with hn| ⟨L,R,hn⟩
 ·have Re:V.cM.length=0:=by rw[hn];rfl
  have e1:decide ((0:Int)< (V.cM.length:Int))=false:=X3 Om;refine Rs (A2 t0 e1) ?_;rw[HV.now,hn];rfl
 ·have hlenR:V.cM.length=L.length+1:=by rw[hn];simp
  have e1:decide ((0:Int)< (V.cM.length:Int))=true:=X7 Om;have e2:IntKind.i64.wrap ((V.cM.length:Int) - 1)= (L.length:Int):=by rw[bo Om Om];omega
  have VZ:L.length < V.cM.length:=Om
  have ix:=o.ig.dI (kk:=.i64) VZ;have ld:∀{k':ah},Ext h k'→_:=fun {k'} e=>o.ig.kR VZ e
  have hR:V.cM[L.length]=R:=by simp only[hn];simp
  rw[hR]at ld;have st:=@aC.st h R (o.ag R (by rw[hn];simp));refine Rs (A8 t0 e1 e2 @lb ix @ld @st @aG) ?_;rw[HV.now,hn];simp
def r116{V b x d}(o:zt h b V)(w:kC V.bS)(hl:V.db.length≤1000)(ox:bg h x)(wx:jG x.ev d)(gl:Gl h):
  ay P 116 [.ptr b 0,.agg x.row] h (fun v _=>v= .i (j5 V.bS x.ev)):=by
 have hcl:V.ez.length≤V.db.length:=by have:=w.le;simpa [HV.bS]using this
 have Sd:V.cM.length=V.ez.length:=by have:=w.ln;simpa [HV.bS]using this
 refine .eD 106 T.mix T.c116 ?_;intro ts hlen t0 t1;unfold fn116;have hb:=o.hb;have lb:=@fH _ _ _ hb;have hex:=@bg.box _ _ ox;have ew:IntKind.i64.wrap ((V.db.length:Int)+1)= (V.db.length:Int)+1:=bo Om Om;by_cases h1:x.ev.num= (V.db.length:Int)+1
 case neg=>
  have q1:decide (x.ev.num≠(V.db.length:Int)+1)=true:=X7 h1;refine Rs (A8 t0 t1 @lb @hex @na o.ie.aL @ew q1) ?_;rw[j5,Yh (by simpa [HV.bS]using h1)]
 have q1:decide (x.ev.num≠(V.db.length:Int)+1)=false:=X3 (fun z=>z h1);have Q0:jH x.ev=d:=by rw[jH,wx.kd];rfl
 rw[j5,Yd (by simpa [HV.bS]using h1),Q0];by_cases h2:d= .ee
 ·have q2:decide (x.ev.kind= [117,110,100,111])=true:=X7 (by rw[cg wx.kd,h2];rfl);rw[Yh h2];refine Rs (nw t0 t1 @lb @hex @na @a8 o.ie.aL o.ic.aL @ew q1 q2) ?_;rcases List.eq_nil_or_concat V.ez with hn| ⟨L,c,hn⟩
  ·have Re:V.ez.length=0:=by rw[hn];rfl
   have e1:decide ((V.ez.length:Int)=0)=true:=X7 Om;refine Rs (A2 t0 e1) ?_;simp only[HV.bS,hn];rfl
  ·have hlenR:V.ez.length=L.length+1:=by rw[hn];simp
   have e1:decide ((V.ez.length:Int)=0)=false:=X3 Om;have e2:IntKind.i64.wrap ((V.ez.length:Int) - 1)= (L.length:Int):=by rw[bo Om Om];omega
   have VZ:L.length < V.ez.length:=Om
   have ix:=o.ic.dI (kk:=.i64) VZ;have hR:V.ez[L.length]=c:=by simp only[hn];simp
   have lf:∀{k':ah},Ext h k'→aq none (jv V.sc 5 L.length 1) (fun b=>k'[b]?)=some (.str c.ev.kind,.au):=fun {k'} e=>by
    refine o.ic.lG VZ ?_ e;rw[hR];rfl
   refine Rs (A6 t0 e1 e2 @lb ix @lf) ?_;refine WF.ce T.c85 (r85 T _ _) fun g1=>?_
   refine Rs t0 ?_;have e3:decide (c.ev.kind= [114,101,108,101,97,115,101])=decide (jH c.ev= .rel):=ZS.2 (HS (d:=.rel) De);have e4:V.bS.ez.getLast? =some c.ev:=by simp[HV.bS,hn]
   rw[e3,e4];by_cases h5:jH c.ev= .rel<;>simp[bV,h5]
 have q2:decide (x.ev.kind= [117,110,100,111])=false:=X3 fun z=>h2 (by
  have:=wx.kd;rw[z]at this;exact(Y6 ((lV .ee).symm.trans this)).symm)
 rw[Yd h2,←V.jr];have wn:fk V.now.an:=by rw[V.jr];exact w.now
 have on:=o.now;have ltk:0 < cB d:=by cases d<;>first| exact absurd rfl h2| decide
 have RL:0 < x.ev.b9.length:=by rw[wx.vl];exact ltk
 have qp:aZ 1 x.sv (.i 0)=some (cV x.sv 1 0,.au):=ox.v.qp RL;have ev0:bG x.ev 0=x.ev.b9[0]:=by rw[bG,YJ,X6 RL];rfl
 have ld0:∀{k':ah},Ext h k'→aq none (cV x.sv 1 0) (fun b=>k'[b]?)=some (.i (bG x.ev 0),.au):=fun {k'} e=>by
  rw[ev0];exact ox.v.ki RL rfl e
 refine Rs (nw t0 t1 @lb @hex @na @a8 o.ie.aL o.ic.aL @ew q1 q2) ?_;refine WF.ce T.c79 (r79 T (o.ext Xx) Om) fun g1=>?_
 have st:=@aC.st h V.now on;rw[gK];by_cases h3:bG x.ev 0 < V.now.an.tick
 ·have q3:decide (bG x.ev 0 < V.now.tick)=true:=X7 h3;refine Rs (A8 t0 t1 @st @sS @aY @qp @ld0 q3) ?_;rw[Yh h3]
 have q3:decide (bG x.ev 0 < V.now.tick)=false:=X3 h3;rw[Yd h3];refine Rs (A8 t0 t1 @st @sS @aY @qp @ld0 q3) ?_;refine WF.res T.c90 (r90 T) ?_;rintro _ g2 ⟨vf,rfl,hk⟩;obtain⟨H,hH⟩:∃H,H=h++ [ak.b x.row]++g1++ [ak.b V.now.row]:=⟨_,rfl⟩;obtain⟨eb,heb⟩:∃eb,eb=h.length:=⟨_,rfl⟩;obtain⟨rb,VB⟩:∃rb,rb= (h++ [ak.b x.row]++g1).length:=⟨_,rfl⟩;have mr: (H++g2)[rb]? =some (.b V.now.row):=by rw[hH,VB];exact(Ext.app _ (Ext.refl _)).some ba
 have me: (H++g2)[eb]? =some (.b x.row):=by rw[hH,heb];exact(show Ext (h++ [ak.b x.row]) _ from Xx).some ba
 rw[←hH]at hk ⊢;rw[←heb,←VB];have lk:∀{z:AV},gW .s z false (.map H.length) (.str x.ev.kind) (fun b=>(H++g2)[b]?)=lF z false ((gJ x.ev.kind).map vf):=hk.look;rw[wx.kd]at lk;have Rw:∀{z:AV},_=some (vf d,iA.au):=@lk;obtain⟨rs,a,hv,hr,ha,hab⟩:=(hk.k d).ex;rw[hv]at Rw;have c1:=lX d;have c2:=lI d;have c3:=hr.one;have le:=@fH _ _ _ me;have lr:=@fH _ _ _ mr;refine Rs (pJ t0 t1 @le @a8 @bT @Rw @c1 @c2 @c3 @ha hr.aL @iw) ?_;obtain⟨L,hL⟩:∃L,L=bL d:=⟨_,rfl⟩;have hnl:x.ev.names.length=L.length:=by rw[hL];exact wx.nl
 have VZ:L.length≤3:=by rw[hL];cases d<;>decide
 have Wz:∀r∈L,r.1 < 6:=by rw[hL];cases d<;>decide
 rw[←hL]at hr ⊢;obtain⟨kb,hkb⟩:∃kb,kb= (H++g2).length:=⟨_,rfl⟩;have hex:Ext h (H++g2):=by rw[hH];exact Xx
 have T2:Ext (H++g2) (H++g2++ [ak.b [rs,.i (cB d:Int),jS d,pn d,a]]):=Xx;have mk: (H++g2++ [ak.b [rs,.i (cB d:Int),jS d,pn d,a]])[kb]? =some (.b [rs,.i (cB d:Int),jS d,pn d,a]):=by rw[hkb];exact ba
 obtain⟨H2,U4⟩:∃H2,H2=H++g2++ [ak.b [rs,.i (cB d:Int),jS d,pn d,a]]:=⟨_,rfl⟩;rw[←U4]at mk T2;have hx3:Ext h H2:=hex.trans T2;have lk:=@fH _ _ _ mk;rw[←U4,←hkb];have TB:∀ (i:Nat) (hi:i < L.length),aZ 1 x.sn (.i (i:Int))=some (cV x.sn 1 i,.au):=fun i hi=>ox.n.dI Om
 have hld:∀ (i:Nat) (hi:i < L.length) (k':ah),Ext h k'→aq none (cV x.sn 1 i) (fun b=>k'[b]?)=some (.str (aO x.ev i),.au):=fun i hi k' e=>by
  exact PQ
 refine WL.inv T.mix (fun m ts h'=>∃k:Nat,k≤L.length∧m=L.length - k∧Ext H2 h'∧mK V.now.an x.ev L 0=mK V.now.an x.ev (L.drop k) k∧ts.length=106∧slot ts 3= .ptr eb 0∧slot ts 6= .ptr rb 0∧slot ts 7= .ptr kb 0∧slot ts 56=rs∧slot ts 57= .i L.length∧slot ts 58= .i k) L.length
  ⟨0,Om,rfl,.refl _,rfl,Sn,Sw,Sw,Sw,Sw,Sw,hP⟩ ?_
 clear t0 t1 hlen lb hb hex le lr;clear ts;rintro _ ts h' ⟨k,hk,rfl,S9,hu,hlen,t3,t6,t7,t56,t57,t58⟩;have le:∀{k' n a},Ext h' k'→aq n (.ptr eb a) (fun z=>k'[z]?)=dE n a (.b x.row):=fun {_ _ _} e=>az (((T2.trans S9).trans e).some me)
 have lr:∀{k' n a},Ext h' k'→aq n (.ptr rb a) (fun z=>k'[z]?)=dE n a (.b V.now.row):=fun {_ _ _} e=>az (((T2.trans S9).trans e).some mr)
 by_cases hlt:k < L.length
 ·have e3:=eT hlt;have e5:=wrapN (n:=k) Om;have ix:=hr.dI (kk:=.i64) hlt;have ld:∀{k'},Ext h' k'→aq (some 2) (cV rs 2 k) (fun b=>k'[b]?)=some (.agg (fO L[k]),.au):=fun {k'} e=>hr.kR hlt ((T2.trans S9).trans e)
  have iy:=TB k hlt;have ly:∀{k'},Ext h' k'→aq none (cV x.sn 1 k) (fun b=>k'[b]?)=some (.str (aO x.ev k),.au):=fun {k'} e=>hld k hlt k' ((hx3.trans S9).trans e)
  have hd:L.drop k=L[k]::L.drop (k+1):=Si
  obtain⟨r,UE⟩:∃r,r=L[k]:=⟨_,rfl⟩;have Vi:r.1 < 6:=by rw[UE];exact Wz _ (Yi _)
  rw[hd,←UE,mK]at hu;rw[←UE,fO]at ld;cases R7:r.2 with
  | false=>
   rw[R7]at ld hu;refine Rs (nv t3 t6 t7 t56 t57 t58 e3 ix @ld e5) ?_;exact Jw
  | true=>
   rw[R7]at ld hu;refine Rs (Db t3 t6 t7 t56 t57 t58 e3 ix @ld @iy @ly @le @lr @aG @aM) ?_;refine WF.ce T.c86 (r86 T ((on.ext (hx3.trans S9)).ext Xx) wn.len Vi _) fun g3=>?_
   cases hh:dG V.now.an r.1 (aO x.ev k)with
   | true=>
    rw[hh]at hu;refine Rs (A8 t3 t6 t7 t56 t57 t58 @Yw e5) ?_;exact Jw
   | false=>
    rw[hh]at hu;have hu1:mK V.now.an x.ev L 0=true:=by rw[hu];rfl
    refine Rs (A7 t3 t6 t7 t56 t57 t58 @Yz) ?_;refine⟨(hx3.trans S9).trans Xx,?_⟩;have e6:kP d V.now.an x.ev=10:=by rw[kP,←hL,Yh hu1]
    rw[e6,Yh De]
 ·have e3:=fQ hlt;have e4:k=L.length:=Om
  have TT:mK V.now.an x.ev L 0=false:=by rw[hu,e4,YZ];rfl
  have lk2:∀{k' n a'},Ext h' k'→aq n (.ptr kb a') (fun z=>k'[z]?)=dE n a' (.b [rs,.i (cB d:Int),jS d,pn d,a]):=fun {_ _ _} e=>lk (S9.trans e)
  refine Rs (A9 t3 t6 t7 t56 t57 t58 e3 @lk2 hr.aL) ?_;have hrH:aK h' rs 2 (L.map fO):=hr.ext (T2.trans S9);refine WL.inv T.mix (fun m ts V3=>∃k:Nat,k≤L.length∧m=L.length - k∧Ext h' V3∧qH V.now.an x.ev L 0=qH V.now.an x.ev (L.drop k) k∧ts.length=106∧slot ts 3= .ptr eb 0∧slot ts 6= .ptr rb 0∧slot ts 7= .ptr kb 0∧slot ts 79=rs∧slot ts 80= .i L.length∧slot ts 81= .i k) L.length
   ⟨0,Om,rfl,.refl _,rfl,Sn,(Sq t3),(Sq t6),(Sq t7),Sw,Sw,hP⟩ ?_
  clear t3 t6 t7 t56 t57 t58 hlen le lr lk2 e3 e4 hu lk;clear hlt hk ts k;rintro _ ts V3 ⟨k,hk,rfl,Vx,hu,hlen,t3,t6,t7,t79,t80,t81⟩;have le:∀{k' n a},Ext V3 k'→aq n (.ptr eb a) (fun z=>k'[z]?)=dE n a (.b x.row):=fun {_ _ _} e=>az ((((T2.trans S9).trans Vx).trans e).some me)
  have lr:∀{k' n a},Ext V3 k'→aq n (.ptr rb a) (fun z=>k'[z]?)=dE n a (.b V.now.row):=fun {_ _ _} e=>az ((((T2.trans S9).trans Vx).trans e).some mr)
  have lk2:∀{k' n a'},Ext V3 k'→aq n (.ptr kb a') (fun z=>k'[z]?)=dE n a' (.b [rs,.i (cB d:Int),jS d,pn d,a]):=fun {_ _ _} e=>az (((S9.trans Vx).trans e).some mk)
  by_cases hlt:k < L.length
  ·have e3:=eT hlt;have e5:=wrapN (n:=k) Om;have ix:=hr.dI (kk:=.i64) hlt;have ld:∀{k'},Ext V3 k'→aq (some 2) (cV rs 2 k) (fun b=>k'[b]?)=some (.agg (fO L[k]),.au):=fun {k'} e=>hrH.kR hlt (Vx.trans e)
   have iy:=TB k hlt;have ly:∀{k'},Ext V3 k'→aq none (cV x.sn 1 k) (fun b=>k'[b]?)=some (.str (aO x.ev k),.au):=fun {k'} e=>hld k hlt k' (((hx3.trans S9).trans Vx).trans e)
   have hd:L.drop k=L[k]::L.drop (k+1):=Si
   obtain⟨r,UE⟩:∃r,r=L[k]:=⟨_,rfl⟩;have Vi:r.1 < 6:=by rw[UE];exact Wz _ (Yi _)
   rw[hd,←UE,qH]at hu;rw[←UE,fO]at ld;cases R7:r.2 with
   | true=>
    rw[R7]at ld hu;refine Rs (nw t3 t6 t7 t79 t80 t81 e3 ix @ld e5 @Yw) ?_;exact Jx
   | false=>
    rw[R7]at ld hu;refine Rs (FN t3 t6 t7 t79 t80 t81 e3 ix @ld @iy @ly @le @lr @aG @aM @Yz) ?_;refine WF.ce T.c86 (r86 T ((on.ext ((hx3.trans S9).trans Vx)).ext Xx) wn.len Vi _) fun g3=>?_
    cases hh:dG V.now.an r.1 (aO x.ev k)with
    | false=>
     rw[hh]at hu;refine Rs (A7 t3 t6 t7 t79 t80 t81 e5) ?_;exact Jx
    | true=>
     rw[hh]at hu;have hu1:qH V.now.an x.ev L 0=true:=by rw[hu];rfl
     refine Rs (A6 t3 t6 t7 t79 t80 t81) ?_;refine⟨((hx3.trans S9).trans Vx).trans Xx,?_⟩;have e6:kP d V.now.an x.ev=9:=by rw[kP,←hL,Yd (by rw[TT];decide),Yh hu1]
     rw[e6,Yh De]
  ·have e3:=fQ hlt;have e4:k=L.length:=Om
   have Xr:qH V.now.an x.ev L 0=false:=by rw[hu,e4,YZ];rfl
   have e6:kP d V.now.an x.ev=0:=by rw[kP,←hL,Yd (by rw[TT];decide),Yd (by rw[Xr];decide)]
   rw[e6,Yd De];have Ve:=(hx3.trans S9).trans Vx;refine Rs (pJ t3 t6 t7 t79 t80 t81 e3 @lk2 @lr @le @aG @cj) ?_;refine WF.val (O8 T h2 ⟨on.ext Ve,wn,ox.ext Ve,wx,yS e6⟩ (gl.ext Ve)) ?_;rintro _ g4 rfl;refine Rs t3 ?_;exact⟨Ve.trans Xx,trivial⟩
end
def Je(B h0:ah)(b:Nat)(V:HV)(e:ed)(v:AV)(k:ah):Prop:=∃g' V',k=B++g'∧v= .i (fD V.bS e)∧cF B.length (B++g') b V'∧V'.bS= (if fD V.bS e=0 then lM V.bS e else V.bS)∧(∀i,i < h0.length→some i∉V.ex b→(B++g')[i]? =h0[i]?)∧∀j,some j∈V'.ex b→some j∈V.ex b∨h0.length≤j
def Je.no{B g g1 b V e}(o:cF B.length (B++g) b V)(h:fD V.bS e≠0){n}(hn:n=fD V.bS e):Je B (B++g) b V e (.i n) (B++g++g1):=
 ⟨g++g1,V,by rw[X4],by rw[hn],by rw[←X4];exact o.app _,by rw[Yd h],fun i hi _=>by rw[←X4,X5 hi],fun j hj=>.inl hj⟩
def bg.EK{h x}(o:bg h x){M}:yh 5 1 (eF [.i 0,.str [],.af,.af,.str []] [(0,5,.agg x.row)]) M=some (.slice M 0 1 5,.push (.cells x.row true true)):=yg (c:=x.row) o.row rfl De
def aC.EK{h V}(o:aC h V){M}:yh 7 1 (eF [.i 0,.af,.af,.af,.af,.af,.af] [(0,7,.agg V.row)]) M=some (.slice M 0 1 7,.push (.cells V.row true true)):=yg (c:=V.row) o.row rfl De
theorem bg.fG{h x}(o:bg h x){ex}(h1:∀j,sB x.sn=some j→some j∉ex)(h2:∀j,sB x.sv=some j→some j∉ex):bg (Go.Abs.fG ex h) x:=⟨o.n.fG h1,o.v.fG h2⟩
theorem aC.fG{h V}(o:aC h V){ex}(hx:∀j,some j∈V.bl→some j∉ex):aC (Go.Abs.fG ex h) V:=by
 have m6:∀x∈[sB V.s0,sB V.s1,sB V.s2,sB V.s3,sB V.s4,sB V.s5],x∈V.bl:=fun x hx=>by simp only[RV.bl,Yb];exact .inl (.inl (.inl hx))
 refine⟨o.i0.fG fun b hb=>hx b (hb▸m6 _ Si),o.i1.fG fun b hb=>hx b (hb▸m6 _ Si),o.i2.fG fun b hb=>hx b (hb▸m6 _ Si),o.i3.fG fun b hb=>hx b (hb▸m6 _ Si),o.i4.fG fun b hb=>hx b (hb▸m6 _ Si),o.i5.fG fun b hb=>hx b (hb▸m6 _ Si),
  fun x hx1=>(o.e2 x hx1).fG fun b hb=>hx b ?_,fun x hx1=>(o.e3 x hx1).fG fun b hb=>hx b ?_,fun x hx1=>(o.e4 x hx1).fG fun b hb=>hx b ?_⟩
 ·simp only[RV.bl,Yb,YA];exact .inl (.inl (.inr ⟨x,hx1,hb⟩))
 ·simp only[RV.bl,Yb,YA];exact .inl (.inr ⟨x,hx1,hb⟩)
 ·simp only[RV.bl,Yb,YA];exact .inr ⟨x,hx1,hb⟩
def rE{a b c d}:kY [a,b,c,d]↔(∀i,a=some i→b≠some i∧c≠some i∧d≠some i)∧(∀i,b=some i→c≠some i∧d≠some i)∧∀i,c=some i→d≠some i:=by
 simp only[kY,Y8,YH,Y7,ZI,forall_eq_or_imp,forall_eq,List.Pairwise.nil,and_true,false_implies,implies_true];constructor
 ·rintro⟨⟨h1,h2,h3⟩,⟨h4,h5⟩,h6⟩;exact⟨fun i hi=>⟨h1 i hi,h2 i hi,h3 i hi⟩,fun i hi=>⟨h4 i hi,h5 i hi⟩,h6⟩
 ·rintro⟨h1,h2,h3⟩;exact⟨⟨fun i hi=>(h1 i hi).1,fun i hi=>(h1 i hi).2.1,fun i hi=>(h1 i hi).2.2⟩,⟨fun i hi=>(h2 i hi).1,fun i hi=>(h2 i hi).2⟩,h3⟩
def DZ{B h:ah}(hl:B.length≤h.length)(hk:∀i,i < B.length→h[i]? =B[i]?):∃g,h=B++g:=by
 refine⟨h.drop B.length,aar fun i=>?_⟩;by_cases hi:i < B.length
 ·rw[hk i hi,X5 hi]
 ·exact z139
def uZ{B h:ah}{b:Nat}{X:ak}(hN:B.length≤b)(hh:∃g,h=B++g):∃g,h.set b X=B++g:=by
 obtain⟨g,rfl⟩:=hh;exact⟨_,YX _ _ hN⟩
def bX.tk{B g b V}(r:bX B.length (B++g) b V)(t:Int):∃g',(B++g).set b (.b (V.row.set 0 (.i t)))=B++g'∧bX B.length (B++g') b { V with tick:=t }:=by
 obtain⟨h1,h2,h3⟩:=ni (.b (V.row.set 0 (.i t))) r.hN r.m;refine⟨_,h1,?_,r.hN,h2,r.ne⟩;have:=r.o.au (k:=B++g.set (b - B.length) (.b (V.row.set 0 (.i t)))) fun i hi=>h3 i fun e=>r.ne (e▸hi)
 exact⟨this.i0,this.i1,this.i2,this.i3,this.i4,this.i5,this.e2,this.e3,this.e4,this.di⟩
section
variable {N b:Nat} {h h':ah} {V:HV}
def cF.lt(o:cF N h b V):b < h.length:=(X1.1 o.hb).1
def cF.Cr(o:cF N h b V){j}(hj:some j∈V.ex b):j < h.length:=by
 simp only[HV.ex,YH,Y7,ZI,Yy]at hj;rcases hj with hj| hj| hj| hj
 ·rw[hj];exact o.lt
 ·exact(o.oe.bM hj.symm).2
 ·exact(o.oc.bM hj.symm).2
 ·exact(o.og.bM hj.symm).2
def cF.Qw(o:cF N h b V){s' x'}(hk:∀i,i < h.length→sB V.se≠some i→i≠b→h'[i]? =h[i]?)(hs:Ow N h' s' 5 ((V.db++ [x']).map EV.row))(hb:h'[b]? =some (.b [s',V.sc,V.sr]))
  (hn:∀i,sB s' =some i→h.length≤i) (hx:bg (fG (V.ex b) h) x'):cF N h' b { V with db:=V.db++ [x'],se:=s' }:=by
 obtain⟨d1,d2,d3⟩:=rE.1 o.di;have hbl:=o.lt;have hsub:ji (fG (V.ex b) h) (fG ({ V with db:=V.db++ [x'],se:=s' }.ex b) h'):=by
  refine nE (fun i hi hne=>hk i hi (fun e=>hne (by simp[HV.ex,e])) (fun e=>hne (by simp[HV.ex,e]))) fun i hi hm=>?_
  simp only[HV.ex,YH,Y7,ZI,Yy]at hm ⊢;rcases hm with hm| hm| hm| hm
  ·exact .inl hm
  ·have:=hn i hm.symm;omega
  ·exact .inr (.inr (.inl hm))
  ·exact .inr (.inr (.inr hm))
 refine⟨o.hN,hb,hs,o.oc.aB fun i hi=>?_,o.og.aB fun i hi=>?_,rE.2 ⟨fun i hi=>?_,fun i hi=>?_,d3⟩,fun x hx1=>?_,fun x hx1=>(o.ac x hx1).sub hsub,fun x hx1=>(o.ag x hx1).sub hsub,o.lo⟩
 ·exact hk i (o.oc.bM hi).2 (fun e=>(d2 i e).1 hi) (fun e=>(d1 b rfl).2.1 (by rw[←e];exact hi))
 ·exact hk i (o.og.bM hi).2 (fun e=>(d2 i e).2 hi) (fun e=>(d1 b rfl).2.2 (by rw[←e];exact hi))
 ·cases hi;exact⟨fun e=>by have:=hn b e;omega,(d1 b rfl).2⟩
 ·have h1:=hn i hi;exact⟨fun e=>by have:=(o.oc.bM e).2;omega,fun e=>by have:=(o.og.bM e).2;omega⟩
 ·rcases Yb.1 hx1 with hx1| hx1
  ·exact(o.ae x hx1).sub hsub
  ·rw[Yt]at hx1;rw[hx1];exact hx.sub hsub
def cF.Qv(o:cF N h b V){Rp RK n m}(hk:∀i,i < h.length→i≠b→h'[i]? =h[i]?)(hc:Ow N h' Rp 5 ((V.ez.take n).map EV.row))(hr:Ow N h' RK 7 ((V.cM.take m).map RV.row))(hb:h'[b]? =some (.b [V.se,Rp,RK]))
  (nc:sB Rp=sB V.sc) (nr:sB RK=sB V.sr):cF N h' b { V with ez:=V.ez.take n,cM:=V.cM.take m,sc:=Rp,sr:=RK }:=by
 obtain⟨d1,d2,d3⟩:=rE.1 o.di;have he:{ V with ez:=V.ez.take n,cM:=V.cM.take m,sc:=Rp,sr:=RK }.ex b=V.ex b:=by simp only[HV.ex,nc,nr]
 have hsub:ji (fG (V.ex b) h) (fG ({ V with ez:=V.ez.take n,cM:=V.cM.take m,sc:=Rp,sr:=RK }.ex b) h'):=by
  rw[he];exact nE (fun i hi hne=>hk i hi (fun e=>hne (by simp[HV.ex,e]))) fun i hi hm=>hm
 refine⟨o.hN,hb,o.oe.aB fun i hi=>hk i (o.oe.bM hi).2 (fun e=>(d1 b rfl).1 (by rw[←e];exact hi)),hc,hr,by rw[he];exact o.di,fun x hx1=>(o.ae x hx1).sub hsub,fun x hx1=>(o.ac x (Zd hx1)).sub hsub,fun x hx1=>(o.ag x (Zd hx1)).sub hsub,fun x hx1=>o.lo x (Zd hx1)⟩
def cF.Qx(o:cF N h b V){Rp RK x' R'}(hk:∀i,i < h.length→sB V.sc≠some i→sB V.sr≠some i→i≠b→h'[i]? =h[i]?)(hc:Ow N h' Rp 5 ((V.ez++ [x']).map EV.row))(hr:Ow N h' RK 7 ((V.cM++ [R']).map RV.row))(hb:h'[b]? =some (.b [V.se,Rp,RK]))
  (nc:∀i,sB Rp=some i→h.length≤i) (nr:∀i,sB RK=some i→h.length≤i) (ncr:∀i,sB Rp=some i→sB RK≠some i) (hx:bg (fG (V.ex b) h) x') (hR:aC (fG (V.ex b) h) R') (hlo:∀j,some j∈R'.bl→N≤j):cF N h' b { V with ez:=V.ez++ [x'],cM:=V.cM++ [R'],sc:=Rp,sr:=RK }:=by
 obtain⟨d1,d2,d3⟩:=rE.1 o.di;have hbl:=o.lt;have hsub:ji (fG (V.ex b) h) (fG ({ V with ez:=V.ez++ [x'],cM:=V.cM++ [R'],sc:=Rp,sr:=RK }.ex b) h'):=by
  refine nE (fun i hi hne=>hk i hi (fun e=>hne (by simp[HV.ex,e])) (fun e=>hne (by simp[HV.ex,e])) (fun e=>hne (by simp[HV.ex,e]))) fun i hi hm=>?_
  simp only[HV.ex,YH,Y7,ZI,Yy]at hm ⊢;rcases hm with hm| hm| hm| hm
  ·exact .inl hm
  ·exact .inr (.inl hm)
  ·have:=nc i hm.symm;omega
  ·have:=nr i hm.symm;omega
 refine⟨o.hN,hb,o.oe.aB fun i hi=>?_,hc,hr,rE.2 ⟨fun i hi=>?_,fun i hi=>?_,ncr⟩,fun x hx1=>(o.ae x hx1).sub hsub,fun x hx1=>?_,fun x hx1=>?_,fun x hx1=>?_⟩
 ·exact hk i (o.oe.bM hi).2 (fun e=>(d2 i hi).1 e) (fun e=>(d2 i hi).2 e) (fun e=>(d1 b rfl).1 (by rw[←e];exact hi))
 ·cases hi;exact⟨(d1 b rfl).1,fun e=>by have:=nc b e;omega,fun e=>by have:=nr b e;omega⟩
 ·have h1:=(o.oe.bM hi).2;exact⟨fun e=>by have:=nc i e;omega,fun e=>by have:=nr i e;omega⟩
 ·rcases Yb.1 hx1 with hx1| hx1
  ·exact(o.ac x hx1).sub hsub
  ·rw[Yt]at hx1;rw[hx1];exact hx.sub hsub
 ·rcases Yb.1 hx1 with hx1| hx1
  ·exact(o.ag x hx1).sub hsub
  ·rw[Yt]at hx1;rw[hx1];exact hR.sub hsub
 ·rcases Yb.1 hx1 with hx1| hx1
  ·exact o.lo x hx1
  ·rw[Yt]at hx1;rw[hx1];exact hlo
end
section
variable {P:Program} (T:fy P)
include T
def Lz{B g:ah}{V:HV}{b:Nat}{x:EV}(o:cF B.length (B++g) b V)(w:kC V.bS)(hl:V.db.length < 1000)(ox:bg (B++g) x)(hxl:x.ev.names.length≤2^40∧x.ev.b9.length≤2^40)(gl:Gl B):
  da P 112 [.ptr b 0,.agg x.row] (B++g) (fun v k=>Je B (B++g) b V x.ev v k):=by
 have hcl:V.ez.length≤V.db.length:=by have:=w.le;simpa [HV.bS]using this
 have Sd:V.cM.length=V.ez.length:=by have:=w.ln;simpa [HV.bS]using this
 refine .eD 94 T.mix T.c112 ?_;intro ts hlen t0 t1;unfold fn112;have QU:=@bg.box _ _ ox;have gl':Gl (B++g):=gl.ext ⟨g,rfl⟩;refine Rs (A4 t0 t1 @QU @cj) ?_;refine WF.ce T.c67 (r67 T (ox.ext Xx) hxl) fun g1=>?_
 by_cases h1:gL x.ev=0
 case neg=>
  have q1:decide (gL x.ev≠0)=true:=X7 h1;refine Rs (A3 t0 t1 q1) ?_;have e:fD V.bS x.ev=gL x.ev:=by rw[fD,Yh h1]
  rw[X4 (B++g)];exact Je.no o (by rw[e];exact h1) e.symm
 have q1:decide (gL x.ev≠0)=false:=X3 (fun z=>z h1);obtain⟨d,wx⟩:=uk h1;have eb:fD V.bS x.ev=j5 V.bS x.ev:=by rw[fD,Yd (fun z=>z h1)]
 refine Rs (A4 t0 t1 q1 @cj) ?_;refine WF.ce T.c116 (r116 T (d:=d) (o.rd.ext Xx) w Om (ox.ext Xx) wx (gl'.ext Xx)) fun g2=>?_
 by_cases h2:j5 V.bS x.ev=0
 case neg=>
  have q2:decide (j5 V.bS x.ev≠0)=true:=X7 h2;refine Rs (A3 t0 t1 q2) ?_;rw[X4 (B++g),X4 (B++g)];exact Je.no o (by rw[eb];exact h2) eb.symm
 have q2:decide (j5 V.bS x.ev≠0)=false:=X3 (fun z=>z h2);rw[←eb]at h2;refine Rs (A4 t0 t1 q2 @cj) ?_;refine WF.res T.c91 (r91 T x (ox.ext Xx) hxl) ?_;rintro _ g3 ⟨x',Q2,rfl,fn,fv⟩;have Wa:bg _ x':=⟨by rw[Q2];exact fn.aX,by rw[Q2];exact fv.aX⟩;have st:∀{b':Nat},kV 5 0 (.agg x'.row) b' (.b x.row)=some (aA,.set b' (.b x'.row)):=fun {_}=>Wa.st
 refine Rs (A3 t0 t1 @st) ?_;obtain⟨H,hH⟩:∃H,H=B++g++ [ak.b x'.row]++g1++g2++g3:=⟨_,rfl⟩;have hHg:∃gH,H=B++gH:=⟨_,by rw[hH];simp only[X4];rfl⟩;obtain⟨gH,hHB⟩:=hHg;have hex:Ext (B++g) H:=by rw[hH];exact Xx
 have oH:cF B.length H b V:=by obtain⟨z,hz⟩:=hex;rw[hz];exact o.app z
 have au:∀j,(B++g).length+1≤j→H[j]? = (B++g++ [ak.b x.row]++g1++g2++g3)[j]? :=fun j hj=>by
  rw[hH];simp only[X4];have e:∀C:ak,(B++ (g++ ([C]++ (g1++ (g2++g3)))))[j]? = (g1++ (g2++g3))[j - B.length - g.length - 1]? :=fun C=>by
   simp only[X2]at hj;rw[Ye Om,Ye Om,Ye (by simp only[Yv];omega)];rfl
  rw[e,e]
 obtain⟨N,hN⟩:∃N,N= (B++g).length:=⟨_,rfl⟩;have fnl:=fun j (hj:sB x'.sn=some j)=>fn.bM hj
 have fvl:=fun j (hj:sB x'.sv=some j)=>fv.bM hj
 have Ur:H.length= (B++g++ [ak.b x.row]++g1++g2++g3).length:=by rw[hH];simp only[X2,X8,X9]
 have lnn:∀j,sB x'.sn=some j∨sB x'.sv=some j→(B++g).length+1≤j∧j < H.length:=fun j hj=>by
  rw[Ur];rcases hj with hj| hj
  ·have:=fnl j hj;exact P3
  ·have:=fvl j hj;exact P3
 have oxH:bg H x':=⟨by rw[Q2];exact(fn.aB fun j hj=>au j (lnn j (.inl hj)).1).aX,by rw[Q2];exact(fv.aB fun j hj=>au j (lnn j (.inr hj)).1).aX⟩;have eH:H[N]? =some (.b x'.row):=by rw[hH,hN];exact(show Ext (B++g++ [ak.b x'.row]) _ from Xx).some ba
 rw[←hH,←hN];have hb:=oH.hb;have lb:=@fH _ _ _ hb;have le:=@fH _ _ _ eH;have bs:=@bg.EK _ _ oxH;have dH:=rE.1 oH.di;refine Rs (A6 t0 t1 @lb @le @cj @bs) ?_;refine WR.IB (N:=B.length) (cs:=V.db.map EV.row) (ys:=[x'.row]) (oH.app _).oe (Fr.push (N:=0) (YB _) [x'.row] (by intro y hy;rw[Yt]at hy;rw[hy];rfl)).aX (by rw[hHB];simp only[X2];omega) De Si (by simp only[Ya,X8,X9];omega) ?_;intro h1 VK SJ hk1;have hrow:V.db.map EV.row++ [x'.row]= (V.db++ [x']).map EV.row:=by rw[Yc];rfl
 rw[hrow]at SJ;rw[hrow];obtain⟨RI,Xy⟩:∃RI,RI=AV.slice (H++ [ak.cells x'.row true true]).length 0 ((V.db++ [x']).map EV.row).length 5:=⟨_,rfl⟩;rw[←Xy]at SJ ⊢;have VD:∀i,sB RI=some i→H.length+1=i:=fun i hi=>by rw[Xy]at hi;cases hi;simp
 have ose:RI.one=true:=by rw[Xy];rfl
 have hk1':∀i,i < H.length→sB V.se≠some i→h1[i]? =H[i]? :=fun i hi hne=>by rw[hk1 i (by simp;omega) hne,X5 hi]
 have hbl:=oH.lt;have Rb:sB V.se≠some b:=(dH.1 b rfl).1;have Rq:h1[b]? =some (.b [V.se,V.sc,V.sr]):=(hk1' b hbl Rb).trans hb;have sb1:aT 1 (.ptr b 0) RI (fun z=>h1[z]?)=some (aA,.set b (.b [RI,V.sc,V.sr])):=by
  rw[aN Rq];exact bW ose Si
 refine Rs (A2 t0 @sb1) ?_;have hb1l:b < h1.length:=(X1.1 Rq).1;obtain⟨H1,Vs⟩:∃H1,H1=h1.set b (.b [RI,V.sc,V.sr]):=⟨_,rfl⟩;rw[←Vs];have k1:∀i,i < H.length→sB V.se≠some i→i≠b→H1[i]? =H[i]? :=fun i hi n1 n2=>by rw[Vs,Yj (Zv n2)];exact hk1' i hi n1
 have m1:H1[b]? =some (.b [RI,V.sc,V.sr]):=by rw[Vs,Yl hb1l]
 have Wd:∀i,i < (B++g).length→some i∉V.ex b→H1[i]? = (B++g)[i]? :=fun i hi hn=>by
  rw[k1 i (by rw[Ur];simp only[X2]at hi ⊢;omega) (fun e=>hn (by rw[←e];simp[HV.ex])) (fun e=>hn (by rw[e];simp[HV.ex]))];obtain⟨z,hz⟩:=hex;rw[hz,X5 hi]
 have hB1:∃g',H1=B++g':=by
  have:=oH.hN;refine⟨H1.drop B.length,?_⟩;refine aar fun i=>?_
  by_cases hi:i < B.length
  ·have e2:B.length≤H.length:=by rw[hHB];simp
   have n1:sB V.se≠some i:=fun e=>by have:=(oH.oe.bM e).1;omega
   rw[k1 i Om n1 Om,hHB,X5 hi,X5 hi]
  ·exact z139
 have Wv:∀j,some j∈V.ex b→j < (B++g).length:=fun j hj=>o.Cr hj
 have oxm:bg (fG (V.ex b) H) x':=oxH.fG (fun j hj hm=>by have:=(lnn j (.inl hj)).1;have:=Wv j hm;omega) (fun j hj hm=>by have:=(lnn j (.inr hj)).1;have:=Wv j hm;omega);have Ug:cF B.length H1 b { V with db:=V.db++ [x'],se:=RI }:=oH.Qw k1 (SJ.aB fun i hi=>by rw[Vs,Yj (by have:=VD i hi;omega)]) m1 (fun i hi=>by have:=VD i hi;omega) oxm;clear SJ hk1 hk1' sb1 hb1l;have owc:Ow B.length H1 V.sc 5 (V.ez.map EV.row):=Ug.oc;have owr:Ow B.length H1 V.sr 7 (V.cM.map RV.row):=Ug.og;obtain⟨V1,TM⟩:∃V1:HV,V1={ V with db:=V.db++ [x'],se:=RI }:=⟨_,rfl⟩;rw[←TM]at Ug;have eN:H1[N]? =some (.b x'.row):=(k1 N (by rw[Ur,hN];simp only[X2,X8];omega) (fun e=>by have:=(o.oe.bM e).2;omega) (by have:=o.lt;omega)).trans eH
 have oxm1:bg (fG (V1.ex b) H1) x':=Ug.ae x' (by rw[TM];simp);have ox1:bg H1 x':=oxm1.sub (ji.fG _ _);obtain⟨gH1,hB1⟩:=hB1;have lb1:=@fH _ _ _ m1;have le1:=@fH _ _ _ eN;have hkx:x'.ev.kind=x.ev.kind:=by rw[Q2]
 have Q0:jH x.ev=d:=by rw[jH,wx.kd];rfl
 by_cases h5:d= .ee
 ·have q5:decide (x.ev.kind= [117,110,100,111])=true:=X7 (by rw[cg wx.kd,h5];rfl);refine Rs (A7 t0 @le1 @a8 @hkx q5 @lb1 owc.aX.aL) ?_;have hne:V.ez≠[]:=fun e=>by
   rw[eb,j5,Q0,Yh h5,show V.bS.ez.getLast? =none by simp[HV.bS,e]]at h2;split at h2<;>exact absurd h2 De
  have hcp:0 < V.ez.length:=Z0.2 hne;have e2:IntKind.i64.wrap ((V.ez.length:Int) - 1)= ((V.ez.length - 1:Nat):Int):=by rw[bo Om Om];omega
  obtain⟨Rp,c1,c2,c3⟩:=owc.cut (n:=V.ez.length - 1) Si (k:=.i64);obtain⟨RK,r1,r2,r3⟩:=owr.cut (n:=V.ez.length - 1) (by simp;omega) (k:=.i64);refine Rs (A5 t0 e2 @lb1 @c1 @r1) ?_;have osc:Rp.one=true:=c3.aX.one;have osr:RK.one=true:=r3.aX.one;have sA:aT 1 (.ptr b 1) Rp (fun z=>H1[z]?)=some (aA,.set b (.b [RI,Rp,V.sr])):=by
   rw[aN m1];exact bW osc Si
  have hbl1:b < H1.length:=Ug.lt;have m2: (H1.set b (.b [RI,Rp,V.sr]))[b]? =some (.b [RI,Rp,V.sr]):=Yl hbl1;have sB2:aT 1 (.ptr b 2) RK (fun z=>(H1.set b (.b [RI,Rp,V.sr]))[z]?)=some (aA,.set b (.b [RI,Rp,RK])):=by
   rw[aN m2];exact bW osr Si
  refine Rs (A3 t0 @sA @sB2) ?_;rw[List.set_set];obtain⟨gz,hz⟩:=uZ (X:=.b [RI,Rp,RK]) Ug.hN ⟨_,hB1⟩;have kz:∀i,i≠b→(H1.set b (.b [RI,Rp,RK]))[i]? =H1[i]? :=fun i hi=>Yj (Zv hi)
  have d1:=rE.1 Ug.di;have d2:=rE.1 o.di;have hfr:∀i,i < (B++g).length→some i∉V.ex b→(B++gz)[i]? = (B++g)[i]? :=fun i hi hn=>by
   rw[←hz,kz i (fun e=>hn (by rw[e];simp[HV.ex])),Wd i hi hn]
  refine⟨gz,{ V1 with ez:=V1.ez.take (V.ez.length - 1),cM:=V1.cM.take (V.ez.length - 1),sc:=Rp,sr:=RK },hz,by rw[h2],?_,?_,hfr,fun j hj=>?_⟩
  ·rw[←hz];subst TM;rw[←List.map_take]at c3 r3;refine Ug.Qv (fun i _ hi=>kz i hi) (c3.aB fun i hi=>kz i fun e=>?_) (r3.aB fun i hi=>kz i fun e=>?_) (Yl hbl1) c2 r2
   ·rw[c2]at hi;exact(d2.1 b rfl).2.1 (by rw[hi,e])
   ·rw[r2]at hi;exact(d2.1 b rfl).2.2 (by rw[hi,e])
  ·rw[Yh h2,lM,Q0,Yh h5,TM];simp only[HV.bS,Yc,List.map_take,YY,ZV,Q2,List.dropLast_eq_take,Ya,Sd]
  ·subst TM;simp only[HV.ex,YH,Y7,ZI,Yy]at hj ⊢;rcases hj with hj| hj| hj| hj
   ·exact .inl (.inl hj)
   ·have:=VD j hj.symm;exact .inr (by rw[Ur]at this;simp only[X2]at this ⊢;omega)
   ·rw[c2]at hj;exact .inl (.inr (.inr (.inl hj)))
   ·rw[r2]at hj;exact .inl (.inr (.inr (.inr hj)))
 have q5:decide (x.ev.kind= [117,110,100,111])=false:=X3 fun z=>h5 (by
  have:=wx.kd;rw[z]at this;exact(Y6 ((lV .ee).symm.trans this)).symm)
 refine Rs (A5 t0 @le1 @a8 @hkx q5) ?_;have UG:V1.now=V.now:=by rw[TM];rfl
 have rd1:=Ug.rd;have wn:fk V1.now.an:=by rw[UG,V.jr];exact w.now
 refine WF.ce T.c79 (r79 T rd1 (by rw[TM];show V.cM.length≤1000;omega)) fun g4=>?_
 refine Rs t0 ?_;refine WF.res T.c96 (r96 T (rd1.now.ext Xx) wn) ?_;rintro _ g5 ⟨VN,hVN,rfl,own⟩;have stN:∀{b':Nat} {a0 a1 a2 a3 a4 a5 a6:AV},kV 7 0 (.agg VN.row) b' (.b [a0,a1,a2,a3,a4,a5,a6])=some (aA,.set b' (.b VN.row)):=fun {_ _ _ _ _ _ _ _}=>own.ok.st
 refine Rs (A2 t0 @stN) ?_;refine WF.res T.c90 (r90 T) ?_;rintro _ g6 ⟨vf,rfl,hk⟩;obtain⟨hx3,US⟩:∃z,z=H1++g4++g5++ [ak.b VN.row]:=⟨_,rfl⟩;rw[←US]at hk ⊢;have lk:∀{z:AV},gW .s z false (.map hx3.length) (.str x.ev.kind) (fun b=>(hx3++g6)[b]?)=lF z false ((gJ x.ev.kind).map vf):=hk.look;rw[wx.kd]at lk;have Rw:∀{z:AV},_=some (vf d,iA.au):=@lk;obtain⟨rs,a,hv,hr,ha,hab⟩:=(hk.k d).ex;rw[hv]at Rw;have e1x:Ext H1 (hx3++g6):=by rw[US];exact Xx
 have le2:∀{k n a},Ext (hx3++g6) k→aq n (.ptr N a) (fun z=>k[z]?)=dE n a (.b x'.row):=fun {_ _ _} e=>le1 (e1x.trans e)
 have cd:=lI d;obtain⟨rb,VB⟩:∃rb,rb= (H1++g4++g5).length:=⟨_,rfl⟩;rw[←VB];refine Rs (A8 t0 @le2 @a8 @hkx @bT @Rw @cd @cj) ?_;have TF:gK V.bS.now x.ev d=0:=by
  rw[eb,j5,Q0,Yd h5]at h2;split at h2
  ·exact absurd h2 De
  ·exact h2
 have SE:x.ev.num= (V.bS.db.length:Int)+1:=by
  rw[eb,j5]at h2;split at h2
  ·exact absurd h2 De
  case isFalse hh=>exact ZN.1 hh
 have hVR:VN.an=V.bS.now:=by rw[hVN,UG,V.jr]
 have Rh:¬bG x.ev 0 < V.bS.now.tick:=fun z=>by rw[gK,Yh z]at TF;exact absurd TF De
 have UH:kP d V.bS.now x.ev=0:=by
  rw[gK,Yd Rh]at TF;split at TF
  case isTrue hh=>exact absurd TF hh
  case isFalse hh=>exact ZN.1 hh
 have Sg:bA V.bS.now x.ev d=0:=by rw[gK,Yd Rh,Yd (by rw[UH];decide)]at TF;exact TF
 obtain⟨G,hG⟩:=e1x;have hGl:H1.length≤rb∧rb < (H1++G).length:=by
  rw[←hG,US,VB];simp only[X2,X8,X9];omega
 have rbk:bX H1.length (H1++G) rb VN:=by
  have:=(((own.app [ak.b VN.row]).app g6).low (M:=H1.length) Si);rw[←US,hG]at this;refine⟨this,hGl.1,?_,fun hb'=>?_⟩
  ·rw[←hG,US,VB];exact(Ext.app _ (Ext.refl _)).some ba
  ·have:=(own.dP hb').2;omega
 have glG:Gl (H1++G):=(gl.ext ⟨_,hB1⟩).ext ⟨_,rfl⟩;have cx:Cx (H1++G) VN x' d:=⟨rbk.o.ok,by rw[hVN];exact wn,ox1.ext ⟨_,rfl⟩,by rw[Q2];exact wx,by rw[hVR,Q2];exact yS UH⟩;rw[hG];refine FC T h5 rbk cx (by rw[hVR,Q2];exact Sg) glG ?_;rintro _ _ ⟨g7,V7,rfl,r7,hr7⟩;have e17:Ext H1 (H1++g7):=⟨_,rfl⟩;have le3:∀{k n a},Ext (H1++g7) k→aq n (.ptr N a) (fun z=>k[z]?)=dE n a (.b x'.row):=fun {_ _ _} e=>le1 (e17.trans e)
 have RL:0 < x'.ev.b9.length:=by rw[Q2,wx.vl];cases d<;>first| exact absurd rfl h5| decide
 have qp:aZ 1 x'.sv (.i 0)=some (cV x'.sv 1 0,.au):=ox1.v.qp RL;have ld0:∀{k':ah},Ext (H1++g7) k'→aq none (cV x'.sv 1 0) (fun b=>k'[b]?)=some (.i (bG x.ev 0),.au):=fun {k'} e=>by
  have ev0:bG x.ev 0=x'.ev.b9[0]:=by rw[←Q2,bG,YJ,X6 RL];rfl
  rw[ev0];exact ox1.v.ki RL rfl (e17.trans e)
 have s7:aT 1 (.ptr rb 0) (.i (bG x.ev 0)) (fun z=>(H1++g7)[z]?)=some (aA,.set rb (.b (V7.row.set 0 (.i (bG x.ev 0))))):=hO r7.m rfl De;obtain⟨g8,hg8,r8⟩:=r7.tk (bG x.ev 0);refine Rs (A6 t0 @le3 @aY @qp @ld0 @s7) ?_;rw[hg8];obtain⟨V8,hV8⟩:∃V8:RV,V8={ V7 with tick:=bG x.ev 0 }:=⟨_,rfl⟩;rw[←hV8]at r8;have hr8:V8.an=ke V.bS.now x.ev d:=by
  rw[hV8,ke,←hVR];have:dq VN.an x.ev d=V7.an:=by rw[hr7,Q2]
  rw[this];rfl
 clear s7 le2 le3 ld0 Rw lk hk;have oV2:cF B.length (H1++g8) b V1:=Ug.app g8;have e18:Ext H1 (H1++g8):=⟨_,rfl⟩;have lb2:∀{k n a},Ext (H1++g8) k→aq n (.ptr b a) (fun z=>k[z]?)=dE n a (.b [RI,V.sc,V.sr]):=fun {_ _ _} e=>lb1 (e18.trans e)
 have le2:∀{k n a},Ext (H1++g8) k→aq n (.ptr N a) (fun z=>k[z]?)=dE n a (.b x'.row):=fun {_ _ _} e=>le1 (e18.trans e)
 have lr2:=@fH _ _ _ r8.m;have bs1:=@bg.EK _ _ ox1;have bs2:=@aC.EK _ _ r8.o.ok;obtain⟨H2,U4⟩:∃H2,H2=H1++g8:=⟨_,rfl⟩;have m2:H2[b]? =some (.b [RI,V.sc,V.sr]):=by rw[U4];exact e18.some m1
 have e2:H2[N]? =some (.b x'.row):=by rw[U4];exact e18.some eN
 have r2m:H2[rb]? =some (.b V8.row):=by rw[U4];exact r8.m
 have hB2:∃g',H2=B++g':=⟨_,by rw[U4,hB1,X4]⟩;rw[←U4]at r8 oV2 ⊢;have Xi:Ow B.length H2 V.sc 5 (V.ez.map EV.row):=by have:=oV2.oc;rw[TM]at this;exact this
 have Vv:Ow B.length H2 V.sr 7 (V.cM.map RV.row):=by have:=oV2.og;rw[TM]at this;exact this
 have d1:=rE.1 Ug.di;have d1b:sB V.sc≠some b∧sB V.sr≠some b:=by have:=(d1.1 b rfl).2;rw[TM]at this;exact this
 have d1c:∀i,sB V.sc=some i→sB V.sr≠some i:=by have:=d1.2.2;rw[TM]at this;exact this
 have hBl:B.length≤H2.length:=by obtain⟨z,hz⟩:=hB2;rw[hz];simp
 refine oT (fun h=>h[b]? =some (.b [RI,V.sc,V.sr])∧h[N]? =some (.b x'.row)∧h[rb]? =some (.b V8.row)) ?_;have hS: (fun h:ah=>h[b]? =some (.b [RI,V.sc,V.sr])∧h[N]? =some (.b x'.row)∧h[rb]? =some (.b V8.row)) H2:=⟨m2,e2,r2m⟩;refine c7 hS rfl rfl ?_;refine Rs t0 ?_;refine c7 hS rfl rfl ?_;refine Rs t0 ?_;refine c7 hS rfl rfl ?_;refine Rs t0 ?_;refine c7 hS rfl rfl ?_;refine Rs t0 ?_;refine c7 hS rfl rfl ?_;refine Rs t0 ?_;refine kN hS (v:=V.sc) (fun g hg=>?_) ?_
 ·exact J4
 refine Rs t0 ?_;refine kN hS (v:=.agg x'.row) (fun g hg=>?_) ?_
 ·simp only[aW,bd,bC,bD,reduceAdd,reduceMul,reduceLeDiff,reduceEqDiff,bE,hlen,Yo,Ys,t0,az hg.2.1,cj]
 refine Rs t0 ?_;refine c7 hS rfl rfl ?_;refine Rs (A2 t0 @bs1) ?_;have x3:Ext H2 (H2++ [ak.cells x'.row true true]):=⟨_,rfl⟩;have hS3: (fun h:ah=>h[b]? =some (.b [RI,V.sc,V.sr])∧h[N]? =some (.b x'.row)∧h[rb]? =some (.b V8.row)) (H2++ [ak.cells x'.row true true]):=⟨x3.some m2,x3.some e2,x3.some r2m⟩;refine c7 hS3 rfl rfl ?_;refine Rs t0 ?_;refine WR.IB (N:=B.length) (cs:=V.ez.map EV.row) (ys:=[x'.row]) (Xi.aB fun i hi=>X5 (Xi.bM hi).2) (Fr.push (N:=0) (YB _) [x'.row] (by intro y hy;rw[Yt]at hy;rw[hy];rfl)).aX (by simp only[X2];omega) De Si (by simp only[Ya,X8,X9];omega) ?_;intro h4 hl4 hs4 hk4
 have Wi:V.ez.map EV.row++ [x'.row]= (V.ez++ [x']).map EV.row:=by rw[Yc];rfl
 rw[Wi]at hs4;rw[Wi];obtain⟨Rp,hsc⟩:∃Rp,Rp=AV.slice (H2++ [ak.cells x'.row true true]).length 0 ((V.ez++ [x']).map EV.row).length 5:=⟨_,rfl⟩;rw[←hsc]at hs4 ⊢;have hl4':h4.length=H2.length+2:=by rw[hl4];simp
 have VE:∀i,sB Rp=some i→H2.length+1=i:=fun i hi=>by rw[hsc]at hi;cases hi;simp
 have osc:Rp.one=true:=by rw[hsc];rfl
 have k4:∀i,i < H2.length→sB V.sc≠some i→h4[i]? =H2[i]? :=fun i hi hne=>by rw[hk4 i (by simp;omega) hne,X5 hi]
 have hNl:N < H2.length:=(X1.1 e2).1;have Sd:rb < H2.length:=(X1.1 r2m).1;have hbl2:b < H2.length:=(X1.1 m2).1;have VW:∀j,some j∈V.ex b→j < N:=fun j hj=>by rw[hN];exact o.Cr hj
 have ncN:sB V.sc≠some N:=fun e=>by have:=VW N (by rw[←e];simp[HV.ex]);omega
 have nrN:sB V.sr≠some N:=fun e=>by have:=VW N (by rw[←e];simp[HV.ex]);omega
 have hNr:N < rb:=by have:=(X1.1 eN).1;omega
 have ncr:sB V.sc≠some rb:=fun e=>by have:=VW rb (by rw[←e];simp[HV.ex]);omega
 have nrr:sB V.sr≠some rb:=fun e=>by have:=VW rb (by rw[←e];simp[HV.ex]);omega
 have VY: (fun h:ah=>h[b]? =some (.b [RI,V.sc,V.sr])∧h[N]? =some (.b x'.row)∧h[rb]? =some (.b V8.row)) h4:=⟨(k4 b hbl2 d1b.1).trans m2,(k4 N hNl ncN).trans e2,(k4 rb Sd ncr).trans r2m⟩;refine Rs t0 ?_;refine c7 VY rfl rfl ?_;refine Rs t0 ?_;refine c7 VY rfl rfl ?_;refine Rs t0 ?_;refine c7 VY rfl rfl ?_;refine Rs t0 ?_;refine kN VY (v:=V.sr) (fun g hg=>?_) ?_
 ·exact J4
 refine Rs t0 ?_;refine kN VY (v:=.agg V8.row) (fun g hg=>?_) ?_
 ·simp only[aW,bd,bC,bD,reduceAdd,reduceMul,reduceLeDiff,reduceEqDiff,bE,hlen,Yo,Ys,t0,az hg.2.2,aG]
 refine Rs t0 ?_;refine c7 VY rfl rfl ?_;refine Rs (A2 t0 @bs2) ?_;have x5:Ext h4 (h4++ [ak.cells V8.row true true]):=⟨_,rfl⟩;have hS5: (fun h:ah=>h[b]? =some (.b [RI,V.sc,V.sr])∧h[N]? =some (.b x'.row)∧h[rb]? =some (.b V8.row)) (h4++ [ak.cells V8.row true true]):=⟨x5.some VY.1,x5.some VY.2.1,x5.some VY.2.2⟩;have owr4:Ow B.length (h4++ [ak.cells V8.row true true]) V.sr 7 (V.cM.map RV.row):=Vv.aB fun i hi=>by
  have hil:=(Vv.bM hi).2;rw[X5 Om];exact k4 i hil fun e=>d1c i e hi
 refine c7 hS5 rfl rfl ?_;refine Rs t0 ?_;refine WR.IB (N:=B.length) (cs:=V.cM.map RV.row) (ys:=[V8.row]) owr4 (Fr.push (N:=0) (YB _) [V8.row] (by intro y hy;rw[Yt]at hy;rw[hy];rfl)).aX (by simp only[X2];omega) De Si (by simp only[Ya,X8,X9];omega) ?_;intro h6 hl6 hs6 hk6;have Wh:V.cM.map RV.row++ [V8.row]= (V.cM++ [V8]).map RV.row:=by rw[Yc];rfl
 rw[Wh]at hs6;rw[Wh];obtain⟨RK,hsr⟩:∃RK,RK=AV.slice (h4++ [ak.cells V8.row true true]).length 0 ((V.cM++ [V8]).map RV.row).length 7:=⟨_,rfl⟩;rw[←hsr]at hs6 ⊢;have hl6':h6.length=H2.length+4:=by rw[hl6];simp;omega
 have VC:∀i,sB RK=some i→H2.length+3=i:=fun i hi=>by rw[hsr]at hi;cases hi;simp;omega
 have osr:RK.one=true:=by rw[hsr];rfl
 have k6:∀i,i < H2.length→sB V.sc≠some i→sB V.sr≠some i→h6[i]? =H2[i]? :=fun i hi n1 n2=>by
  rw[hk6 i (by simp;omega) n2,X5 Om];exact k4 i hi n1
 have hS6: (fun h:ah=>h[b]? =some (.b [RI,V.sc,V.sr])∧h[N]? =some (.b x'.row)∧h[rb]? =some (.b V8.row)) h6:=⟨(k6 b hbl2 d1b.1 d1b.2).trans m2,(k6 N hNl ncN nrN).trans e2,(k6 rb Sd ncr nrr).trans r2m⟩;refine Rs t0 ?_;refine oS hS6 rfl ?_;have m6:=hS6.1;have hb6:b < h6.length:=(X1.1 m6).1;have sA:aT 1 (.ptr b 1) Rp (fun z=>h6[z]?)=some (aA,.set b (.b [RI,Rp,V.sr])):=by
  rw[aN m6];exact bW osc Si
 have m7: (h6.set b (.b [RI,Rp,V.sr]))[b]? =some (.b [RI,Rp,V.sr]):=Yl hb6;have sB2:aT 1 (.ptr b 2) RK (fun z=>(h6.set b (.b [RI,Rp,V.sr]))[z]?)=some (aA,.set b (.b [RI,Rp,RK])):=by
  rw[aN m7];exact bW osr Si
 refine Rs (A3 t0 @sA @sB2) ?_;rw[List.set_set];obtain⟨gB2,hgB2⟩:=hB2;obtain⟨gz,hz⟩:=uZ (X:=.b [RI,Rp,RK]) oV2.hN (DZ (B:=B) (h:=h6) Om fun i hi=>by
  rw[k6 i Om (fun e=>by have:=(Xi.bM e).1;omega) (fun e=>by have:=(Vv.bM e).1;omega),hgB2,X5 hi])
 have kz:∀i,i≠b→(h6.set b (.b [RI,Rp,RK]))[i]? =h6[i]? :=fun i hi=>Yj (Zv hi)
 have oxm2:bg (fG (V1.ex b) H2) x':=oV2.ae x' (by rw[TM];simp);have oR2:aC (fG (V1.ex b) H2) V8:=r8.o.ok.fG fun j hj hm=>by
  have h1:=(r8.o.dP hj).1;have h2:=Ug.Cr hm;omega
 have hBH1:B.length≤H1.length:=by rw[hB1];simp
 have fin:cF B.length (h6.set b (.b [RI,Rp,RK])) b { V1 with ez:=V1.ez++ [x'],cM:=V1.cM++ [V8],sc:=Rp,sr:=RK }:=by
  subst TM;refine oV2.Qx (fun i hi n1 n2 nb=>(kz i nb).trans (k6 i hi n1 n2)) (hs4.aB fun i hi=>?_) (hs6.aB fun i hi=>kz i ?_) (Yl hb6) (fun i hi=>by have:=VE i hi;omega) (fun i hi=>by have:=VC i hi;omega) (fun i h1 h2=>by have:=VE i h1;have:=VC i h2;omega) oxm2 oR2 (fun j hj=>YQ hBH1 (r8.o.dP hj).1)
  ·have h1:=VE i hi;rw[kz i Om,hk6 i (by simp;omega) (fun e=>by have:=(Vv.bM e).2;omega),X5 Om]
  ·have h1:=VC i hi;omega
 have hfr:∀i,i < (B++g).length→some i∉V.ex b→(B++gz)[i]? = (B++g)[i]? :=fun i hi hn=>by
  have hi1:=Wd i hi hn;have hil:i < H1.length:=by
   rw[X6 hi]at hi1;exact(X1.1 hi1).1
  rw[←hz,kz i (fun e=>hn (by rw[e];simp[HV.ex])),k6 i (by rw[U4,X2];omega) (fun e=>hn (by rw[←e];simp[HV.ex])) (fun e=>hn (by rw[←e];simp[HV.ex])),U4,X5 hil,hi1]
 have hlo: (B++g).length≤H.length:=by rw[Ur];simp only[X2];omega
 have hlo2:H.length≤H2.length:=by rw[U4,X2,Vs,YL,VK];simp only[X2];omega
 have hexn:∀j,some j∈HV.ex b { V1 with ez:=V1.ez++ [x'],cM:=V1.cM++ [V8],sc:=Rp,sr:=RK }→some j∈V.ex b∨(B++g).length≤j:=fun j hj=>by
  subst TM;simp only[HV.ex,YH,Y7,ZI,Yy]at hj ⊢;rcases hj with hj| hj| hj| hj
  ·exact .inl (.inl hj)
  ·have:=VD j hj.symm;exact .inr Om
  ·have:=VE j hj.symm;exact .inr Om
  ·have:=VC j hj.symm;exact .inr Om
 refine⟨gz,_,hz,by rw[h2],by rw[←hz];exact fin,?_,hfr,hexn⟩;rw[Yh h2,lM,Q0,Yd h5,TM];simp only[HV.bS,Yc,YY,ZV,Q2,hr8]
end
def CZ{H e}(h:j5 H e=0):e.num= (H.db.length:Int)+1∧(jH e= .ee→H.ez≠[])∧(jH e≠.ee→gK H.now e (jH e)=0):=by
 unfold j5 at h;split at h
 ·exact absurd h De
 case isFalse h1=>
 refine⟨ZN.1 h1,fun hk hn=>?_,fun hk=>by rw[Yd hk]at h;exact h⟩;rw[Yh hk,hn]at h;exact absurd h De
def CM{H e}(h:fD H e=0):gL e=0∧j5 H e=0:=by
 unfold fD at h;split at h
 case isTrue h1=>exact absurd h h1
 case isFalse h1=>exact⟨ZN.1 h1,h⟩
theorem jG.jH{e d}(w:jG e d):Go.Abs.jH e=d:=by rw[Go.Abs.jH,w.kd];rfl
def kC.add{H e}(w:kC H)(h:fD H e=0):kC (lM H e):=by
 obtain⟨h1,h2⟩:=CM h;obtain⟨d,we⟩:=uk h1;obtain⟨h3,h4,h5⟩:=CZ h2;have Q0:=we.jH;unfold lM;split
 case isTrue hu=>
  have hl:=Z0.2 (h4 hu);have e1:=w.ln;have e2:=w.le;refine⟨fun R hR=>w.rg R ((List.dropLast_sublist _).mem hR),by simp[e1],?_,fun x hx=>?_,fun x hx=>w.cn x ((List.dropLast_sublist _).mem hx)⟩
  ·simp only[List.length_dropLast,X2,Yv];omega
  ·exact JV
 case isFalse hu=>
  have e1:=w.ln;have e2:=w.le;have hs:=h5 hu;rw[Q0]at hs hu;refine⟨fun R hR=>?_,by simp[e1],by simp only[X2,Yv];omega,fun x hx=>?_,fun x hx=>?_⟩
  ·rcases Yb.1 hR with hR| hR
   ·exact w.rg R hR
   ·rw[Yt]at hR;rw[hR,Q0];exact w.now.step we hu hs
  ·exact JV
  ·rcases Yb.1 hx with hx| hx
   ·exact w.cn x hx
   ·rw[Yt]at hx;subst hx;exact⟨d,we⟩
def wA{H e}: (lM H e).db.length=H.db.length+1:=by
 unfold lM;split<;>simp
def Jb(h:ah)(l:List ed)(v:AV)(k:ah):Prop:=
 ∃p,v= .dL [p,.i (bU l).2.1,.i (bU l).2.2]∧((bU l).2.2≠0→p= .nilPtr)∧
  ((bU l).2.2=0→∃b V,p= .ptr b 0∧cF h.length k b V∧V.bS= (bU l).1∧kC V.bS∧V.db.length=l.length∧l.length≤1000)
structure zp(L:List EV):Prop where
 l:L.length≤2^30
 e:∀x∈L,x.ev.names.length≤2^30∧x.ev.b9.length≤2^30
section
variable {P:Program} (T:fy P) {h:ah}
include T
def r78{L s}(o:dB h L s)(sh:zp L)(gl:Gl h):ay P 78 [s] h (Jb h (L.map EV.ev)):=by
 have Tc:=sh.l;refine .kM 31 T.mix T.c78 ?_;intro ts hlen t0;unfold fn78;by_cases h1:1000 < L.length
 ·have q1:decide ((1000:Int)< (L.length:Int))=true:=X7 Om;refine Rs (A3 t0 o.sl.aL q1) ?_;have e:bU (L.map EV.ev)= (jj.zero,0,5):=by rw[bU,Yh (by simpa using h1)]
  unfold Jb;rw[e];exact⟨_,rfl,fun _=>rfl,fun z=>absurd z De⟩
 have q1:decide ((1000:Int)< (L.length:Int))=false:=X3 Om;refine Rs (A3 t0 o.sl.aL q1) ?_;have e0:bU (L.map EV.ev)=k9 jj.zero (L.map EV.ev) 0:=by rw[bU,Yd (by simpa using h1)]
 obtain⟨b,hb⟩:∃b,b=h.length:=⟨_,rfl⟩;rw[←hb];refine WL.inv T.mix (fun m ts h'=>∃ (k:Nat) (g':ah) (V:HV),k≤L.length∧m=L.length - k∧h' =h++g'∧cF h.length (h++g') b V∧kC V.bS∧V.db.length=k∧bU (L.map EV.ev)=k9 V.bS ((L.drop k).map EV.ev) k∧ts.length=31∧slot ts 5= .ptr b 0∧slot ts 14=s∧slot ts 15= .i L.length∧slot ts 16= .i k) L.length
  ⟨0,[ak.b [AV.af,.af,.af]],⟨[],[],[],.af,.af,.af⟩,Om,rfl,rfl,⟨Om,by rw[hb];exact ba,.nil,.nil,.nil,rE.2 ⟨fun _ _=>⟨by simp[sB],by simp[sB],by simp[sB]⟩,fun _ z=>by simp[sB]at z,fun _ z=>by simp[sB]at z⟩,(fun x hx=>by cases hx),(fun x hx=>by cases hx),(fun x hx=>by cases hx),(fun x hx=>by cases hx)⟩,kC.zero,rfl,e0,Sn,Sw,(Sq t0),Sw,hP⟩ ?_
 rintro _ ts _ ⟨k,g',V,hk,rfl,rfl,oV,wV,hVl,Q1,hlen,t5,t14,t15,t16⟩;by_cases hlt:k < L.length
 ·have e3:=eT hlt;have e5:=wrapN (n:=k) Om;have ix:=o.sl.dI (kk:=.i64) hlt;have ld:∀{k'},Ext (h++g') k'→aq (some 5) (cV s 5 k) (fun b=>k'[b]?)=some (.agg (EV.row L[k]),.au):=fun {k'} e=>o.sl.kR hlt (Ext.trans (Ext.app g' (Ext.refl h)) e)
  obtain⟨x,hx⟩:∃x,x=L[k]:=⟨_,rfl⟩;have hm:x∈L:=by rw[hx];exact Yi _
  have hd:L.drop k=x::L.drop (k+1):=by rw[hx];simp
  rw[←hx]at ld;have ox:bg (h++g') x:=(o.all x hm).ext ⟨_,rfl⟩;have st:∀{b':Nat} {a0 a1 a2 a3 a4:AV},kV 5 0 (.agg x.row) b' (.b [a0,a1,a2,a3,a4])=some (aA,.set b' (.b x.row)):=fun {_ _ _ _ _ _}=>ox.st
  refine Rs (A9 t5 t14 t15 t16 e3 ix @ld @st @cj) ?_;rw[X4 h g'];rw[hd,YY,k9]at Q1;refine WF.gen T.c112 (Lz T (B:=h) (x:=x) (by rw[←X4];exact oV.app _) wV Om (by rw[←X4];exact ox.ext Xx) ⟨by have:=(sh.e x hm).1;omega,by have:=(sh.e x hm).2;omega⟩ gl) ?_;rintro _ _ ⟨g2,V2,rfl,rfl,o2,hV2,-,-⟩;by_cases h2:fD V.bS x.ev=0
  ·have q2:decide (fD V.bS x.ev≠0)=false:=X3 (fun z=>z h2);rw[Yh h2]at hV2;rw[Yd (fun z=>z h2)]at Q1;refine Rs (A6 t5 t14 t15 t16 q2 e5) ?_;refine⟨_,Om,k+1,g2,V2,Om,rfl,rfl,o2,by rw[hV2];exact wV.add h2,?_,by rw[hV2];exact Q1,rfl⟩;have:V2.bS.db.length=V.bS.db.length+1:=by rw[hV2];exact wA
   simpa [HV.bS,hVl]using this
  ·have q2:decide (fD V.bS x.ev≠0)=true:=X7 h2;rw[Yh h2]at Q1;refine Rs (A6 t5 t14 t15 t16 q2 e5) ?_;unfold Jb;rw[Q1];refine⟨_,?_,fun _=>rfl,fun z=>absurd z h2⟩;simp
 ·have e3:=fQ hlt;have e4:k=L.length:=Om
  have Uj:bU (L.map EV.ev)= (V.bS,0,0):=by rw[Q1,e4,YZ];rfl
  refine Rs (A5 t5 t14 t15 t16 e3) ?_;unfold Jb;rw[Uj];exact⟨_,rfl,fun z=>absurd rfl z,fun _=>⟨b,V,rfl,oV,rfl,wV,by simp;omega,by simp;omega⟩⟩
end
def qI(t:Int):Int:=bh t 0 999999999
def QG:decide ((0:Int)≠0)=false:=rfl
def jP(l:List ed)(t:Nat)(n:By):eX×Int:=if(bU l).2.2≠0 then(eX.zero,(bU l).2.2)else((bU l).1.now,bV (!dG (bU l).1.now t n) 10)
def cF.HC{N h b V}(o:cF N h b V):∀j,some j∈V.now.bl→N≤j:=by
 rw[HV.now,ZP];cases hx:V.cM.getLast? with
 | none=>intro j hj;simp[RV.zero,RV.bl,sB]at hj
 | some R=>exact o.lo R (List.mem_of_getLast? hx)
def y4{h X:ah}{A C:ak}{j:Nat}(hj:h.length+1≤j): (h++ [A]++X)[j]? = (h++ [C]++X)[j]? :=by
 exact MK
section
variable {P:Program} (T:fy P) {h:ah}
include T
def r75(t:Int):ay P 75 [.i t] h (fun v _=>v= .i (qI t)):=by
 refine .kM 5 T.mix T.c75 ?_;intro ts hlen t0;unfold fn75 zB;refine Rs t0 ?_;refine WF.ce T.c94 (r94 T _ _ _) fun g1=>?_
 refine Rs t0 ?_;rfl
def Hf{l v k}(r:Jb h l v k)(he: (bU l).2.2≠0):v= .dL [.nilPtr,.i (bU l).2.1,.i (bU l).2.2]:=by
 have:=T.mix;obtain⟨p,rfl,h1,_⟩:=r;rw[h1 he]
def BE{l v k}(r:Jb h l v k)(he: (bU l).2.2=0):∃b V,v= .dL [.ptr b 0,.i 0,.i 0]∧cF h.length k b V∧V.bS= (bU l).1∧kC V.bS∧V.db.length=l.length∧l.length≤1000∧V.cM.length≤1000∧(bU l).2.1=0∧fk V.now.an∧V.now.an= (bU l).1.now∧aC k V.now∧∀j,some j∈V.now.bl→h.length≤j:=by
 have:=T.mix;obtain⟨p,rfl,_,h2⟩:=r;obtain⟨b,V,rfl,h3,h4,h5,h6,h7⟩:=h2 he;have hz: (bU l).2.1=0:=by
  revert he
  unfold bU;split
  ·intro _;rfl
  ·have key:∀ (l:List ed) (H:jj) (i:Nat),(k9 H l i).2.2=0→(k9 H l i).2.1=0:=by
    intro l
    induction l with
    | nil=>intro H i _;rfl
    | cons e l ih=>
     intro H i;rw[k9];split
     case isTrue hb=>intro hc;exact absurd hc hb
     case isFalse hb=>exact ih _ _
   exact key l _ _
 have hr:V.cM.length≤1000:=by
  have e1:=h5.ln;have e2:=h5.le;exact z116
 exact⟨b,V,by rw[hz,he],h3,h4,h5,h6,h7,hr,hz,by rw[V.jr];exact h5.now,by rw[V.jr,h4],h3.rd.now,h3.HC⟩
def r73{L:List EV}{s:AV}(o:dB h L s)(sh:zp L)(gl:Gl h){t:Nat}(ht:t < 6)(n:By):ay P 73 [s,.i t,.str n] h (fun v k=>∃V:RV,v= .dL [.agg V.row,.i (jP (L.map EV.ev) t n).2]∧V.an= (jP (L.map EV.ev) t n).1∧aC k V∧fk V.an):=by
 refine .nH 31 T.mix T.c73 ?_;intro ts hlen t0 t1 t2;unfold fn73;refine Rs (A3 t0 t1 t2) ?_;refine WF.res T.c78 (r78 T (o.ext Xx) sh (gl.ext Xx)) ?_;intro v g hv;by_cases he: (bU (L.map EV.ev)).2.2=0
 ·obtain⟨b,V,rfl,oV,hV,wV,_,_,hr,_,wn,hn,on,lo⟩:=BE T hv he;have st:=@aC.st _ _ on;refine Rs (A4 t0 t1 t2 @QG) ?_;refine WF.ce T.c79 (r79 T (oV.rd.ext Xx) hr) fun g2=>?_
  refine Rs (A5 t0 t1 t2 @st @aG) ?_;refine WF.ce T.c86 (r86 T (on.ext Xx) wn.len ht _) fun g3=>?_
  refine Rs (A4 t0 t1 t2 @aG) ?_;refine WF.ce T.c85 (r85 T _ _) fun g4=>?_
  refine Rs (A5 t0 t1 t2 @st @aG) ?_;refine⟨V.now,?_,?_,?_,wn⟩
  ·rw[jP,Yd (fun z=>z he),hn]
  ·rw[jP,Yd (fun z=>z he),hn]
  ·refine(on.au (k:=h++ [ak.b V.now.row]++g) fun j hj=>y4 (by have:=lo j hj;simpa using this)).ext Xx
 ·have SD:=Hf T hv he;subst SD;have q:decide ((bU (L.map EV.ev)).2.2≠0)=true:=X7 he;refine Rs (A4 t0 t1 t2 q) ?_;refine⟨RV.zero,?_,?_,aC.zero,fk.zero⟩
  ·rw[jP,Yh he];rfl
  ·rw[jP,Yh he];rfl
end
def Ho{l t n}(h: (jP l t n).2=0): (bU l).2.2=0∧(jP l t n).1= (bU l).1.now∧n∈I3 (bU l).1.now t:=by
 unfold jP at h ⊢;split at h
 case isTrue h1=>exact absurd h h1
 case isFalse h1=>
  rw[Yd h1];refine⟨ZN.1 h1,rfl,?_⟩;by_cases hh:dG (bU l).1.now t n=true
  ·unfold dG at hh;exact Zq hh
  ·have:dG (bU l).1.now t n=false:=by simpa using hh
   simp only[this,bV]at h;exact absurd h De
def vd(l:List ed)(n:By)(t:Int):Bool×Int:=
 if bf [(jP l 2 n).2,qI t]≠0 then(false,bf [(jP l 2 n).2,qI t])else(iB (jP l 2 n).1 (qR (jP l 2 n).1 n) t,0)
def qm(l:List ed)(t:Int):List (By)×Int:=
 if bf [(bU l).2.2,qI t]≠0 then([],bf [(bU l).2.2,qI t])else(j6 (bU l).1.now t,0)
def Cl{a b}(h:bf [a,b]=0):a=0∧b=0:=by
 simp only[bf]at h;split at h
 ·rename_i ha;split at h
  ·rename_i hb;exact⟨ha,hb⟩
  ·rename_i hb;exact absurd h hb
 ·rename_i ha;exact absurd h ha
section
variable {P:Program} (T:fy P) {h:ah}
include T
def r16{L s}(o:dB h L s)(sh:zp L)(gl:Gl h)(n:By)(t:Int):ay P 16 [s,.str n,.i t] h (fun v _=>v= .dL [.bool (vd (L.map EV.ev) n t).1,.i (vd (L.map EV.ev) n t).2]):=by
 refine .nH 31 T.mix T.c16 ?_;intro ts hlen t0 t1 t2;unfold fn16;refine Rs (A3 t0 t1 t2) ?_;refine WF.res T.c73 (r73 T (o.ext Xx) sh (gl.ext Xx) (t:=2) De n) ?_;rintro _ g ⟨V,rfl,hV,oV,wV⟩;have st:∀{b':Nat} {a0 a1 a2 a3 a4 a5 a6:AV},kV 7 0 (.agg V.row) b' (.b [a0,a1,a2,a3,a4,a5,a6])=some (aA,.set b' (.b V.row)):=fun {_ _ _ _ _ _ _ _}=>oV.st
 refine Rs (A5 t0 t1 t2 @st @aG) ?_;refine WF.ce T.c75 (r75 T t) fun g1=>?_
 refine Rs (A3 t0 t1 t2) ?_;refine WF.ce T.c74 (r74 T (cw [_,_]) Si) fun g2=>?_
 obtain⟨f,hf⟩:∃f,f=bf [(jP (L.map EV.ev) 2 n).2,qI t]:=⟨_,rfl⟩;rw[←hf,vd,←hf];by_cases h0:f=0
 case neg=>
  have q:decide (f≠0)=true:=X7 h0;rw[Yh h0];exact Rs (A4 t0 t1 t2 q) Tv
 have q:decide (f≠0)=false:=X3 (fun z=>z h0);rw[Yd (fun z=>z h0)];rw[hf]at h0;obtain⟨he,hne,hm⟩:=Ho (Cl h0).1;rw[←hne,←hV]at hm;refine Rs (A5 t0 t1 t2 q @aG) ?_;refine WF.res T.c77 (r77 T (oV.ext Xx) wV.len hm) ?_;rintro _ g3 ⟨x,hx,T0,rfl⟩;refine Rs (A3 t0 t1 t2) ?_;refine WF.ce T.c76 (r76 T (oV.ext Xx) wV.len ((oV.e2 x hx).ext Xx) (wV.y3.sh x hx).2 (wV.y3.sh x hx).1 t) fun g4=>?_
 refine Rs (A3 t0 t1 t2) ?_;rw[T0,hV]
def r17{L s}(o:dB h L s)(sh:zp L)(gl:Gl h)(t:Int):ay P 17 [s,.i t] h (fun v k=>∃s',v= .dL [s',.i (qm (L.map EV.ev) t).2]∧aK k s' 1 ((qm (L.map EV.ev) t).1.map ao)):=by
 refine .eD 28 T.mix T.c17 ?_;intro ts hlen t0 t1;unfold fn17;refine Rs (A2 t0 t1) ?_;refine WF.res T.c78 (r78 T (o.ext Xx) sh (gl.ext Xx)) ?_;intro v g hv;obtain⟨p,hvp⟩:∃p,v= .dL [p,.i (bU (L.map EV.ev)).2.1,.i (bU (L.map EV.ev)).2.2]:=by obtain⟨p,h1,_⟩:=hv;exact⟨p,h1⟩
 rw[hvp];refine Rs (A2 t0 t1) ?_;refine WF.ce T.c75 (r75 T t) fun g1=>?_
 refine Rs (A2 t0 t1) ?_;refine WF.ce T.c74 (r74 T (cw [_,_]) Si) fun g2=>?_
 obtain⟨f,hf⟩:∃f,f=bf [(bU (L.map EV.ev)).2.2,qI t]:=⟨_,rfl⟩;rw[←hf,qm,←hf];by_cases h0:f=0
 case neg=>
  have q:decide (f≠0)=true:=X7 h0;rw[Yh h0];refine Rs (A3 t0 t1 q) ?_;exact⟨_,rfl,.nil⟩
 have q:decide (f≠0)=false:=X3 (fun z=>z h0);rw[Yd (fun z=>z h0)];rw[hf]at h0;obtain⟨b,V,hvb,oV,hV,wV,UY,hle,hr,hz,wn,hn,on,lo⟩:=BE T hv (Cl h0).1;rw[hvp]at hvb;have hpb:p= .ptr b 0:=by injection hvb with h1;injection h1
 rw[hpb];refine Rs (A3 t0 t1 q) ?_;refine WF.ce T.c79 (r79 T (oV.rd.ext Xx) hr) fun g3=>?_
 refine Rs (A2 t0 t1) ?_;refine WF.res T.c80 (r80 T (on.ext Xx) wn.len wn.y3 t) ?_;rintro v4 g4 h4;refine Rs (A2 t0 t1) ?_;rw[hn]at h4;exact⟨_,rfl,h4⟩
def r219{x:jI×AV}(ox:x.2.one=true){S:List gM}{s:AV}(hs:aK h s 3 (S.map cp))(hl:S.length < 2^63){b:Nat}(hb:h[b]? =some (.b [s])):
  ay P 219 [.agg (bj x),.ptr b 0] h (fun v _=>v= .bool (decide (x.1.line∈S.map gM.name))):=by
 refine .eD 9 T.mix T.c219 ?_;intro ts hlen t0 t1;unfold fn219;have lb:∀{k:ah} {n':Option Nat} {a:Nat},Ext h k→aq n' (.ptr b a) (fun z=>k[z]?)=dE n' a (.b [s]):=fun e=>az (e.some hb)
 unfold bj at t0;refine Rs (A4 t0 t1 @ox @lb) ?_;refine WF.ce T.c142 (r142 T (hs.ext Xx) hl _) fun g1=>?_
 rw[show(fun y:gM=>decide (y.name=x.1.line))=fun y=>decide (gM.name y=x.1.line)from rfl];refine Rs (A2 t0 t1) ?_;rw[fi]
def r126{V:RV}(o:aC h V)(w:fk V.an){p:By}(hp:p∈kX V.an):ay P 126 [.agg V.row,.str p] h (fun v h'=>aK h' v 1 ((sX V.an p).map ao)):=by
 refine .eD 20 T.mix T.c126 ?_;intro ts hlen t0 t1;unfold fn126;have QU:=@aC.box _ _ o;have l:=w.len;have hpc:=gY (f:=qk.name) (l:=V.an.aQ) (n:=p) (d:=Ht) hp;have hj:=(w.pc _ hpc).1;refine Rs (A4 t0 t1 @QU @aG) ?_;refine WF.ce T.c218 (r218 T (o.ext Xx) l hp) fun g1=>?_
 have pj: (c9 (jO V.an p))[1]? =some (.str (jO V.an p).Ce):=rfl;unfold c9;refine Rs (A3 t0 t1 @aG) ?_;refine WF.res T.c124 (r124 T (o.ext Xx) l hj) ?_;rintro _ g2 ⟨x,hx,T0,rfl⟩;unfold bN;refine Rs (A3 t0 t1 @aG) ?_;have hin:∀x∈V.aD,x.1.bw.length < 2^30:=fun x hx=>by have:=(w.md x.1 (Yx hx)).2.1;omega
 refine WF.res T.c122 (r122 T (o.ext Xx) l hin _) ?_;rintro v3 g3 h3;have ov:=h3.one;have hsl: (iJ V.an x.1.mod).length < 2^30:=by
  have h1: (iJ V.an x.1.mod).length≤V.an.lines.length:=by unfold iJ;exact YK _ _
  have:=w.l0;omega
 have sn:∀{N:Nat},kV 1 0 v3 N (.b [.af])=some (aA,.set N (.b [v3])):=fun {_}=>bW ov Si
 refine Rs (A6 t0 t1 @fN @fF @ov @sn) ?_;refine WF.res T.c138 (r138 T (o.i2.ext Xx) o.jd.1 (by have:=l.l2;omega) (fun y=>decide (y.1.line∈(iJ V.an x.1.mod).map gM.name)) (fun y hy k e=>bF.of (a:=[]) T.c219 (r219 T (o.jd.1 y hy) (h3.ext (Ext.trans Xx e)) Om (e.some ba)))) ?_;rintro s4 g4 h4;have Ru: (V.aj.filter fun y=>decide (y.1.line∈(iJ V.an x.1.mod).map gM.name)).length≤V.aj.length:=YK _ _;refine Rs (A2 t0 t1) ?_;refine WF.res T.c137 (r137 T h4.aX (fun x hx=>o.jd.1 x ((Zk.1 hx).1)) (by have:=l.l2;omega) (fun x=>x.1.name) (fun x hx k e=>bF.of (a:=[]) (c:=[]) T.c140 (r140 T x (o.jd.1 x ((Zk.1 hx).1))))) ?_
 rintro s5 g5 h5;have:=h5.aX;refine Rs (A2 t0 t1) ?_;have e:sX V.an p= (V.aj.filter fun y=>decide (y.1.line∈(iJ V.an x.1.mod).map gM.name)).map fun x=>x.1.name:=by
  rw[sX,←T0];simp only[RV.an,aaa,ZK];rfl
 rw[e];exact this
def n9(l:List Int):Int×Int:=
 if bf [bV (decide (l.length=0)) 12,bV (decide (32 < l.length)) 5]≠0 then(0,bf [bV (decide (l.length=0)) 12,bV (decide (32 < l.length)) 5])
 else if bf (l.map fun n=>bh n 0 999999999)≠0 then(0,bf (l.map fun n=>bh n 0 999999999))else(fC l,0)
def r93(n:Int):ay P 93 [.i n] h (fun v _=>v= .i (bh n 0 999999999)):=by
 refine .kM 5 T.mix T.c93 ?_;intro ts hlen t0;unfold fn93 zB;refine Rs t0 ?_;refine WF.ce T.c94 (r94 T _ _ _) fun g1=>?_
 exact Rs t0 Tv
def r27{s l}(hs:aK h s 1 (l.map aJ))(hl:l.length < 2^30):ay P 27 [s] h (fun v _=>v= .dL [.i (n9 l).1,.i (n9 l).2]):=by
 refine .kM 27 T.mix T.c27 ?_;intro ts hlen t0;unfold fn27;refine Rs (A2 t0 hs.aL) ?_;refine WF.ce T.c85 (r85 T _ _) fun g1=>?_
 refine Rs (A2 t0 hs.aL) ?_;refine WF.ce T.c85 (r85 T _ _) fun g2=>?_
 refine Rs t0 ?_;refine WF.ce T.c74 (r74 T (cw [_,_]) Si) fun g3=>?_
 have e1:decide ((l.length:Int)=0)=decide (l.length=0):=ZS.2 Om;have e2:decide ((32:Int)< (l.length:Int))=decide (32 < l.length):=ZS.2 Om;rw[e1,e2];obtain⟨f,hf⟩:∃f,f=bf [bV (decide (l.length=0)) 12,bV (decide (32 < l.length)) 5]:=⟨_,rfl⟩;rw[←hf,n9,←hf];by_cases h0:f=0
 case neg=>
  have q:decide (f≠0)=true:=X7 h0;rw[Yh h0];exact Rs (A2 t0 q) Tv
 have q:decide (f≠0)=false:=X3 (fun z=>z h0);rw[Yd (fun z=>z h0)];refine Rs (A2 t0 q) ?_;refine WF.res T.c92 (r92 T (hs.ext Xx) Om (fun n=>bh n 0 999999999) (fun n _ k _=>bF.of (a:=[]) (c:=[]) T.c93 (r93 T n))) ?_;rintro s4 g4 hf4;refine Rs t0 ?_;refine WF.ce T.c74 (r74 T hf4.aX (by simp;omega)) fun g5=>?_
 by_cases h1:bf (l.map fun n=>bh n 0 999999999)=0
 case neg=>
  have q:decide (bf (l.map fun n=>bh n 0 999999999)≠0)=true:=X7 h1;rw[Yh h1];exact Rs (A2 t0 q) Tv
 have q1:decide (bf (l.map fun n=>bh n 0 999999999)≠0)=false:=X3 (fun z=>z h1);rw[Yd (fun z=>z h1)];have hb:∀n∈l,-1≤n∧n≤999999999:=fun n hn=>by
  rw[p7]at h1;split at h1
  ·exact absurd h1 De
  case isFalse hh=>
   have:=gk (n:=n) (lo:=0) (hi:=999999999) fun z=>hh (ZE.2 ⟨n,hn,by simpa using z⟩)
   omega
 refine Rs (A2 t0 q1) ?_;refine WF.ce T.c95 (r95 T (hs.ext Xx) hl hb) fun g6=>?_
 exact Rs t0 Tv
end
def yT(l:List ed)(n:By):List (By)×Int:=if(jP l 3 n).2≠0 then([],(jP l 3 n).2)else((mC (jP l 3 n).1 n).map gS.name,0)
def Eu{h X:ah}{A A' R R':ak}{j:Nat}(hj:h.length+2≤j): (h++ [A]++ [R]++X)[j]? = (h++ [A']++ [R']++X)[j]? :=by
 exact MK
def Fb:ai:=((fn213).body.tl).hd
def L1:ai:=Fb.tl.HT
def Pk:ai:=(fn213).body.tl.tl
def L0: (fn213).body= .seq ((fn213).body.hd) (.seq (.seq Fb.hd (.block 0 (.eJ (.t 6) [7] L1.DT L1.Dc))) Pk):=rfl
section
variable {P:Program} (T:fy P) {h:ah}
include T
def r213{f:FuncId}{A:ar}(hA:bQ P f=some A){a c:List AV}{L:List (gS×AV)}{pre:ah→Prop}(hi:IterM P f a c (L.map fun x=>[.agg (aV x)]) pre)(ho:∀x∈L,x.2.one=true)(hl:L.length≤2^30)(hp:pre h)(hpe:∀k,Ext h k→pre k):
  ay P 213 [.af,.func (.func f) a c] h (fun v k=>aK k v 4 (L.map aV)):=by
 refine .of T.mix T.c213 ?_;obtain⟨ts,QV⟩:∃ts,ts=aU 13 [.af,.func (.func f) a c]:=⟨_,rfl⟩;have hlen:ts.length=13:=by rw[QV];rfl
 have t0:slot ts 0= .af:=by rw[QV];rfl
 have t1:slot ts 1= .func (.func f) a c:=by rw[QV];rfl
 show WC P bR (fn213).body [] (aU 13 [.af,.func (.func f) a c]) h _;rw[←QV,L0];clear QV;obtain⟨RR,RT⟩:∃RR,RR=Pk:=⟨_,rfl⟩;obtain⟨RA,Wy⟩:∃RA,RA=L1.DT:=⟨_,rfl⟩;obtain⟨RB,Wx⟩:∃RB,RB=L1.Dc:=⟨_,rfl⟩;rw[←RT,←Wy,←Wx];unfold Fb fn213;simp only[ai.tl,ai.hd];refine Rs (A2 t0 t1) ?_;refine WC.iterM T.mix hA (a:=a) (c:=c) (Sq t0) hi (fun y hy=>by obtain⟨z,_,rfl⟩:=YA.1 hy;rfl)
  (fun mm i h' g=>∃sl:AV,h' =h++ [ak.b [sl]]∧h'.length+1≤mm∧mm≤h'.length+1+g.length∧i≤L.length∧∀R:ak,Fr mm (h'++ [R]++g) sl 4 ((L.take i).map aV)) (fun _ _ _=>False)
  (fun g=>⟨.af,rfl,Om,Yg _,YB _,fun R=>.nil⟩)
  (fun mm i h' g g' hI=>by
   obtain⟨sl,a1,a2,a3,a4,a5⟩:=hI;exact⟨sl,a1,a2,by rw[X2];omega,a4,fun R=>by rw[←X4];exact(a5 R).app _⟩)
  (fun X=>hpe _ Xx) (fun mm i h' g X Q7 hI=>by obtain⟨sl,rfl,_⟩:=hI;exact hpe _ Xx) (fun mm i hi' h' g R B Q7 hI=>?_) (fun e h' g Q7 hI=>?_)
 ·obtain⟨sl,rfl,SF,Vm,hi0,hfr⟩:=hI;have hiL:i < L.length:=by simpa using hi'
  rw[Zf,Wy,Wx];obtain⟨x,hx⟩:∃x,x=L[i]:=⟨_,rfl⟩;have ox:=ho x (by rw[hx];exact Yi _);have Rh:L.take (i+1)=L.take i++ [x]:=by rw[hx,YM,X6 hiL];rfl
  rw[←hx];unfold L1 Fb fn213;simp only[ai.tl,ai.hd,ai.HT,ai.DT,ai.Dc,setArgs,aV];refine Rs (A3 t0 t1 @ox) ?_;refine⟨_,g++ [ak.b [AV.str x.1.name,.str x.1.gives,.str x.1.line,x.2]],by rw[←X4],Q7,?_⟩;rw[←X4];have lb:∀{Z:ah} {n a},aq n (.ptr h.length a) (fun z=>(h++ [ak.b [sl]]++ [B]++g++Z)[z]?)=dE n a (.b [sl]):=fun {_ _ _}=>az sE
  have lx:∀{n a},aq n (.ptr (h++ [ak.b [sl]]++ [R]++g).length a) (fun z=>(h++ [ak.b [sl]]++ [B]++g++ [ak.b [AV.str x.1.name,.str x.1.gives,.str x.1.line,x.2]])[z]?)=dE n a (.b [AV.str x.1.name,.str x.1.gives,.str x.1.line,x.2]):=fun {_ _}=>by
   have: (h++ [ak.b [sl]]++ [R]++g).length= (h++ [ak.b [sl]]++ [B]++g).length:=Si
   rw[this];exact az ba
  refine Rs (A5 t0 t1 @ox @lb @lx) ?_;obtain⟨gt,Ua⟩:∃gt,gt=g.take (mm - (h.length+2)):=⟨_,rfl⟩;have VF:h.length+2≤mm∧mm≤h.length+2+g.length:=by
   simp only[X2,X8,X9]at SF Vm;omega
  have hgl:gt.length=mm - (h.length+2):=by rw[Ua,Y5];omega
  have hgs:g=gt++g.drop (mm - (h.length+2)):=by rw[Ua,Zx]
  have h0l: (h++ [ak.b [sl]]++ [B]++gt).length=mm:=by
   exact z171
  have hfs:Fr (h++ [ak.b [sl]]++ [B]++gt).length (h++ [ak.b [sl]]++ [B]++g++ [ak.b [AV.str x.1.name,.str x.1.gives,.str x.1.line,x.2]]++ [ak.cells [AV.str x.1.name,.str x.1.gives,.str x.1.line,x.2] true true]) sl 4 ((L.take i).map aV):=by
   rw[h0l];exact((hfr B).app _).app _
  have hext:Ext (h++ [ak.b [sl]]++ [B]++gt) (h++ [ak.b [sl]]++ [B]++g++ [ak.b [AV.str x.1.name,.str x.1.gives,.str x.1.line,x.2]]++ [ak.cells [AV.str x.1.name,.str x.1.gives,.str x.1.line,x.2] true true]):=by
   refine⟨g.drop (mm - (h.length+2))++ [ak.b [AV.str x.1.name,.str x.1.gives,.str x.1.line,x.2]]++ [ak.cells [AV.str x.1.name,.str x.1.gives,.str x.1.line,x.2] true true],?_⟩
   conv=>lhs;rw[hgs]
   simp only[X4]
  refine WR.fL (h0:=h++ [ak.b [sl]]++ [B]++gt) (cs:=(L.take i).map aV) (ys:=[aV x]) hfs (Fr.push (N:=0) (YB _) [aV x] (by simp[aV])).aX De Si (by simp only[Ya,Y5,X8,X9];omega) hext ?_;intro g' hlg hff hkp;have hrow: (L.take i).map aV++ [aV x]= (L.take (i+1)).map aV:=by rw[Rh,Yc];rfl
  rw[hrow]at hff;rw[hrow];obtain⟨sn,RH⟩:∃sn,sn=AV.slice (h++ [ak.b [sl]]++ [B]++g++ [ak.b [AV.str x.1.name,.str x.1.gives,.str x.1.line,x.2]]++ [ak.cells [AV.str x.1.name,.str x.1.gives,.str x.1.line,x.2] true true]).length 0 ((L.take (i+1)).map aV).length 4:=⟨_,rfl⟩;rw[←RH]at hff ⊢;have osn:sn.one=true:=by rw[RH];rfl
  have st:aT 1 (.ptr h.length 0) sn (fun z=>(h++ [ak.b [sl]]++ [B]++gt++g')[z]?)=some (aA,.set h.length (.b [sn])):=by
   have: (h++ [ak.b [sl]]++ [B]++gt++g')[h.length]? =some (.b [sl]):=sE;rw[aN this];exact bW osn Si
  refine Rs (A3 t0 t1 @st) ?_;refine⟨h++ [ak.b [sn]],gt++g',by simp only[X4],Si,fun y hy=>?_,sn,rfl,by simp only[X2,X8,X9];omega,?_,Om,fun R'=>?_⟩
  ·have SO:y < gt.length:=by
    simp only[X2,X8,X9]at hy;omega
   rw[X5 SO]
   conv=>rhs;rw[hgs]
   rw[X5 SO]
  ·exact z171
  ·rw[←h0l];refine hff.aB fun b hb=>?_
   have hbb:=(hff.bM hb).1;rw[h0l]at hbb;rw[X4 _ gt];exact Eu Om
 ·by_cases Ry:e= .normal
  case neg=>rw[Yd Ry]at hI;exact hI.elim
  subst Ry;rw[Yh rfl]at hI;obtain⟨mm,sl,rfl,_,_,_,hfr⟩:=hI;rw[Ya,YF]at hfr;rw[RT];have hf:=(hfr ak.dead).aX;have lb:∀{n a},aq n (.ptr h.length a) (fun z=>(h++ [ak.b [sl]]++ [ak.dead]++g)[z]?)=dE n a (.b [sl]):=fun {_ _}=>az Ar
  unfold Pk fn213;simp only[ai.tl,ai.hd];refine Rs (A3 t0 t1 @lb) ?_;exact hf
def r118{f:FuncId}{A:ar}(hA:bQ P f=some A){a c:List AV}{L:List (gS×AV)}{pre:ah→Prop}(hi:IterM P f a c (L.map fun x=>[.agg (aV x)]) pre)(ho:∀x∈L,x.2.one=true)(hl:L.length≤2^30)(hp:pre h)(hpe:∀k,Ext h k→pre k):
  ay P 118 [.func (.func f) a c] h (fun v k=>aK k v 4 (L.map aV)):=by
 refine .kM 5 T.mix T.c118 ?_;intro ts hlen t0;unfold fn118;refine Rs t0 ?_;refine WF.res T.c213 (r213 T hA hi ho hl hp hpe) ?_;rintro v g1 h1;refine Rs t0 ?_;exact h1
def r51{L:List EV}{s:AV}(o:dB h L s)(sh:zp L)(gl:Gl h)(n:By):ay P 51 [s,.str n] h (fun v k=>∃s',v= .dL [s',.i (yT (L.map EV.ev) n).2]∧aK k s' 1 ((yT (L.map EV.ev) n).1.map ao)):=by
 refine .eD 22 T.mix T.c51 ?_;intro ts hlen t0 t1;unfold fn51;refine Rs (A2 t0 t1) ?_;refine WF.res T.c73 (r73 T (o.ext Xx) sh (gl.ext Xx) (t:=3) De n) ?_;rintro _ g ⟨V,rfl,hV,oV,wV⟩;have st:∀{b':Nat} {a0 a1 a2 a3 a4 a5 a6:AV},kV 7 0 (.agg V.row) b' (.b [a0,a1,a2,a3,a4,a5,a6])=some (aA,.set b' (.b V.row)):=fun {_ _ _ _ _ _ _ _}=>oV.st
 rw[yT];by_cases h0: (jP (L.map EV.ev) 3 n).2=0
 case neg=>
  have q:decide ((jP (L.map EV.ev) 3 n).2≠0)=true:=X7 h0;rw[Yh h0];refine Rs (A4 t0 t1 @st q) ?_;exact⟨_,rfl,.nil⟩
 have q:decide ((jP (L.map EV.ev) 3 n).2≠0)=false:=X3 (fun z=>z h0);rw[Yd (fun z=>z h0)];refine Rs (A5 t0 t1 @st q @aG) ?_;have hin:∀x∈V.aD,x.1.bw.length < 2^30:=fun x hx=>by have:=(wV.md x.1 (Yx hx)).2.1;omega
 have ov1:∀x∈iC V n,x.2.one=true:=fun x hx=>oV.jd.2.1 x (Zk.1 hx).1
 have hnl: (iC V n).length≤2^30:=by
  have h1: (iC V n).length≤V.aD.length:=by unfold iC;exact YK _ _
  have:=wV.len.l3;omega
 refine WF.res T.c119 (r119 T (oV.ext Xx) n) ?_;rintro _ g1 ⟨rfl,hp⟩;refine Rs (A2 t0 t1) ?_;refine WF.res T.c118 (r118 T T.c214 (a:=[]) (rv T wV.len hin n _ _) ov1 hnl hp (fun k e=>qd.ext hp e)) ?_;rintro v2 g2 h2;refine Rs (A2 t0 t1) ?_;refine WF.res T.c117 (r117 T h2 ov1 Om (fun x=>x.1.name) (fun x hx k _=>bF.of (a:=[]) (c:=[]) T.c120 (r120 T x (ov1 x hx)))) ?_;rintro v3 g3 h3;refine Rs (A2 t0 t1) ?_;refine⟨_,rfl,?_⟩;have:=h3.aX;rw[←hV,←ph,ZK (g:=gS.name)];exact this
end
structure AL(N:Nat)(h:ah)(out:AV)(x:EV):Prop where
 n:Fr N h x.sn 1 (x.ev.names.map ao)
 v:Fr N h x.sv 1 (x.ev.b9.map aJ)
 dn:∀j,sB x.sn=some j→sB out≠some j
 dv:∀j,sB x.sv=some j→sB out≠some j
def AL.ok{N h out x}(o:AL N h out x):bg h x:=⟨o.n.aX,o.v.aX⟩
theorem AL.app{N h out x}(o:AL N h out x)(g:ah):AL N (h++g) out x:=⟨o.n.app g,o.v.app g,o.dn,o.dv⟩
def cE(n:By)(e:ed):Bool:=
 match Eg (jH e)with
 | none=>false
 | some 3=>true
 | some i=>decide (aO e i=n)
def nP(l:List ed):List ed:=l.mapIdx fun i e=>{ e with num:=(i:Int)+1 }
def e8(l:List ed)(n:By):List ed×Int:=
 if bf [(bU l).2.2,bV (decide ((bU l).2.2=0) && !dG (bU l).1.now 0 n) 10]≠0 then([],bf [(bU l).2.2,bV (decide ((bU l).2.2=0) && !dG (bU l).1.now 0 n) 10])
 else(nP ((bU l).1.ez.filter (cE n)),0)
section
variable {P:Program} (T:fy P) {h:ah}
include T
def r87{L s}(hs:dB h L s)(hl:L.length≤2^30)(hle:∀x∈L,x.ev.names.length≤2^30∧x.ev.b9.length≤2^30):
  ay P 87 [s,.func (.func 91) [] []] h (fun v h'=>∃L':List EV,L'.map EV.ev=L.map EV.ev∧Fr h.length h' v 5 (L'.map EV.row)∧∀x∈L',AL h.length h' v x):=by
 refine .eD 22 T.mix T.c87 ?_;intro ts hlen t0 t1;unfold fn87;refine Rs (A3 t0 t1 hs.sl.aL) ?_;refine WL.inv T.mix (fun n ts h'=>∃ (k:Nat) (out:AV) (L':List EV) (g:ah),k≤L.length∧n=L.length - k∧h' =h++g∧L'.map EV.ev= (L.take k).map EV.ev∧Fr h.length (h++g) out 5 (L'.map EV.row)∧(∀x∈L',AL h.length (h++g) out x)∧
   ts.length=22∧slot ts 1= .func (.func 91) [] []∧slot ts 5=out∧slot ts 8=s∧slot ts 9= .i L.length∧slot ts 10= .i k) L.length
  ⟨0,.af,[],[],Om,rfl,Si,rfl,.nil,(fun x hx=>by cases hx),Sn,(Sq t1),Sw,(Sq t0),Sw,hP⟩ ?_
 rintro _ ts _ ⟨k,out,L',g,hk,rfl,rfl,hm,hfr,hin,hlen,t1,t5,t8,t9,t10⟩;have hL':L'.length=k:=by have:=YC List.length hm;simp at this;omega
 by_cases hlt:k < L.length
 ·have e3:=eT hlt;have e5:=wrapN (n:=k) Om;have ix:=hs.sl.dI (kk:=.i64) hlt;have ld:∀{k'},Ext (h++g) k'→aq (some 5) (cV s 5 k) (fun b=>k'[b]?)=some (.agg (EV.row L[k]),.au):=fun {k'} e=>hs.sl.kR hlt (Ext.trans Xx e)
  obtain⟨x,hx⟩:∃x,x=L[k]:=⟨_,rfl⟩;have SF:x∈L:=by rw[hx];exact Yi _
  have Rh:L.take (k+1)=L.take k++ [x]:=by rw[hx,YM,X6 hlt];rfl
  rw[←hx]at ld;have ox:=hs.all x SF;have st:∀{b':Nat} {a0 a1 a2 a3 a4:AV},kV 5 0 (.agg x.row) b' (.b [a0,a1,a2,a3,a4])=some (aA,.set b' (.b x.row)):=fun {_ _ _ _ _ _}=>ox.st
  refine Rs (nv t1 t5 t8 t9 t10 e3 ix @ld @st @cj) ?_;refine WF.res T.c91 (r91 T x (ox.ext Xx) ⟨by have:=(hle x SF).1;omega,by have:=(hle x SF).2;omega⟩) ?_;rintro _ g1 ⟨x',Q2,rfl,fn,fv⟩;have Wa:bg (h++g++ [ak.b x.row]++g1) x':=⟨by rw[Q2];exact fn.aX,by rw[Q2];exact fv.aX⟩;have bs:=@bg.EK _ _ Wa;refine Rs (A6 t1 t5 t8 t9 t10 @bs) ?_;refine WR.fL (h0:=h) (cs:=L'.map EV.row) (ys:=[x'.row]) (((hfr.app _).app _).app _) (Fr.push (N:=0) (YB _) [x'.row] (by intro y hy;rw[Yt]at hy;rw[hy];rfl)).aX De Si (by simp only[Ya,X8,X9];omega) Xx ?_;intro g' Q7 hff hkp;have hrow:L'.map EV.row++ [x'.row]= (L'++ [x']).map EV.row:=by rw[Yc];rfl
  rw[hrow]at hff;rw[hrow];obtain⟨sn,RH⟩:∃sn,sn=AV.slice (h++g++ [ak.b x.row]++g1++ [ak.cells x'.row true true]).length 0 ((L'++ [x']).map EV.row).length 5:=⟨_,rfl⟩;rw[←RH]at hff ⊢;have Ty:∀i,sB sn=some i→(h++g++ [ak.b x.row]++g1).length+1=i:=fun i hi=>by rw[RH]at hi;cases hi;simp;omega
  have hout:∀b,sB out=some b→b < (h++g).length:=fun b hb=>(hfr.bM hb).2
  have kp:∀i,i < (h++g++ [ak.b x.row]++g1).length→sB out≠some i→(h++g')[i]? = (h++g++ [ak.b x.row]++g1)[i]? :=fun i hi hne=>by
   rw[hkp i (by rw[X2];omega) (fun b0 o n e he zz=>hne (by rw[he,zz];rfl)),X5 hi]
  refine Rs (A6 t1 t5 t8 t9 t10 e5) ?_;refine⟨_,Om,k+1,sn,L'++ [x'],g',Om,rfl,rfl,?_,hff,fun y hy=>?_,rfl,rfl⟩
  ·rw[Yc,hm,Rh,Yc];simp[Q2]
  ·rcases Yb.1 hy with hy| hy
   ·have oy:=hin y hy;have ln:=fun j (hj:sB y.sn=some j)=>(oy.n.bM hj).2
    have lv:=fun j (hj:sB y.sv=some j)=>(oy.v.bM hj).2
    refine⟨((oy.n.app [ak.b x.row]).app g1).aB fun j hj=>kp j (by have:=ln j hj;simp only[X2]at this ⊢;omega) (oy.dn j hj),((oy.v.app [ak.b x.row]).app g1).aB fun j hj=>kp j (by have:=lv j hj;simp only[X2]at this ⊢;omega) (oy.dv j hj),fun j hj e=>?_,fun j hj e=>?_⟩
    ·have h1:=ln j hj;have h2:=Ty j e;simp only[X2]at h1 h2;omega
    ·have h1:=lv j hj;have h2:=Ty j e;simp only[X2]at h1 h2;omega
   ·rw[Yt]at hy;subst hy;have ln:=fun j (hj:sB y.sn=some j)=>fn.bM hj
    have lv:=fun j (hj:sB y.sv=some j)=>fv.bM hj
    have en: (h++g++ [ak.b x.row]).length= (h++g).length+1:=by rw[X2];rfl
    rw[←Q2]at fn fv;exact P7
 ·have e3:=fQ hlt;have e4:k=L.length:=Om
  refine Rs (A6 t1 t5 t8 t9 t10 e3) ?_;rw[e4,YF]at hm;exact⟨L',hm,hfr,hin⟩
def r240{x}(ox:bg h x){b i:Nat}(hb:h[b]? =some (.b [.i (i:Int)]))(hi:i < x.ev.names.length)(n:By):ay P 240 [.agg x.row,.str n,.ptr b 0] h (fun v _=>v= .bool (decide (aO x.ev i=n))):=by
 refine .nH 13 T.mix T.c240 ?_;intro ts hlen t0 t1 t2;unfold fn240;have QU:=@bg.box _ _ ox;have lb:∀{k:ah} {n':Option Nat} {a:Nat},Ext h k→aq n' (.ptr b a) (fun z=>k[z]?)=dE n' a (.b [.i (i:Int)]):=fun e=>az (e.some hb)
 have ix:=ox.n.dI (kk:=.i64) hi;have ev:aO x.ev i=x.ev.names[i]:=by rw[aO,YJ,X6 hi];rfl
 have ld:∀{k':ah},Ext h k'→aq none (cV x.sn 1 i) (fun b=>k'[b]?)=some (.str (aO x.ev i),.au):=fun {k'} e=>by
  rw[ev];exact ox.n.ki hi rfl e
 exact Rs (A8 t0 t1 t2 @QU @lb @aM ix @ld) Tv
def r153{x}(ox:bg h x)(n:By):ay P 153 [.agg x.row,.str n] h (fun v _=>v= .bool true):=by
 refine .eD 5 T.mix T.c153 ?_;intro ts hlen t0 t1;unfold fn153;have QU:=@bg.box _ _ ox;exact Rs (A3 t0 t1 @QU) Tv
def r89{x d}(ox:bg h x)(wx:jG x.ev d){b n}(hb:h[b]? =some (.b [.str n])):ay P 89 [.agg x.row,.ptr b 0] h (fun v _=>v= .bool (cE n x.ev)):=by
 refine .eD 18 T.mix T.c89 ?_;intro ts hlen t0 t1;unfold fn89;have QU:=@bg.box _ _ ox;have lb:∀{k:ah} {n':Option Nat} {a:Nat},Ext h k→aq n' (.ptr b a) (fun z=>k[z]?)=dE n' a (.b [.str n]):=fun e=>az (e.some hb)
 refine Rs (A3 t0 t1 @QU) ?_;refine WF.res T.c90 (r90 T) ?_;rintro _ g2 ⟨vf,rfl,hk⟩;have lk:∀{z:AV},gW .s z false (.map (h++ [ak.b x.row]).length) (.str x.ev.kind) (fun b=>(h++ [ak.b x.row]++g2)[b]?)=lF z false ((gJ x.ev.kind).map vf):=hk.look;rw[wx.kd]at lk;have Rw:∀{z:AV},_=some (vf d,iA.au):=@lk;obtain⟨rs,a,hv,hr,ha,hab⟩:=(hk.k d).ex;rw[hv]at Rw;unfold cE;rw[wx.jH];unfold yq at hab;have hnl:=wx.nl;cases Q0:Eg d with
 | none=>
  rw[Q0]at hab;have hab:a= .nilFunc:=hab;subst hab;have en:ui true (pr .pg .nilFunc .nilFunc)=some (.bool false):=rfl;exact Rs (A6 t0 t1 @a8 @bT @Rw @en) Tv
 | some i=>
  rw[Q0]at hab;by_cases h3:i=3
  ·subst h3;have hab:a= .func (.func 153) [] []:=hab;subst hab;have en:∀{A C:List AV},ui true (pr .pg (.func (.func 153) A C) .nilFunc)=some (.bool true):=rfl;refine Rs (A8 t0 t1 @a8 @bT @Rw @en @cj @lb) ?_;refine WF.ce T.c153 (r153 T (ox.ext Xx) n) fun g3=>?_
   exact Rs t0 Tv
  ·obtain⟨b3,rfl,Ub⟩:∃b',a= .func (.func 240) [] [.ptr b' 0]∧(h++ [ak.b x.row]++g2)[b']? =some (.b [.i (i:Int)]):=by
    split at hab
    ·rename_i hz;cases hz
    ·rename_i hz;cases hz;exact absurd rfl h3
    ·rename_i hz;cases hz;exact hab
   have hil:i < x.ev.names.length:=by
    rw[hnl];cases d<;>simp[Eg]at Q0<;>first| (subst Q0;decide)| exact absurd Q0.symm h3
   have en:∀{A C:List AV},ui true (pr .pg (.func (.func 240) A C) .nilFunc)=some (.bool true):=rfl;refine Rs (A8 t0 t1 @a8 @bT @Rw @en @cj @lb) ?_;refine WF.ce T.c240 (a:=[]) (c:=[.ptr b3 0]) (r240 T (ox.ext Xx) (Ext.some Xx Ub) hil n) fun g3=>?_
   exact Rs t0 Tv
def r26{L s}(o:dB h L s)(sh:zp L)(gl:Gl h)(n:By):ay P 26 [s,.str n] h (fun v k=>∃s' L',v= .dL [s',.i (e8 (L.map EV.ev) n).2]∧dB k L' s'∧L'.map EV.ev= (e8 (L.map EV.ev) n).1):=by
 refine .eD 54 T.mix T.c26 ?_;intro ts hlen t0 t1;unfold fn26;refine Rs (A2 t0 t1) ?_;refine WF.res T.c78 (r78 T (o.ext Xx) sh (gl.ext Xx)) ?_;intro v g hv;obtain⟨p,hvp⟩:∃p,v= .dL [p,.i (bU (L.map EV.ev)).2.1,.i (bU (L.map EV.ev)).2.2]:=by obtain⟨p,h1,_⟩:=hv;exact⟨p,h1⟩
 rw[hvp];by_cases he: (bU (L.map EV.ev)).2.2=0
 case neg=>
  have q:decide ((bU (L.map EV.ev)).2.2=0)=false:=X3 he;refine Rs (A3 t0 t1 q) ?_;refine WF.ce T.c85 (r85 T _ _) fun g1=>?_
  refine Rs (A2 t0 t1) ?_;refine WF.ce T.c74 (r74 T (cw [_,_]) Si) fun g2=>?_
  have e1:bf [(bU (L.map EV.ev)).2.2,bV false 10]= (bU (L.map EV.ev)).2.2:=by rw[bf,Yd he]
  have q2:decide ((bU (L.map EV.ev)).2.2≠0)=true:=X7 he;rw[e1];refine Rs (A3 t0 t1 q2) ?_;have e2:e8 (L.map EV.ev) n= ([],(bU (L.map EV.ev)).2.2):=by
   rw[e8,q,aal,e1,Yh he]
  rw[e2];exact Jn
 obtain⟨b,V,hvb,oV,hV,wV,UY,hle,hr,hz,wn,hn,on,lo⟩:=BE T hv he;rw[hvp]at hvb;have hpb:p= .ptr b 0:=by injection hvb with h1;injection h1
 rw[hpb];have q:decide ((bU (L.map EV.ev)).2.2=0)=true:=X7 he;refine Rs (A3 t0 t1 q) ?_;refine WF.ce T.c79 (r79 T (oV.rd.ext Xx) hr) fun g1=>?_
 refine Rs (A3 t0 t1 @aG) ?_;refine WF.ce T.c86 (r86 T (on.ext Xx) wn.len (t:=0) De _) fun g2=>?_
 refine Rs (A2 t0 t1) ?_;refine WF.ce T.c85 (r85 T _ _) fun g3=>?_
 refine Rs (A2 t0 t1) ?_;refine WF.ce T.c74 (r74 T (cw [_,_]) Si) fun g4=>?_
 rw[hn];rw[e8,q,ZA];obtain⟨f,hf⟩:∃f,f=bf [(bU (L.map EV.ev)).2.2,bV (!dG (bU (L.map EV.ev)).1.now 0 n) 10]:=⟨_,rfl⟩;rw[←hf];by_cases h0:f=0
 case neg=>
  have q:decide (f≠0)=true:=X7 h0;rw[Yh h0];refine Rs (A3 t0 t1 q) ?_;exact Jn
 have q2:decide (f≠0)=false:=X3 (fun z=>z h0);rw[Yd (fun z=>z h0)];obtain⟨Hs,XW⟩:∃Hs,Hs=h++ [ak.b [AV.str n]]++g++g1++g2++g3++ [ak.cells [AV.i (bU (L.map EV.ev)).2.2,.i (bV (!dG (bU (L.map EV.ev)).1.now 0 n) 10)] true true]++g4:=⟨_,rfl⟩;have oH:zt Hs b V:=by rw[XW];exact oV.rd.ext Xx
 have mn:Hs[h.length]? =some (.b [.str n]):=by rw[XW];exact(show Ext (h++ [ak.b [AV.str n]]) _ from Xx).some ba
 rw[←XW];have hb:=oH.hb;have lb:=@fH _ _ _ hb;have hcl:V.ez.length≤1000:=by
  have e1:=wV.le;have e2:V.bS.ez.length=V.ez.length:=by simp[HV.bS]
  have e3:V.bS.db.length=V.db.length:=by simp[HV.bS]
  have e4: (L.map EV.ev).length≤1000:=hle;omega
 have wc:∀x∈V.ez,∃d,jG x.ev d:=fun x hx=>wV.cn x.ev (Yx hx)
 have oone:∀x∈V.ez,x.sn.one=true∧x.sv.one=true:=fun x hx=>⟨(oH.ac x hx).n.one,(oH.ac x hx).v.one⟩
 refine Rs (A4 t0 t1 q2 @lb) ?_;refine WF.res T.c88 (r88 T oH.ic oone Om (fun x=>cE n x.ev) (fun x hx k e=>by
  obtain⟨d,wx⟩:=wc x hx;exact bF.of (a:=[]) T.c89 (r89 T ((oH.ac x hx).ext e) wx (e.some mn)))) ?_
 rintro s5 g5 h5;refine Rs (A2 t0 t1) ?_;obtain⟨F,hF⟩:∃F,F=V.ez.filter fun x=>cE n x.ev:=⟨_,rfl⟩
 rw[←hF]at h5;have hFm:∀x∈F,x∈V.ez:=fun x hx=>by rw[hF]at hx;exact(Zk.1 hx).1
 have hFl:F.length≤1000:=by have:F.length≤V.ez.length:=by(rw[hF];exact YK _ _)
                            omega
 have oF:dB (Hs++g5) F s5:=⟨h5.aX,fun x hx=>(oH.ac x (hFm x hx)).ext Xx⟩;refine WF.res T.c87 (r87 T oF Om (fun x hx=>by
  obtain⟨d,wx⟩:=wc x (hFm x hx);have h1:=wx.nl;have h2:=wx.vl;have h3: (bL d).length≤3∧cB d≤3:=by cases d<;>decide
  omega)) ?_
 rintro s6 g6 ⟨L6,Wz,f6,i6⟩;obtain⟨Hb,hHb⟩:∃Hb,Hb=Hs++g5:=⟨_,rfl⟩;rw[←hHb]at f6 i6 ⊢;have hl6:L6.length=F.length:=by have:=YC List.length Wz;simpa using this
 refine Rs (A3 t0 t1 f6.aX.aL) ?_;refine WL.inv T.mix (fun m ts h'=>∃ (k:Nat) (g':ah) (L':List EV),k≤L6.length∧m=L6.length - k∧h' =Hb++g'∧L'.length=L6.length∧(∀i (h1:i < L'.length) (h2:i < L6.length),(L'[i]).ev=if i < k then { (L6[i]).ev with num:=(i:Int)+1 } else(L6[i]).ev)∧Fr Hb.length (Hb++g') s6 5 (L'.map EV.row)∧(∀x∈L',AL Hb.length (Hb++g') s6 x)∧
   ts.length=54∧slot ts 10=s6∧slot ts 41=s6∧slot ts 42= .i L6.length∧slot ts 43= .i k) L6.length
  ⟨0,g6,L6,Om,rfl,rfl,rfl,fun i _ _=>by rw[Yd Om],f6,i6,Sn,Sw,Sw,Sw,hP⟩ ?_
 clear t0 t1 hlen lb;clear ts;rintro _ ts _ ⟨k,g',L',hk,rfl,rfl,hlL,hev,hfr,hin,hlen,t10,t41,t42,t43⟩;by_cases hlt:k < L6.length
 ·have e3:=eT hlt;have e5:=wrapN (n:=k) Om;have Rm:k < L'.length:=Om
  have ix:=hfr.aX.dI (kk:=.i64) Rm;refine Rs (A7 t10 t41 t42 t43 e3 e5 ix) ?_;obtain⟨x,hx⟩:∃x,x=L'[k]:=⟨_,rfl⟩;have RC:x∈L':=by rw[hx];exact Yi _
  refine WR.vm (h0:=Hb) (x':={ x with ev:={ x.ev with num:=((k+1:Nat):Int) } }) hfr Rm De rfl (by rw[←hx];rfl) ?_;intro g2 hlg hff hkp;have kp:∀j,sB s6≠some j→(Hb++g2)[j]? = (Hb++g')[j]? :=fun j hj=>hkp j fun b0 o n e he zz=>hj (by rw[he,zz];rfl)
  have Wc:∀y:EV,AL Hb.length (Hb++g') s6 y→AL Hb.length (Hb++g2) s6 y:=fun y oy=>⟨oy.n.aB fun j hj=>kp j (oy.dn j hj),oy.v.aB fun j hj=>kp j (oy.dv j hj),oy.dn,oy.dv⟩
  refine Rs (A5 t10 t41 t42 t43 e5) ?_;refine⟨_,Om,k+1,g2,L'.set k { x with ev:={ x.ev with num:=((k+1:Nat):Int) } },Om,rfl,rfl,by rw[YL];exact hlL,fun i h1 h2=>?_,hff,fun y hy=>?_,rfl⟩
  ·by_cases SU:i=k
   ·subst SU;simp only[Z2];rw[Yh Om];have:=hev i Rm h2;rw[Yd Om]at this;rw[hx,this];rfl
   ·simp only[aau (Zv SU)];rw[hev i (by simpa using h1) h2];by_cases hil:i < k
    ·rw[Yh hil,Yh Om]
    ·rw[Yd hil,Yd Om]
  ·rcases ZO hy with hy| hy
   ·exact Wc y (hin y hy)
   ·rw[hy];have:=Wc x (hin x RC);exact⟨this.n,this.v,this.dn,this.dv⟩
 ·have e3:=fQ hlt;have e4:k=L6.length:=Om
  refine Rs (A5 t10 t41 t42 t43 e3) ?_;refine⟨by rw[hHb,XW];exact Xx,s6,L',rfl,⟨hfr.aX,fun x hx=>(hin x hx).ok⟩,?_⟩;have e6: (bU (L.map EV.ev)).1.ez.filter (cE n)=L6.map EV.ev:=by
   rw[Wz,hF,←hV];show List.filter _ (V.ez.map EV.ev)=_;rw[aaa];rfl
  rw[e6,nP];refine List.ext_getElem (by simp[hlL]) fun i h1 h2=>?_
  have h1':i < L'.length:=by simpa using h1
  rw[Zf,hev i h1' Om,Yh Om,List.getElem_mapIdx,Zf]
end
end Go.Abs
