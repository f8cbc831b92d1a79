/- A part of the proof that HouseLogs holds. No condition. -/
import Derived.Test.YtgplmdgpmbegiaaGreatDoorLo9
import Derived.Test.YtgplmdgpmbegiaaGreatDoorLo8
import Derived.Test.YtgplmdgpmbegiaaGreatDoorLo7
import Derived.Test.YtgplmdgpmbegiaaGreatDoorLo0
set_option maxHeartbeats 4000000
set_option linter.all false
open Nat (reduceAdd reduceMul reduceLeDiff reduceEqDiff)
namespace Go.Abs
set_option maxRecDepth 10000
attribute [local irreducible] WP WC WE WB WR WF WL WG fo WM
section
variable {P:Program}(T:eF P) {h W:af}{ts:TS}
include T
end
structure Ob(L:List EV):Prop where
 n:∀x∈L,∀n∈x.ev.names,n.length<2^63
section
variable {P:Program}(T:eF P) {h:af}
include T
end
def ve(e:fp):Bool:=decide (e.kind.length<=40)&&decide (e.names.length<=6)&&decide (e.ba.length<=8)&&decide (e.text.length<=200)&&e.names.all λx=>decide (x.length<=40)
section
variable {P:Program}(T:eF P) {h:af}
include T
def r14{L s}(o:fB h L s)(hl:L.length<2^63)(hn:∀x∈L,x.ev.names.length<2^63){n}(h0:n<=1000):ak P 14 [s,.i n] h (λv _=>v=.bool (k8 (L.map EV.ev) n)):=by
 refine .eQ 71 T.mix T.c14 ?_;intro ts hlen t0 t1;unfold fn14 gA;by_cases h1:n<L.length
 ·have q1:decide (n<(L.length:Int))=true:=Uk h1;refine Rs (A4 t0 t1 o.sl.aS q1) ?_;rw[k8,Uh (by simpa using h1)];rfl
 have q1:decide (n<(L.length:Int))=false:=Uh h1;have hsh:k8 (L.map EV.ev) n=L.all (λy=>ve y.ev):=by
  rw[k8,Uk (by simp;omega),VS,List.all_map];rfl
 rw[hsh];refine Rs (A4 t0 t1 o.sl.aS q1) ?_;refine WL.inv T.mix (λm ts h'=>∃k:Nat,k<=L.length/\m=L.length-k/\h' =h/\L.all (λy=>ve y.ev)=(L.drop k).all (λy=>ve y.ev)/\ts.length=71/\slot ts 0=s/\slot ts 5=.i k) L.length
  ⟨0,Om,rfl,rfl,rfl,Sn,(Sq t0),iR⟩ ?_
 clear t0 t1 hlen;rintro _ ts h' ⟨k,hk,rfl,rfl,hi,hlen,t0,t5⟩;by_cases hlt:k<L.length
 case neg=>
  have e3:=gG hlt;have e4:k=L.length:=Om
  rw[e4,Vr]at hi;refine Rs (A4 t0 t5 o.sl.aS e3) ?_;rw[hi];rfl
 have e3:=gh hlt;have e5:=wrapN (n:=k) Om;have ik:=o.sl.fx (kk:=.i64) hlt;obtain⟨x,hx⟩:∃x,x=L[k]:=⟨_,rfl⟩;have PI:x∈L:=by rw[hx];exact UB _
 have ox:=o.all x PI;have hd:L.drop k=x::L.drop (k+1):=by rw[hx];simp
 rw[hd,VJ]at hi;have l1:∀{kk:af},Ext h' kk->aq none (rk s 5 k 1) (λb=>kk[b]?)=some (.str x.ev.kind,.ar):=λ{kk} e=>o.sl.uR hlt (by rw[<-hx];rfl) e
 have l2:∀{kk:af},Ext h' kk->aq none (rk s 5 k 2) (λb=>kk[b]?)=some (x.sn,.ar):=λ{kk} e=>o.sl.uR hlt (by rw[<-hx];rfl) e
 have l3:∀{kk:af},Ext h' kk->aq none (rk s 5 k 3) (λb=>kk[b]?)=some (x.sv,.ar):=λ{kk} e=>o.sl.uR hlt (by rw[<-hx];rfl) e
 have l4:∀{kk:af},Ext h' kk->aq none (rk s 5 k 4) (λb=>kk[b]?)=some (.str x.ev.text,.ar):=λ{kk} e=>o.sl.uR hlt (by rw[<-hx];rfl) e
 have dc:∀a b:Nat,decide ((b:Int)<(a:Int))= !decide (a<=b):=λa b=>by
  by_cases hc:a<=b
  ·rw[Uk hc,Uh Om];rfl
  ·rw[Uh hc,Uk Om];rfl
 have c1:decide ((40:Int)<(x.ev.kind.length:Int))= !decide (x.ev.kind.length<=40):=dc _ 40;have c2:decide ((6:Int)<(x.ev.names.length:Int))= !decide (x.ev.names.length<=6):=dc _ 6;have c3:decide ((8:Int)<(x.ev.ba.length:Int))= !decide (x.ev.ba.length<=8):=dc _ 8;have c4:decide ((200:Int)<(x.ev.text.length:Int))= !decide (x.ev.text.length<=200):=dc _ 200;have bad:ve x.ev=false->L.all (λy=>ve y.ev)=false:=λhb=>by rw[hi,hb];rfl
 by_cases b1:x.ev.kind.length<=40
 case neg=>
  have d1:decide (x.ev.kind.length<=40)=false:=Uh b1;refine Rs (A9 t0 t5 o.sl.aS e3 @ik @l1 @c1 @d1 @UF) ?_;rw[bad (by simp only[ve,d1,We])]
 have d1:decide (x.ev.kind.length<=40)=true:=Uk b1;by_cases b2:x.ev.names.length<=6
 case neg=>
  have d2:decide (x.ev.names.length<=6)=false:=Uh b2;refine Rs (Ec t0 t5 o.sl.aS e3 @ik @l1 @l2 @c1 @d1 @c2 @d2 ox.n.aS @UF @UA) ?_;rw[bad (by simp only[ve,d2,WU,We])]
 have d2:decide (x.ev.names.length<=6)=true:=Uk b2;by_cases b3:x.ev.ba.length<=8
 case neg=>
  have d3:decide (x.ev.ba.length<=8)=false:=Uh b3;refine Rs (Kv t0 t5 o.sl.aS e3 @ik @l1 @l2 @l3 @c1 @d1 @c2 @d2 @c3 @d3 ox.n.aS ox.v.aS @UF @UA) ?_;rw[bad (by simp only[ve,d3,WU,We])]
 have d3:decide (x.ev.ba.length<=8)=true:=Uk b3;by_cases b4:x.ev.text.length<=200
 case neg=>
  have d4:decide (x.ev.text.length<=200)=false:=Uh b4;refine Rs (Of t0 t5 o.sl.aS e3 @ik @l1 @l2 @l3 @l4 @c1 @d1 @c2 @d2 @c3 @d3 @c4 @d4 ox.n.aS ox.v.aS @UF @UA) ?_;rw[bad (by simp only[ve,d4,WU,We])]
 have d4:decide (x.ev.text.length<=200)=true:=Uk b4;have TH:ve x.ev=x.ev.names.all λz=>decide (z.length<=40):=by simp only[ve,d1,d2,d3,d4,VS]
 rw[TH]at hi bad;refine Rs (Og t0 t5 o.sl.aS e3 @ik @l1 @l2 @l3 @l4 @c1 @d1 @c2 @d2 @c3 @d3 @c4 @d4 ox.n.aS ox.v.aS @UA) ?_;refine WL.inv T.mix (λm ts h1=>∃j:Nat,j<=x.ev.names.length/\m=x.ev.names.length-j/\h1=h'/\(x.ev.names.all λz=>decide (z.length<=40))=(x.ev.names.drop j).all (λz=>decide (z.length<=40))/\ts.length=71/\slot ts 0=s/\slot ts 5=.i k/\slot ts 6=.i j) x.ev.names.length
  ⟨0,Om,rfl,rfl,rfl,Sn,(Sq t0),(Sq t5),iR⟩ ?_
 clear t0 t5 hlen;rintro _ ts h1 ⟨j,hj,rfl,rfl,hij,hlen,t0,t5,t6⟩;by_cases QP:j<x.ev.names.length
 ·have f3:decide ((j:Int)<x.ev.names.length)=true:=Uk Om;have f5:IntKind.i64.wrap ((j:Int)+1)=((j+1:Nat):Int):=wrapN Om;have ij:=ox.n.fx (kk:=.i64) QP;have ln:=ox.n.kK (i:=j) (x:=.str x.ev.names[j]) QP rfl (Ext.refl _);have c5:decide ((40:Int)<(x.ev.names[j].length:Int))= !decide (x.ev.names[j].length<=40):=dc _ 40;have QD:x.ev.names.drop j=x.ev.names[j]::x.ev.names.drop (j+1):=Si
  rw[QD,VJ]at hij;cases hz:decide (x.ev.names[j].length<=40)with
  |true=>
   rw[hz,VS]at hij
   repeat (first|simp (config:={maxSteps:=1000000}) only[aL,aR,bd,bf,reduceAdd,reduceMul,reduceLeDiff,reduceEqDiff,bj,hlen,UC,UD,t0,t5,t6,ik,l2,ox.n.aS,f3,ij,ln,c5,hz,UA,f5]|simp (config:={maxSteps:=1000000}) (disch:=first|(simp only[Ud,Ui,Ul]<;>omega)|rfl|omega|fail) only[dZ,aL,aR,bd,bf,reduceAdd,reduceMul,reduceLeDiff,reduceEqDiff,bj,hlen,UC,UD,t0,t5,t6,ik,l2,ox.n.aS,f3,ij,ln,c5,hz,UA,f5])
   exact⟨_,Om,j+1,Om,rfl,hij,rfl⟩
  |false=>
   rw[hz,We]at hij
   repeat (first|simp (config:={maxSteps:=1000000}) only[aL,aR,bd,bf,reduceAdd,reduceMul,reduceLeDiff,reduceEqDiff,bj,hlen,UC,UD,t0,t5,t6,ik,l2,ox.n.aS,f3,ij,ln,c5,hz,UF]|simp (config:={maxSteps:=1000000}) (disch:=first|(simp only[Ud,Ui,Ul]<;>omega)|rfl|omega|fail) only[dZ,aL,aR,bd,bf,reduceAdd,reduceMul,reduceLeDiff,reduceEqDiff,bj,hlen,UC,UD,t0,t5,t6,ik,l2,ox.n.aS,f3,ij,ln,c5,hz,UF])
   rw[bad hij]
 ·have f3:decide ((j:Int)<x.ev.names.length)=false:=Uh Om;have f4:j=x.ev.names.length:=Om
  rw[f4,Vr]at hij;rw[hij,List.all_nil,VS]at hi;refine Rs (A8 t0 t5 t6 @ik @l2 ox.n.aS @f3 e5) ?_;exact⟨_,Om,k+1,Om,rfl,hi,rfl⟩
end
theorem rK{α:Type}{row:α->List AV}{Q:α->Prop}:∀{cs:List (List AV)},(∀c∈cs,∃x,c=row x/\Q x)->∃L:List α,cs=L.map row/\∀x∈L,Q x
 |[],_=>⟨[],rfl,λ_ h=>by cases h⟩
 |c::cs,h=>by
  obtain⟨x,rfl,hx⟩:=h c (U4 ..);obtain⟨L,rfl,hL⟩:=rK (cs:=cs) λc hc=>h c (UL _ hc)
  exact⟨x::L,rfl,λy hy=>(UR.1 hy).elim (λe=>e▸hx) (hL y)⟩
def jf{n}(h:n<=maxLen):n<2^63:=by unfold maxLen at h;omega
def zo{h k a}(x:TY h (.int k) a):∃z,a=.int k z/\(Lit.int k z).wf=true:=by rw[TY]at x;exact x
def rE{h a}(x:TY h .str a):∃s:By,a=.str s/\s.length<=maxLen:=by rw[TY]at x;exact x
def Ef{h r a}(x:TY h (.sl r) a):∃cs:List (List AV),aB h a r.length cs/\cs.length<=maxLen/\∀c∈cs,gW h r c:=by rw[TY]at x;exact x
def rD{h l}(x:gW h [] l):l=[]:=by rw[gW]at x;exact x
def hC{h t ts l}(x:gW h (t::ts) l):∃a l',l=a::l'/\TY h t a/\gW h ts l':=by rw[gW]at x;exact x
def zm{h l}(x:ql h [] l):l=[]:=by rw[ql]at x;exact x
def qt{h t ts l}(x:ql h (t::ts) l):∃a l',l=a::l'/\E1 h t a/\ql h ts l':=by rw[ql]at x;exact x
def BO{h a}(x:E1 h (.one .str) a):∃s:By,a=.str s/\s.length<=maxLen:=rE (h:=h) x
def BP{h:af}{a:AV}(x:TY h (.sl [.str]) a):∃L:List (By),aB h a 1 (L.map al)/\L.length<=maxLen/\∀s∈L,s.length<=maxLen:=by
 obtain⟨cs,hs,hl,hc⟩:=Ef x;obtain⟨L,rfl,hL⟩:=rK (row:=al) (Q:=λs=>s.length<=maxLen) λc S6=>by
  obtain⟨_,_,rfl,h1,x⟩:=hC (hc c S6);obtain rfl:=rD x;obtain⟨s,rfl,hs⟩:=rE h1;exact⟨s,rfl,hs⟩
 exact⟨L,hs,by simpa using hl,hL⟩
def BQ{h:af}{a:AV}(x:TY h (.sl [.int .i64]) a):∃L:List Int,aB h a 1 (L.map aE)/\L.length<=maxLen/\∀z∈L,(Lit.int .i64 z).wf=true:=by
 obtain⟨cs,hs,hl,hc⟩:=Ef x;obtain⟨L,rfl,hL⟩:=rK (row:=aE) (Q:=λz=>(Lit.int .i64 z).wf=true) λc S6=>by
  obtain⟨_,_,rfl,h1,x⟩:=hC (hc c S6);obtain rfl:=rD x;obtain⟨s,rfl,hs⟩:=zo h1;exact⟨s,rfl,hs⟩
 exact⟨L,hs,by simpa using hl,hL⟩
def C8:List CT:=[.int .i64,.str,.sl [.str],.sl [.int .i64],.str]
structure Hj(x:EV):Prop where
 n:x.ev.names.length<2^63
 v:x.ev.ba.length<2^63
 nn:∀n∈x.ev.names,n.length<2^63
 i:(Lit.int .i64 x.ev.num).wf=true
 k:x.ev.kind.length<2^63
 t:x.ev.text.length<2^63
 iv:∀z∈x.ev.ba,(Lit.int .i64 z).wf=true
def Ff{h c}(x:gW h C8 c):∃y:EV,c=y.row/\aZ h y/\Hj y:=by
 obtain⟨_,_,rfl,h1,x⟩:=hC x;obtain⟨_,_,rfl,h2,x⟩:=hC x;obtain⟨sn,_,rfl,h3,x⟩:=hC x;obtain⟨sv,_,rfl,h4,x⟩:=hC x;obtain⟨_,_,rfl,h5,x⟩:=hC x;obtain rfl:=rD x;obtain⟨n,rfl,hn⟩:=zo h1;obtain⟨k,rfl,hk⟩:=rE h2;obtain⟨N,hN,hNl,hNs⟩:=BP h3;obtain⟨W,hW,hWl,hWs⟩:=BQ h4;obtain⟨t,rfl,ht⟩:=rE h5;exact⟨⟨⟨n,k,N,W,t⟩,sn,sv⟩,rfl,⟨hN,hW⟩,⟨jf hNl,jf hWl,λs hs=>jf (hNs s hs),hn,jf hk,jf ht,hWs⟩⟩
def Fg{h a}(x:E1 h (.agg C8) a):∃y:EV,a=.agg y.row/\aZ h y/\Hj y:=by
 obtain⟨l,rfl,x⟩:=x;obtain⟨y,rfl,o⟩:=Ff x;exact⟨y,rfl,o⟩
def zw{L n}(h:k8 (L.map EV.ev) n=true)(hn:n<=1000):D8 L/\Ob L/\L.length<=1000/\∀x∈L,ve x.ev=true:=by
 rw[k8,UH,UT,Uv]at h;have ha:∀x∈L,ve x.ev=true:=λx hx=>UJ.1 h.2 _ (UP hx)
 have key:∀x∈L,x.ev.names.length<=6/\x.ev.ba.length<=8/\∀n∈x.ev.names,n.length<=40:=λx hx=>by
  have:=ha x hx;simp only[ve,UH,UT,UJ]at this;exact⟨this.1.1.1.2,this.1.1.2,this.2⟩
 refine⟨⟨Om,λx hx=>?_⟩,⟨λx hx n hn=>?_⟩,Om,ha⟩
 ·have:=key x hx;omega
 ·have:=(key x hx).2.2 n hn;omega
section
variable {P:Program}(T:eF P) {h:af}
include T
def r19(c:Bool)(e:Int):ak P 19 [.bool c,.i e] h (λv _=>v=.i (bB c e)):=by
 refine .eQ 8 T.mix T.c19 ?_;intro ts hlen t0 t1;unfold fn19 gA;refine Rs (A2 t0 t1) ?_;refine WF.ce T.c82 (r82 T _ _) λg=>?_
 exact Rs (A2 t0 t1) Tv
def r21{s l}(hs:aB h s 1 (l.map aE))(hl:l.length<2^40):ak P 21 [s] h (λv _=>v=.i (aO l)):=by
 refine .jP 5 T.mix T.c21 ?_;intro ts hlen t0;unfold fn21 gA;refine Rs t0 ?_;refine WF.ce T.c83 (r83 T hs Om) λg=>?_
 exact Rs t0 Tv
def MK(h:af):AV->af->Prop:=λv k=>Ext h k/\v=.bool true
end
section
variable {P:Program}(T:eF P) {h:af}
include T
def r32{L M:List EV}{s t:AV}(o:fB h L s)(p:fB h M t)(e:L.map EV.ev=M.map EV.ev)(hl:L.length<2^40)(hn:∀x∈L,x.ev.names.length<2^40/\x.ev.ba.length<2^40):ak P 32 [s,t] h (λv _=>v=.bool true):=by
 have Rc:L.length=M.length:=by have:=UM List.length e;simpa using this
 refine .eQ 82 T.mix T.c32 ?_;intro ts hlen t0 t1;unfold fn32;have q0:decide ((L.length:Int)≠M.length)=false:=Uh Om;refine Rs (A5 t0 t1 o.sl.aS p.sl.aS q0) ?_;refine WL.inv T.mix (λm ts h'=>∃k:Nat,k<=L.length/\m=L.length-k/\Ext h h'/\ts.length=82/\slot ts 0=s/\slot ts 1=t/\slot ts 5=.int .i64 k) L.length
  ⟨0,Om,rfl,Ext.refl h,Sn,(Sq t0),(Sq t1),iR⟩ ?_
 rintro _ ts W ⟨k,hk,rfl,eW,hlen,t0,t1,t5⟩;have o:=o.ext eW;have p:=p.ext eW;by_cases hlt:k<L.length
 ·have Qx:k<M.length:=Om
  have e3:=gh hlt;have e5:=wrapN (n:=k) Om;have ix:=o.sl.fx (kk:=.i64) hlt;have iy:=p.sl.fx (kk:=.i64) Qx;obtain⟨x,hx⟩:∃x,x=L[k]:=⟨_,rfl⟩;obtain⟨y,hy⟩:∃y,y=M[k]:=⟨_,rfl⟩;have exy:y.ev=x.ev:=by
   have h1:(L.map EV.ev)[k]? =some x.ev:=by rw[Vw,Uj hlt,hx];rfl
   have h2:(M.map EV.ev)[k]? =some y.ev:=by rw[Vw,Uj Qx,hy];rfl
   rw[e,h2]at h1;exact Vc h1
  have PI:x∈L:=by rw[hx];exact UB _
  have hym:y∈M:=by rw[hy];exact UB _
  have ox:=o.all x PI;have oy:=p.all y hym;have oyn:=oy.n;have oyv:=oy.v;rw[exy]at oyn oyv;have a0:∀{kk:af},Ext W kk->aq none (rk s 5 k 0) (λb=>kk[b]?)=some (.int .i64 x.ev.num,.ar):=λ{kk} e=>o.sl.uR hlt (by rw[<-hx];rfl) e
  have a1:∀{kk:af},Ext W kk->aq none (rk s 5 k 1) (λb=>kk[b]?)=some (.str x.ev.kind,.ar):=λ{kk} e=>o.sl.uR hlt (by rw[<-hx];rfl) e
  have a2:∀{kk:af},Ext W kk->aq none (rk s 5 k 2) (λb=>kk[b]?)=some (x.sn,.ar):=λ{kk} e=>o.sl.uR hlt (by rw[<-hx];rfl) e
  have a3:∀{kk:af},Ext W kk->aq none (rk s 5 k 3) (λb=>kk[b]?)=some (x.sv,.ar):=λ{kk} e=>o.sl.uR hlt (by rw[<-hx];rfl) e
  have a4:∀{kk:af},Ext W kk->aq none (rk s 5 k 4) (λb=>kk[b]?)=some (.str x.ev.text,.ar):=λ{kk} e=>o.sl.uR hlt (by rw[<-hx];rfl) e
  have b0:∀{kk:af},Ext W kk->aq none (rk t 5 k 0) (λb=>kk[b]?)=some (.int .i64 x.ev.num,.ar):=λ{kk} e=>by rw[<-exy];exact p.sl.uR Qx (by rw[<-hy];rfl) e
  have b1:∀{kk:af},Ext W kk->aq none (rk t 5 k 1) (λb=>kk[b]?)=some (.str x.ev.kind,.ar):=λ{kk} e=>by rw[<-exy];exact p.sl.uR Qx (by rw[<-hy];rfl) e
  have b2:∀{kk:af},Ext W kk->aq none (rk t 5 k 2) (λb=>kk[b]?)=some (y.sn,.ar):=λ{kk} e=>p.sl.uR Qx (by rw[<-hy];rfl) e
  have b3:∀{kk:af},Ext W kk->aq none (rk t 5 k 3) (λb=>kk[b]?)=some (y.sv,.ar):=λ{kk} e=>p.sl.uR Qx (by rw[<-hy];rfl) e
  have b4:∀{kk:af},Ext W kk->aq none (rk t 5 k 4) (λb=>kk[b]?)=some (.str x.ev.text,.ar):=λ{kk} e=>by rw[<-exy];exact p.sl.uR Qx (by rw[<-hy];rfl) e
  have n0:decide (x.ev.num≠x.ev.num)=false:=Si
  have n1:decide (x.ev.kind≠x.ev.kind)=false:=Si
  have n4:decide (x.ev.text≠x.ev.text)=false:=Si
  refine Rs (Kx t0 t1 t5 e3 o.sl.aS ix @iy @a0 @b0 @a1 @b1 @a2 @b2 @n0 @n1) ?_;refine WF.ce T.c25 (r25 T ox.n oyn (hn x PI).1 (hn x PI).1) λg1=>?_
  refine Rs (A9 t0 t1 t5 ix @iy @a3 @b3 @US @UA) ?_;refine WF.ce T.c62 (r62 T (ox.v.ext Xx) (oyv.ext Xx) (hn x PI).2 (hn x PI).2) λg2=>?_
  refine Rs (y9 t0 t1 t5 ix @iy @a4 @b4 @n4 @US @UA e5) ?_;exact⟨_,Om,k+1,Om,rfl,eW.trans Xx,rfl⟩
 ·have e3:=gG hlt;refine Rs (A5 t0 t1 t5 e3 o.sl.aS) ?_;exact⟨eW,trivial⟩
end
def lT(c x:UInt8)(ps:List (By)):List (By):=if x=c then ps++[[]]else ps.dropLast++[ps.getLastD []++[x]]
theorem nO{c x:UInt8}:∀{s:By},aA c (s++[x])=lT c x (aA c s)
 |[]=>by
  by_cases h:x=c
  ·simp[aA,lT,h]
  ·simp[aA,lT,h]
 |y::r=>by
  have ih:=nO (c:=c) (x:=x) (s:=r);have hne:=eo (c:=c) (s:=r);rw[Vp,aA,ih,aA];by_cases h:y=c
  ·rw[Ut h,Ut h];unfold lT;by_cases hx:x=c
   ·rw[Ut hx,Ut hx];rfl
   ·rw[Ur hx,Ur hx,List.dropLast_cons_of_ne_nil hne,List.getLastD_cons];cases hs:aA c r with
    |nil=>exact absurd hs hne
    |cons p ps=>simp[Vu]
  ·rw[Ur h,Ur h];cases hs:aA c r with
   |nil=>exact absurd hs hne
   |cons p ps=>
    unfold lT;by_cases hx:x=c
    ·rw[Ut hx,Ut hx];rfl
    ·rw[Ur hx,Ur hx];cases ps with
     |nil=>simp
     |cons q qs=>simp[Vu]
def yh{c x:UInt8}{ps:List (By)}(hx:x≠c)(hne:ps≠[]):lT c x ps=ps.set (ps.length-1) (ps.getD (ps.length-1) []++[x]):=by
 unfold lT;rw[Ur hx];obtain⟨q,l,rfl⟩:∃q l,ps=q++[l]:=⟨ps.dropLast,ps.getLast hne,(List.dropLast_concat_getLast hne).symm⟩;simp[Vu,U0]
def rm{n k m:Nat}{kk k2:IntKind}(h1:k<=m)(h2:m<=n):gx (some (.int kk (k:Int))) (some (.int k2 (m:Int))) n=some (k,m):=by
 simp only[gx,EB,CW];rw[Ut ⟨Om,Om,Om⟩];simp
def Ei{s:By}{k:Nat}{kk k2:IntKind}(hk:k<s.length):ou (.str s) (some (.int kk (k:Int))) (some (.int k2 ((k+1:Nat):Int)))=some (.str [s[k]]):=by
 simp only[ou,rm (show k<=k+1 by omega) (show k+1<=s.length by omega)];rw[show k+1-k=1 by omega,VC hk];rfl
section
variable {P:Program}(T:eF P) {h:af}
include T
set_option maxRecDepth 10000 in
def r105(s:By)(c:UInt8)(hs:s.length<=2^40):ak P 105 [.str s,.int .u8 c.toNat] h (λv h'=>Fr h.length h' v 1 ((aA c s).map al)):=by
 refine .eQ 40 T.mix T.c105 ?_;intro ts hlen t0 t1;unfold fn105;refine Rs (A2 t0 t1) ?_;have hF0:=Fr.push (N:=h.length) (h:=h) (es:=1) (Uq _) (([[]] :List (By)).map al) (by simp[al]);have hlenB:∀k,(aA c (s.take k)).length<=s.length+1:=λk=>by
  rw[jr];have:=WN (a:=c) (l:=s.take k);exact HP
 refine WL.inv T.mix (λn ts' h'=>∃(k:Nat) (sv:AV) (g':af),k<=s.length/\n=s.length-k/\h' =h++g'/\Fr h.length h' sv 1 ((aA c (s.take k)).map al)/\ts'.length=40/\slot ts' 0=.str s/\slot ts' 1=.int .u8 c.toNat/\slot ts' 5=sv/\slot ts' 6=.int .i64 k) s.length
  ⟨0,_,_,Om,rfl,rfl,hF0,(Sq t0),(Sq t0),(Sq t1),iR,iR⟩ ?_
 rintro _ ts' _ ⟨k,sv,g',hk,rfl,rfl,hF,ON,u0,u1,u5,u6⟩;clear hlen t0 t1 hF0;have hlen:=ON;have hlB:=hlenB k;have hne:=eo (c:=c) (s:=s.take k);by_cases hlt:k<s.length
 ·have e3:(k:Int)<s.length:=Om
  have Rv:aA c (s.take (k+1))=lT c s[k] (aA c (s.take k)):=by rw[db hlt,nO]
  by_cases hc:s[k]=c
  ·have dc:decide ((s[k].toNat:Int)=c.toNat)=true:=Uk (by rw[hc])
   repeat (first|simp (config:={maxSteps:=1000000}) only[aL,aR,bd,bf,reduceAdd,reduceMul,reduceLeDiff,reduceEqDiff,bj,hlen,UC,UD,u0,u1,u5,u6,e3,US,cA hlt,dc]|simp (config:={maxSteps:=1000000}) (disch:=first|(simp only[Ud,Ui,Ul]<;>omega)|rfl|omega|fail) only[dZ,aL,aR,bd,bf,reduceAdd,reduceMul,reduceLeDiff,reduceEqDiff,bj,hlen,UC,UD,u0,u1,u5,u6,e3,US,cA hlt,dc])
   refine WR.gj (h0:=h) (cs:=(aA c (s.take k)).map al) (ys:=[al []]) (hF.app _) (Fr.push (N:=0) (UK _) [al []] (by simp[al])).aM De Si (by simp;omega) Xx ?_;intro g2 hl2 Ua _;have er:(aA c (s.take k)).map al++[al []]=(aA c (s.take (k+1))).map al:=by
    rw[Rv,lT,Ut hc,Up];rfl
   rw[er]at Ua ⊢;exact Nb
  ·have dc:decide ((s[k].toNat:Int)=c.toNat)=false:=Uh λe=>hc (V9.1 Om)
   have QM:0<(aA c (s.take k)).length:=VU.2 hne;have hi:(aA c (s.take k)).length-1<(aA c (s.take k)).length:=Om
   have w1:IntKind.i64.wrap (((aA c (s.take k)).length:Int)-1)=(((aA c (s.take k)).length-1:Nat):Int):=by rw[aH Om Om];omega
   have ix:=hF.aM.fx (kk:=.i64) hi;have gl:(aA c (s.take k)).getD ((aA c (s.take k)).length-1) []=(aA c (s.take k))[(aA c (s.take k)).length-1]:=by rw[UQ,Uj hi];rfl
   rw[yh hc hne,gl]at Rv;have hwl:(aA c (s.take k))[(aA c (s.take k)).length-1].length<=s.length:=by
    have h1:=iX _ (UB hi);exact HP
   have ld:=λ{kk:af}(e:Ext (h++g') kk)=>hF.aM.kK hi (x:=.str (aA c (s.take k))[(aA c (s.take k)).length-1]) rfl e
   obtain⟨j,hj⟩:∃j,j=(aA c (s.take k)).length-1:=⟨_,rfl⟩
   repeat (first|simp (config:={maxSteps:=1000000}) only[aL,aR,bd,bf,reduceAdd,reduceMul,reduceLeDiff,reduceEqDiff,bj,hlen,UC,UD,u0,u1,u5,u6,e3,US,cA hlt,dc,hF.aM.aS,w1,ix,ld,wrapN (show k+1<2^63 by omega),Ei hlt,dL (show(aA c (s.take k))[(aA c (s.take k)).length-1].length+[s[k]].length<2^62 by simp;omega)]|simp (config:={maxSteps:=1000000}) (disch:=first|(simp only[Ud,Ui,Ul]<;>omega)|rfl|omega|fail) only[dZ,aL,aR,bd,bf,reduceAdd,reduceMul,reduceLeDiff,reduceEqDiff,bj,hlen,UC,UD,u0,u1,u5,u6,e3,US,cA hlt,dc,hF.aM.aS,w1,ix,ld,wrapN (show k+1<2^63 by omega),Ei hlt,dL (show(aA c (s.take k))[(aA c (s.take k)).length-1].length+[s[k]].length<2^62 by simp;omega)])
   refine WR.tu (h0:=h) (off:=0) (x':=(aA c (s.take k))[(aA c (s.take k)).length-1]++[s[k]]) hF hi De rfl (by simp[al]) ?_;intro g2 hl2 Ua _;rw[<-Rv]at Ua;exact Nb
 ·have e3:¬(k:Int)<s.length:=Om
  have ek:k=s.length:=Om
  rw[ek,UU]at hF;refine Rs (A6 @u0 @u1 @u5 @u6 e3 @Va) ?_;exact hF
set_option maxRecDepth 10000 in
def r191(s:By)(hs:s.length<=2^40):ak P 191 [.str s] h (λv _=>v=.bool (s.all cj&&decide (s.length=7))):=by
 refine .jP 23 T.mix T.c191 ?_;intro ts hlen t0;unfold fn191 gA;refine Rs t0 ?_;refine WL.inv T.mix (λn ts' h'=>∃k:Nat,k<=s.length/\n=s.length-k/\h' =h/\(s.take k).all cj=true/\ts'.length=23/\slot ts' 0=.str s/\slot ts' 3=.int .i64 k) s.length
  ⟨0,Om,rfl,rfl,rfl,(Sq t0),(Sq t0),iR⟩ ?_
 rintro _ ts' _ ⟨k,hk,rfl,rfl,hd,ON,u0,u3⟩;clear hlen t0;have hlen:=ON;by_cases hlt:k<s.length
 ·have e3:=gh hlt;have bad:cj s[k]=false->(false:Bool)=(s.all cj&&decide (s.length=7)):=λhx=>by
   have:s.all cj=false:=by rw[List.all_eq_false];exact⟨s[k],UB hlt,by simp[hx]⟩
   rw[this];rfl
  by_cases a5:(s[k].toNat:Int)<48
  ·have d1:decide ((s[k].toNat:Int)<48)=true:=Uk a5
   repeat (first|simp (config:={maxSteps:=1000000}) only[aL,aR,bd,bf,reduceAdd,reduceMul,reduceLeDiff,reduceEqDiff,bj,hlen,UC,UD,u0,u3,e3,cA hlt,d1]|simp (config:={maxSteps:=1000000}) (disch:=first|(simp only[Ud,Ui,Ul]<;>omega)|rfl|omega|fail) only[dZ,aL,aR,bd,bf,reduceAdd,reduceMul,reduceLeDiff,reduceEqDiff,bj,hlen,UC,UD,u0,u3,e3,cA hlt,d1])
   exact H4
  have d1:decide ((s[k].toNat:Int)<48)=false:=Uh a5;by_cases a6:(57:Int)<(s[k].toNat:Int)
  ·have d2:decide ((57:Int)<(s[k].toNat:Int))=true:=Uk a6
   repeat (first|simp (config:={maxSteps:=1000000}) only[aL,aR,bd,bf,reduceAdd,reduceMul,reduceLeDiff,reduceEqDiff,bj,hlen,UC,UD,u0,u3,e3,cA hlt,d1,d2]|simp (config:={maxSteps:=1000000}) (disch:=first|(simp only[Ud,Ui,Ul]<;>omega)|rfl|omega|fail) only[dZ,aL,aR,bd,bf,reduceAdd,reduceMul,reduceLeDiff,reduceEqDiff,bj,hlen,UC,UD,u0,u3,e3,cA hlt,d1,d2])
   exact H4
  have d2:decide ((57:Int)<(s[k].toNat:Int))=false:=Uh a6
  repeat (first|simp (config:={maxSteps:=1000000}) only[aL,aR,bd,bf,reduceAdd,reduceMul,reduceLeDiff,reduceEqDiff,bj,hlen,UC,UD,u0,u3,e3,cA hlt,d1,d2,wrapN (show k+1<2^63 by omega)]|simp (config:={maxSteps:=1000000}) (disch:=first|(simp only[Ud,Ui,Ul]<;>omega)|rfl|omega|fail) only[dZ,aL,aR,bd,bf,reduceAdd,reduceMul,reduceLeDiff,reduceEqDiff,bj,hlen,UC,UD,u0,u3,e3,cA hlt,d1,d2,wrapN (show k+1<2^63 by omega)])
  refine⟨s.length-(k+1),Om,k+1,Om,rfl,?_,rfl⟩;rw[db hlt,Wj,hd];simp[dx.2 (show 48<=s[k].toNat/\s[k].toNat<=57 by omega)]
 ·have e3:=gG hlt;have ek:k=s.length:=Om
  rw[ek,UU]at hd;have e7:decide ((s.length:Int)=7)=decide (s.length=7):=by congr 1;exact propext Om
  refine Rs (A4 @u0 @u3 e3 e7) ?_;rw[hd];rfl
set_option maxRecDepth 10000 in
def Jq{s:By}{ts:TS}{W:af}(hlen:ts.length=49)(t0:slot ts 0=.str s)(h9:s.length<=9)(he:Ext h W)(hh:bQ s=s.all cj):
  WC P cB ((fn192).body.dr 2) [] ts W (FQ (fn192).rs λv h'=>Ext h h'/\v=.dt [.int .i64 (cT s),.bool (bQ s)]):=by
 unfold fn192 gA;simp only[an.j,an.s,an.r,an.dr,an.tl];refine Rs t0 ?_;refine WL.inv T.mix (λn ts' h'=>∃k:Nat,k<=s.length/\n=s.length-k/\h' =W/\(s.take k).all cj=true/\ts'.length=49/\slot ts' 0=.str s/\slot ts' 4=.int .i64 (gI (s.take k))/\slot ts' 5=.int .i64 k) s.length
  ⟨0,Om,rfl,rfl,rfl,(Sq t0),(Sq t0),iR,iR⟩ ?_
 rintro _ ts' _ ⟨k,hk,rfl,rfl,hd,ON,u0,u4,u5⟩;clear hlen t0;have hlen:=ON;by_cases hlt:k<s.length
 ·have e3:=gh hlt;have hb:=MA h9 hk hd;have bad:cj s[k]=false->AV.dt [.int .i64 0,.bool false]=AV.dt [.int .i64 (cT s),.bool (bQ s)]:=λhx=>by
   have hf:bQ s=false:=by rw[hh,List.all_eq_false];exact⟨s[k],UB hlt,by simp[hx]⟩
   rw[cT,hf];rfl
  by_cases a5:(s[k].toNat:Int)<48
  ·have d1:decide ((s[k].toNat:Int)<48)=true:=Uk a5
   repeat (first|simp (config:={maxSteps:=1000000}) only[aL,aR,bd,bf,reduceAdd,reduceMul,reduceLeDiff,reduceEqDiff,bj,hlen,UC,UD,u0,u4,u5,e3,cA hlt,d1]|simp (config:={maxSteps:=1000000}) (disch:=first|(simp only[Ud,Ui,Ul]<;>omega)|rfl|omega|fail) only[dZ,aL,aR,bd,bf,reduceAdd,reduceMul,reduceLeDiff,reduceEqDiff,bj,hlen,UC,UD,u0,u4,u5,e3,cA hlt,d1])
   exact HS
  have d1:decide ((s[k].toNat:Int)<48)=false:=Uh a5;by_cases a6:(57:Int)<(s[k].toNat:Int)
  ·have d2:decide ((57:Int)<(s[k].toNat:Int))=true:=Uk a6
   repeat (first|simp (config:={maxSteps:=1000000}) only[aL,aR,bd,bf,reduceAdd,reduceMul,reduceLeDiff,reduceEqDiff,bj,hlen,UC,UD,u0,u4,u5,e3,cA hlt,d1,d2]|simp (config:={maxSteps:=1000000}) (disch:=first|(simp only[Ud,Ui,Ul]<;>omega)|rfl|omega|fail) only[dZ,aL,aR,bd,bf,reduceAdd,reduceMul,reduceLeDiff,reduceEqDiff,bj,hlen,UC,UD,u0,u4,u5,e3,cA hlt,d1,d2])
   exact HS
  have d2:decide ((57:Int)<(s[k].toNat:Int))=false:=Uh a6;have w1:IntKind.i64.wrap (10*gI (s.take k))=10*gI (s.take k):=aH Om Om;have w2:IntKind.u8.wrap ((s[k].toNat:Int)-48)=(s[k].toNat:Int)-48:=zf Om Om;have w3:IntKind.i64.wrap ((s[k].toNat:Int)-48)=(s[k].toNat:Int)-48:=aH Om Om;have w4:IntKind.i64.wrap (10*gI (s.take k)+((s[k].toNat:Int)-48))=gI (s.take (k+1)):=by
   rw[db hlt,uz];exact aH Om Om
  repeat (first|simp (config:={maxSteps:=1000000}) only[aL,aR,bd,bf,reduceAdd,reduceMul,reduceLeDiff,reduceEqDiff,bj,hlen,UC,UD,u0,u4,u5,e3,d1,d2,cA hlt,w1,w2,w3,w4,wrapN (show k+1<2^63 by omega)]|simp (config:={maxSteps:=1000000}) (disch:=first|(simp only[Ud,Ui,Ul]<;>omega)|rfl|omega|fail) only[dZ,aL,aR,bd,bf,reduceAdd,reduceMul,reduceLeDiff,reduceEqDiff,bj,hlen,UC,UD,u0,u4,u5,e3,d1,d2,cA hlt,w1,w2,w3,w4,wrapN (show k+1<2^63 by omega)])
  refine⟨s.length-(k+1),Om,k+1,Om,rfl,?_,rfl,rfl⟩;rw[db hlt,Wj,hd];simp[dx.2 (show 48<=s[k].toNat/\s[k].toNat<=57 by omega)]
 ·have e3:=gG hlt;have ek:k=s.length:=Om
  rw[ek,UU]at hd u4;refine Rs (A4 @u0 @u4 @u5 e3) ?_;rw[cT,hh,hd];exact⟨he,rfl⟩
set_option maxRecDepth 10000 in
def r192(s:By):ak P 192 [.str s] h (λv _=>v=.dt [.int .i64 (cT s),.bool (bQ s)]):=by
 refine .of T.mix T.c192 ?_;obtain⟨ts,Ol⟩:∃ts,ts=aQ 49 [.str s]:=⟨_,rfl⟩;have hlen:ts.length=49:=by rw[Ol];rfl
 have t0:slot ts 0=.str s:=by rw[Ol];rfl
 obtain⟨R,hR⟩:∃R,R=(fn192).body.dr 2:=⟨_,rfl⟩;have hbody:(fn192).body=.seq (fn192).body.hd (.seq ((fn192).body.dr 1).hd R):=by rw[hR];rfl
 obtain⟨rs,hrs⟩:∃rs,rs=(fn192).rs:=⟨_,rfl⟩;show WC P cB (fn192).body [] (aQ 49 [.str s]) h (FQ (fn192).rs _);rw[<-Ol,hbody,<-hrs];clear Ol;unfold fn192 gA;simp only[an.j,an.s,an.r,an.dr,an.tl,an.hd];have bad:bQ s=false->AV.dt [.int .i64 0,.bool false]=AV.dt [.int .i64 (cT s),.bool (bQ s)]:=λhb=>by rw[cT,hb];rfl
 have TI:rs=[(2,none),(3,none)]:=hrs;have fin:∀{ts':TS}{k:af},ts'.length=49->slot ts' 0=.str s->s.length<=9->bQ s=s.all cj->Ext h k->WC P cB R [] ts' k (FQ rs λv h'=>Ext h h'/\v=.dt [.int .i64 (cT s),.bool (bQ s)]):=by
  intro ts' k hl u0 h9 hh e;rw[hR,hrs];exact Jq T hl u0 h9 e hh
 by_cases h0:s.length=0
 ·have d0:decide ((s.length:Int)=0)=true:=Uk Om;rw[TI];refine Rs (A2 t0 @d0) ?_;exact bad (by simp[bQ,h0])
 have d0:decide ((s.length:Int)=0)=false:=Uh Om;by_cases h9:9<s.length
 ·have d9:decide ((9:Int)<s.length)=true:=Uk Om;rw[TI];refine Rs (A3 t0 @d0 @d9) ?_;exact bad (by simp[bQ];intro _ _;omega)
 have d9:decide ((9:Int)<s.length)=false:=Uh Om;obtain⟨c,r,rfl⟩:∃c r,s=c::r:=by cases s with|nil=>simp at h0|cons c r=>exact⟨c,r,rfl⟩
 have hcn:=UInt8.toNat_lt c;have SW:(c::r).length=r.length+1:=rfl;by_cases h1:0<r.length
 ·have d1:decide ((1:Int)<((c::r).length:Int))=true:=Uk Om;by_cases h2:c=48
  ·have d2:decide ((c.toNat:Int)=48)=true:=by rw[h2];rfl
   rw[TI];refine Rs (A6 t0 @d0 @d9 @d1 @pK @d2) ?_;have q1:decide (1<(c::r).length)=true:=Uk Om;have q2:decide ((c::r).head? =some 48)=true:=by rw[h2];rfl
   exact bad (by simp only[bQ,q1,q2,Bool.and_true,UA,WU,We])
  ·have d2:decide ((c.toNat:Int)=48)=false:=Uh λe=>h2 (V9.1 (by simpa using (by omega:c.toNat=48)))
   refine Rs (A6 t0 @d0 @d9 @d1 @pK @d2) ?_;exact fin (Sq t0) (Sq t0) Om (by simp[bQ,h2];intro _;omega) Xx
 ·have d1:decide ((1:Int)<((c::r).length:Int))=false:=Uh Om;refine Rs (A4 t0 @d0 @d9 @d1) ?_;exact fin (Sq t0) (Sq t0) Om (by simp[bQ,h1];intro _;omega) Xx
end
def wo{ws}:(aW ws true).2.2=true:=by
 cases ws with
 |nil=>rfl
 |cons w r=>rw[aW];split<;>rfl
theorem oQ:∀{n ws},(bI n ws true).2.2=true
 | 0,_=>rfl
 |n+1,ws=>by rw[bI,wo];exact oQ
theorem lZ:∀{n ws},(cP n ws true).2.2=true
 | 0,_=>rfl
 |n+1,ws=>by rw[cP,wo,W6];exact lZ
theorem oR:∀{n ws},n<=ws.length->(∀x∈ws.take n,x≠[])->bI n ws false=(ws.take n,ws.drop n,false)
 | 0,_,_,_=>rfl
 |n+1,[],h,_=>by simp at h
 |n+1,w::r,h,hx=>by
  have hw:w≠[]:=hx w Si;have e:aW (w::r) false=(w,r,false):=by rw[aW,Ur hw]
  rw[bI,e,oR (by simpa using h) (λx hm=>hx x (by simp[hm]))];rfl
theorem qq:∀{n ws},(ws.length<n\/[]∈ws.take n)->(bI n ws false).2.2=true
 | 0,ws,h=>by simp at h
 |n+1,[],_=>by rw[bI];exact oQ
 |n+1,w::r,h=>by
  rw[bI];by_cases hw:w=[]
  ·rw[show aW (w::r) false=([],[],true)from Ut hw];exact oQ
  ·rw[show aW (w::r) false=(w,r,false)from Ur hw];refine qq (n:=n) (ws:=r) ?_;simp only[Ui,VY,UR]at h;rcases h with h|h|h
   ·exact .inl Om
   ·exact absurd h.symm hw
   ·exact .inr h
def GK{x}(h:bQ x=true):x≠[]:=λe=>by rw[e]at h;cases h
theorem rQ:∀{n ws},n<=ws.length->(∀x∈ws.take n,bQ x=true)->cP n ws false=((ws.take n).map cT,ws.drop n,false)
 | 0,_,_,_=>rfl
 |n+1,[],h,_=>by simp at h
 |n+1,w::r,h,hx=>by
  have hd:=hx w Si;have e:aW (w::r) false=(w,r,false):=by rw[aW,Ur (GK hd)]
  rw[cP,e];show(cT w:: (cP n r (false || !bQ w)).1,(cP n r (false || !bQ w)).2)=_;rw[hd,show(false || !true)=false from rfl,rQ (by simpa using h) (λx hm=>hx x (by simp[hm]))];rfl
theorem tE:∀{n ws},(ws.length<n\/∃x∈ws.take n,bQ x=false)->(cP n ws false).2.2=true
 | 0,ws,h=>by simp at h
 |n+1,[],_=>by rw[cP];exact lZ
 |n+1,w::r,h=>by
  rw[cP];by_cases hw:w=[]
  ·rw[show aW (w::r) false=([],[],true)from Ut hw];exact lZ
  ·rw[show aW (w::r) false=(w,r,false)from Ur hw];cases hd:bQ w with
   |false=>
    exact lZ
   |true=>
    refine tE (n:=n) (ws:=r) ?_;simp only[Ui,VY,UR]at h;rcases h with h|⟨x,hx|hx,hf⟩
    ·exact .inl Om
    ·rw[hx,hd]at hf;cases hf
    ·exact .inr ⟨x,hx,hf⟩
def Jk{w d}(h:eC w=some d):w≠[]:=λe=>by rw[e]at h;cases h
def tt{w rest d}(hd:eC w=some d):bV (w::rest)=(⟨0,bw d,(bI (aC d).length rest false).1,(cP (a8 d) (bI (aC d).length rest false).2.1 (bI (aC d).length rest false).2.2).1,[]⟩,
  !(cP (a8 d) (bI (aC d).length rest false).2.1 (bI (aC d).length rest false).2.2).2.2&&decide ((cP (a8 d) (bI (aC d).length rest false).2.1 (bI (aC d).length rest false).2.2).2.1.length=0)):=by
 unfold bV;rw[show aW (w::rest) false=(w,rest,false)from Ur (Jk hd),hd]
def rN{w rest d}(hd:eC w=some d)(hl:rest.length=(aC d).length+a8 d)(hn:∀x∈rest,x≠[])(hv:∀x∈rest.drop (aC d).length,bQ x=true):
  bV (w::rest)=(⟨0,bw d,rest.take (aC d).length,(rest.drop (aC d).length).map cT,[]⟩,true):=by
 have el:(rest.drop (aC d).length).length=a8 d:=by rw[VB];omega
 rw[tt hd,oR Om (λx hx=>hn x (Vi hx))];have e:(rest.drop (aC d).length).take (a8 d)=rest.drop (aC d).length:=UO Om;have e2:(rest.drop (aC d).length).drop (a8 d)=[]:=Wa Om;have hN:cP (a8 d) (rest.drop (aC d).length) false=((rest.drop (aC d).length).map cT,[],false):=by
  rw[rQ (Nat.le_of_eq el.symm) (by rw[e];exact hv),e,e2]
 simp only[hN];rfl
def ja{w rest d}(hd:eC w=some d)(hb:rest.length≠(aC d).length+a8 d\/[]∈rest\/∃x∈rest.drop (aC d).length,bQ x=false):(bV (w::rest)).2=false:=by
 rw[tt hd];show(!(cP _ _ _).2.2&&_)=false;by_cases h1:rest.length<(aC d).length\/[]∈rest.take (aC d).length
 ·rw[qq h1,lZ];rfl
 have h1a:(aC d).length<=rest.length:=Om
 have h1b:[]∉rest.take (aC d).length:=λz=>h1 (.inr z)
 rw[oR h1a (λx hx e=>h1b (e▸hx))];show(!(cP (a8 d) (rest.drop _) false).2.2&&_)=false;have el:(rest.drop (aC d).length).length=rest.length-(aC d).length:=VB;by_cases h2:(rest.drop (aC d).length).length<a8 d\/∃x∈(rest.drop (aC d).length).take (a8 d),bQ x=false
 ·rw[tE h2];rfl
 have h2a:a8 d<=(rest.drop (aC d).length).length:=Om
 have h2b:∀x∈(rest.drop (aC d).length).take (a8 d),bQ x=true:=λx hx=>by
  cases hz:bQ x with
  |true=>rfl
  |false=>exact absurd (.inr ⟨x,hx,hz⟩) h2
 rw[rQ h2a h2b];show(!false&&decide (((rest.drop (aC d).length).drop (a8 d)).length=0))=false;rw[VB,el];have hne:rest.length≠(aC d).length+a8 d:=λhe=>by
  have e:(rest.drop (aC d).length).take (a8 d)=rest.drop (aC d).length:=UO Om;rw[e]at h2b;rcases hb with hb|hb|⟨x,hx,hf⟩
  ·exact hb he
  ·rw[<-U8 (aC d).length rest]at hb;rcases Um.1 hb with hb|hb
   ·exact h1b hb
   ·have:=h2b _ hb;cases this
  ·rw[h2b x hx]at hf;cases hf
 rw[Uh Om];rfl
def qD{w rest}(hd:eC w=none):(bV (w::rest)).2=false:=by
 unfold bV;have:eC (aW (w::rest) false).1=none:=by
  rw[aW];split
  ·rfl
  ·exact hd
 rw[this]
def tw(ws:List (By)):fp:=if(bV ws).2 then(bV ws).1 else dQ
structure BK(A:af)(kd:By)(sn sv:AV)(ns:List (By))(vs:List Int)(G:af):Prop where
 m:(A++G)[A.length]? =some (uw kd sn sv)
 n:Fr A.length (A++G) sn 1 (ns.map al)
 v:Fr A.length (A++G) sv 1 (vs.map aE)
 dn:∀i,sB sn=some i->A.length<i
 dv:∀i,sB sv=some i->A.length<i
 dd:∀i,sB sn=some i->sB sv≠some i
section
variable {A G:af}{kd:By}{sn sv:AV}{ns:List (By)}{vs:List Int}
theorem BK.app(o:BK A kd sn sv ns vs G)(g:af):BK A kd sn sv ns vs (G++g):=by
 have e:A++(G++g)=A++G++g:=(Uf _ _ _).symm;exact⟨by rw[e];exact(Ext.app g (Ext.refl _)).some o.m,by rw[e];exact o.n.app g,by rw[e];exact o.v.app g,o.dn,o.dv,o.dd⟩
def vg{X}{g:af}:(A++g).set A.length X=A++g.set 0 X:=by
 rw[U0 _ _ (Uq _),Vb]
def BK.FE(o:BK A kd sn sv ns vs G){Qn ns' g}(hF:Fr A.length (A++g) Qn 1 (ns'.map al))(hlo:∀i,sB Qn=some i->(A++G).length<i)
  (hle:(A++G).length<=(A++g).length) (hk:∀i,i<(A++G).length->sB sn≠some i->(A++g)[i]? =(A++G)[i]?):BK A kd Qn sv ns' vs (g.set 0 (uw kd Qn sv)):=by
 have l7:=(Ue.1 o.m).1;have ne:∀i,i≠A.length->((A++g).set A.length (uw kd Qn sv))[i]? =(A++g)[i]? :=λi hi=>U1 (λe=>hi e.symm)
 refine⟨?_,?_,?_,λi hi=>?_,o.dv,λi hi e=>?_⟩
 ·rw[<-vg,UY Om]
 ·exact z143
 ·rw[<-vg];exact o.v.ay λj hj=>by rw[ne j (by have:=o.dv j hj;omega),hk j (o.v.bL hj).2 (λe=>o.dd j e hj)]
 ·have:=hlo i hi;omega
 ·have h1:=hlo i hi;have h2:=(o.v.bL e).2;omega
def BK.FD(o:BK A kd sn sv ns vs G){Qm vs' g}(hF:Fr A.length (A++g) Qm 1 (vs'.map aE))(hlo:∀i,sB Qm=some i->(A++G).length<i)
  (hle:(A++G).length<=(A++g).length) (hk:∀i,i<(A++G).length->sB sv≠some i->(A++g)[i]? =(A++G)[i]?):BK A kd sn Qm ns vs' (g.set 0 (uw kd sn Qm)):=by
 have l7:=(Ue.1 o.m).1;have ne:∀i,i≠A.length->((A++g).set A.length (uw kd sn Qm))[i]? =(A++g)[i]? :=λi hi=>U1 (λe=>hi e.symm)
 refine⟨?_,?_,?_,o.dn,λi hi=>?_,λi hi e=>?_⟩
 ·rw[<-vg,UY Om]
 ·rw[<-vg];exact o.n.ay λj hj=>by rw[ne j (by have:=o.dn j hj;omega),hk j (o.n.bL hj).2 (λe=>o.dd j hj e)]
 ·exact z143
 ·have:=hlo i hi;omega
 ·have h1:=hlo i e;have h2:=(o.n.bL hi).2;omega
end
def sU{α:Type}{l:List α}{r k:Nat}(h:k<=r):(l.take k).take r=l.take k:=UO (by rw[U6];omega)
attribute [local irreducible] WQ
section
variable {P:Program}(T:eF P) {h:af}
include T
def r107(s:By)(hsl:s.length<=2^40):ak P 107 [.str s] h (λv k=>∃x:EV,x.ev=tw (aA 32 s)/\v=.dt [.agg x.row,.bool (bV (aA 32 s)).2]/\Fr h.length k x.sn 1 (x.ev.names.map al)/\Fr h.length k x.sv 1 (x.ev.ba.map aE)):=by
 refine .jP 81 T.mix T.c107 ?_;intro ts hlen t0;unfold fn107 gA;refine Rs t0 ?_;refine WF.res T.c105 (r105 T s 32 hsl) ?_;intro v g1 hv;obtain⟨w,rest,hws⟩:∃w rest,aA 32 s=w::rest:=by
  cases hq:aA 32 s with
  |nil=>exact absurd hq eo
  |cons w r=>exact⟨w,r,rfl⟩
 have hlB:(aA 32 s).length<=s.length+1:=by rw[jr];have:=WN (a:=(32:UInt8)) (l:=s);omega
 have hxl:∀x∈aA 32 s,x.length<=2^40:=λx hx=>by have:=iX x hx;omega
 rw[hws]at hv hlB hxl ⊢;have OI:=hv.aM;have ix:=OI.oB (kk:=.i64) Si;have ld:∀{k:af},Ext (h++[ai.cells fA true false]++g1) k->aq none (eO v 1 0) (λb=>k[b]?)=some (.str w,.ar):=λ{k} e=>OI.kK (i:=0) Si rfl e
 unfold fA at ld;have s2:=@zX h;have l2:=@zZ h;have sq:=@zY h;have bad:∀{k:af},(bV (w::rest)).2=false->Ext h k->(Ext h k/\∃x:EV,x.ev=tw (w::rest)/\AV.dt [.agg [.int .i64 0,.str [],.ah,.ah,.str []],.bool false]=.dt [.agg x.row,.bool (bV (w::rest)).2]/\Fr h.length k x.sn 1 (x.ev.names.map al)/\Fr h.length k x.sv 1 (x.ev.ba.map aE)):=
  λhe e=>⟨e,⟨dQ,.ah,.ah⟩,by rw[tw,he];rfl,by rw[he];rfl,.nil,.nil⟩
 refine Rs (A3 t0 ix @ld) ?_;refine WF.ce T.c101 (r101 T w) λg2=>?_
 unfold w9;cases hd:eC w with
 |none=>
  refine Rs (A5 t0 @UF @s2 @l2 @sq) ?_;exact(bad (qD hd) Xx).2
 |some d=>
 have h3:(aC d).length<=3/\a8 d<=3:=by cases d<;>decide
 have Po:(y5 d).length=(aC d).length:=by rw[y5,Uv]
 have w1:IntKind.i64.wrap (1+((aC d).length:Int))=1+((aC d).length:Int):=aH Om Om;have w2:IntKind.i64.wrap (1+((aC d).length:Int)+(a8 d:Int))=1+((aC d).length:Int)+(a8 d:Int):=aH Om Om;by_cases hl:rest.length=(aC d).length+a8 d
 case neg=>
  have d1:decide (((w::rest).length:Int)≠1+((aC d).length:Int)+(a8 d:Int))=true:=Uk (by rw[Ui];omega);refine Rs (uO t0 @UA @Po @w1 @w2 OI.aS @d1 @s2 @l2 @sq) ?_;exact(bad (ja hd (.inl hl)) Xx).2
 have w2:IntKind.i64.wrap (1+((aC d).length:Int)+(a8 d:Int))=((rest.length+1:Nat):Int):=by rw[aH Om Om];omega
 have d1:decide (((w::rest).length:Int)≠((rest.length+1:Nat):Int))=false:=Uh λz=>z (by rw[Ui])
 refine Rs (A9 t0 @UA @Po @w1 @w2 OI.aS @d1 ix @ld) ?_;obtain⟨A,hA⟩:∃A,A=h++[ai.cells [.int .i64 0,.str [],.ah,.ah,.str []] true false]++g1++g2++[ai.cells [AV.str (y5 d),.int .i64 (a8 d:Int),.bool true] true false]:=⟨_,rfl⟩;obtain⟨fb,S3⟩:∃fb,fb=(h++[ai.cells [.int .i64 0,.str [],.ah,.ah,.str []] true false]++g1++g2).length:=⟨_,rfl⟩;have eA:Ext (h++[ai.cells [.int .i64 0,.str [],.ah,.ah,.str []] true false]) A:=by rw[hA];exact Xx
 have eA1:Ext (h++[ai.cells [.int .i64 0,.str [],.ah,.ah,.str []] true false]++g1) A:=by rw[hA];exact Xx
 have eh:Ext h A:=by rw[hA];exact Xx
 have mf:A[fb]? =some (.cells [AV.str (y5 d),.int .i64 (a8 d:Int),.bool true] true false):=by rw[hA,S3];exact bO
 have hAh:h.length<A.length:=by rw[hA];simp only[Ud,Us];omega
 rw[<-hA,<-S3];clear hA S3 ld ix;have lf:∀{kk n a},Ext A kk->aq n (.ptr fb a) (λz=>kk[z]?)=dI n a (.cells [AV.str (y5 d),.int .i64 (a8 d:Int),.bool true] true false):=λ{_ _ _} e=>az (e.some mf)
 have s2A:=λ{k:af}(e:Ext A k)=>@s2 k (eA.trans e)
 have l2A:=λ{k:af}(e:Ext A k)=>@l2 k (eA.trans e)
 have sqA:=λ{k:af}(e:Ext A k)=>@sq k (eA.trans e)
 clear s2 l2 sq;obtain⟨r,hr⟩:∃r,r=(aC d).length:=⟨_,rfl⟩;rw[<-hr]at hl Po h3;refine WL.inv T.mix (λm ts h'=>∃(k:Nat) (sn sv:AV) (G:af),k<=rest.length/\m=rest.length-k/\h' =A++G/\BK A w sn sv ((rest.take k).take r) (((rest.take k).drop r).map cT) G/\(∀x∈rest.take k,x≠[])/\(∀x∈(rest.take k).drop r,bQ x=true)/\
   ts.length=81/\slot ts 2=.ptr h.length 0/\slot ts 4=v/\slot ts 5=.ptr fb 0/\slot ts 6=.int .i64 ((rest.length+1:Nat):Int)/\slot ts 7=.ptr A.length 0/\slot ts 8=.int .i64 ((k+1:Nat):Int)) rest.length
  ⟨0,.ah,.ah,[uw w .ah .ah],Om,rfl,rfl,⟨bO,by simp only[Wf,List.take_nil,Ww];exact .nil,by simp only[Wf,List.drop_nil,Ww];exact .nil,λi hi=>(by cases hi),λi hi=>(by cases hi),λi hi=>(by cases hi)⟩,(λx hx=>by simp at hx),(λx hx=>by simp at hx),(Sq t0),(Sq t0),(Sq t0),(Sq t0),(Sq t0),(Sq t0),iR⟩ ?_
 clear hlen t0;rintro _ ts _ ⟨k,sn,sv,G,hk,rfl,rfl,o,hne,QE,hlen,t2,t4,t5,t6,t7,t8⟩;by_cases hlt:k<rest.length
 ·have e3:decide (((k+1:Nat):Int)<((rest.length+1:Nat):Int))=true:=Uk Om;have hi:k+1<(w::rest).length:=by rw[Ui];omega
  have ix:=OI.fx (kk:=.i64) hi;have ld:∀{kk:af},Ext A kk->aq none (eO v 1 (k+1)) (λb=>kk[b]?)=some (.str rest[k],.ar):=λ{kk} e=>OI.kK hi rfl (eA1.trans e)
  have hxy:rest[k]∈rest:=UB _;have OK:rest.take (k+1)=rest.take k++[rest[k]]:=db hlt;have hdk:r<=k->rest[k]∈rest.drop r:=λhrk=>by
   have:rest[k]=(rest.drop r)[k-r]'(by rw[VB];omega):=by rw[List.getElem_drop];congr 1;omega
   rw[this];exact UB _
  generalize rest[k]=y at ld hxy OK hdk;have eX:Ext h (A++G):=eh.trans ⟨_,rfl⟩;by_cases hy:y=[]
  ·have dy:decide (y=[])=true:=Uk hy;refine Rs (Hk t2 t4 t5 t6 t7 t8 e3 ix @ld @dy @s2A @l2A @sqA) ?_;exact bad (ja hd (.inr (.inl (hy▸hxy)))) eX
  have dy:decide (y=[])=false:=Uh hy;have l7:∀{kk:af}{n:Option Nat}{a:Nat},Ext (A++G) kk->aq n (.ptr A.length a) (λz=>kk[z]?)=dI n a (.cells [.int .i64 0,.str w,sn,sv,.str []] true false):=λe=>az (e.some o.m)
  have hne':∀x∈rest.take (k+1),x≠[]:=λx hx=>by
   rw[OK]at hx;rcases Um.1 hx with hx|hx
   ·exact hne x hx
   ·rw[Uw.1 hx];exact hy
  by_cases hkr:k<r
  ·have d3:decide (((k+1:Nat):Int)<=(r:Int))=true:=Uk Om;refine Rs (Ec t2 t4 t5 t6 t7 t8 e3 ix @ld @dy @lf @Po @d3 @l7) ?_;refine WR.Bt (B:=A) (cs:=((rest.take k).take r).map al) (z:=al y) o.n rfl ⟨_,rfl⟩ De (by simp;omega) ?_;rintro _ s' ⟨g3,rfl⟩ hF hlo hone hle hkp;have er:((rest.take k).take r).map al++[al y]=((rest.take (k+1)).take r).map al:=by
    rw[sU (show k<=r by omega),sU (show k+1<=r by omega),OK,Up];rfl
   rw[er]at hF;have q7:=(Ue.1 o.m).1;have m7':(A++g3)[A.length]? =some (.cells [.int .i64 0,.str w,sn,sv,.str []] true false):=by
    rw[hkp _ q7 (λe=>by have:=o.dn _ e;omega)];exact o.m
   have s7:bC 1 (.ptr A.length 2) s' (λz=>(A++g3)[z]?)=some (au,.set A.length (.cells [.int .i64 0,.str w,s',sv,.str []] true false)):=by
    exact Kf
   have o3:=o.FE hF hlo hle hkp;have ev:(rest.take (k+1)).drop r=(rest.take k).drop r:=by
    rw[Wa (by rw[U6];omega),Wa (by rw[U6];omega)]
   rw[<-ev]at o3 QE;refine Rs (A8 t2 t4 t5 t6 t7 t8 @s7 (wrapN (show k+1+1<2^63 by omega))) ?_;exact⟨rest.length-(k+1),Om,k+1,s',sv,_,Om,rfl,vg,o3,hne',QE,rfl⟩
  ·have d3:decide (((k+1:Nat):Int)<=(r:Int))=false:=Uh Om;refine Rs (Hk t2 t4 t5 t6 t7 t8 e3 ix @ld @dy @lf @Po @d3) ?_;refine WF.ce T.c192 (r192 T y) λg3=>?_
   rw[Uf A G g3];have o2:=o.app g3;cases hdy:bQ y with
   |false=>
    refine Rs (uO t2 t4 t5 t6 t7 t8 @UF @s2A @l2A @sqA) ?_;refine bad (ja hd (.inr (.inr ⟨y,?_,hdy⟩))) (eh.trans ⟨_,rfl⟩);rw[<-hr];exact hdk Om
   |true=>
   have l7:∀{kk:af}{n:Option Nat}{a:Nat},Ext (A++(G++g3)) kk->aq n (.ptr A.length a) (λz=>kk[z]?)=dI n a (.cells [.int .i64 0,.str w,sn,sv,.str []] true false):=λe=>az (e.some o2.m)
   refine Rs (A8 t2 t4 t5 t6 t7 t8 @UA @l7) ?_;refine WR.Bt (B:=A) (cs:=(((rest.take k).drop r).map cT).map aE) (z:=aE (cT y)) o2.v rfl ⟨_,rfl⟩ De (by simp;omega) ?_;rintro _ s' ⟨g4,rfl⟩ hF hlo hone hle hkp;have edr:(rest.take (k+1)).drop r=(rest.take k).drop r++[y]:=by
    rw[OK,List.drop_append_of_le_length (by rw[U6];omega)]
   have er:(((rest.take k).drop r).map cT).map aE++[aE (cT y)]=(((rest.take (k+1)).drop r).map cT).map aE:=by
    rw[edr,Up,Up];rfl
   rw[er]at hF;have q7:=(Ue.1 o2.m).1;have m7':(A++g4)[A.length]? =some (.cells [.int .i64 0,.str w,sn,sv,.str []] true false):=by
    rw[hkp _ q7 (λe=>by have:=o2.dv _ e;omega)];exact o2.m
   have s7:bC 1 (.ptr A.length 3) s' (λz=>(A++g4)[z]?)=some (au,.set A.length (.cells [.int .i64 0,.str w,sn,s',.str []] true false)):=by
    exact Kf
   have o3:=o2.FD hF hlo hle hkp;have en:(rest.take (k+1)).take r=(rest.take k).take r:=by
    rw[OK,List.take_append_of_le_length (by rw[U6];omega)]
   rw[<-en]at o3;have hdg':∀x∈(rest.take (k+1)).drop r,bQ x=true:=λx hx=>by
    rw[edr]at hx;rcases Um.1 hx with hx|hx
    ·exact QE x hx
    ·rw[Uw.1 hx];exact hdy
   refine Rs (A8 t2 t4 t5 t6 t7 t8 @s7 (wrapN (show k+1+1<2^63 by omega))) ?_;exact⟨rest.length-(k+1),Om,k+1,sn,s',_,Om,rfl,vg,o3,hne',hdg',rfl⟩
 ·have e3:decide (((k+1:Nat):Int)<((rest.length+1:Nat):Int))=false:=Uh Om;have ek:k=rest.length:=Om
  subst ek;rw[UU]at o hne QE;have Pe:=rN hd (by rw[<-hr];exact hl) hne (by rw[<-hr];exact QE);rw[<-hr]at Pe;obtain⟨x,hx⟩:∃x:EV,x=⟨⟨0,w,rest.take r,(rest.drop r).map cT,[]⟩,sn,sv⟩:=⟨_,rfl⟩;have P1:bw d=w:=(fj hd).symm;have hrow:x.row=[.int .i64 0,.str w,sn,sv,.str []]:=by rw[hx];rfl
  have ln:=o.n;have lv:=o.v;have lm:=o.m;have eR:Ext (h++[ai.cells [.int .i64 0,.str [],.ah,.ah,.str []] true false]) (A++G):=eA.trans ⟨_,rfl⟩;generalize A++G=Y at ln lv lm eR ⊢;have ox:aZ Y x:=by rw[hx];exact⟨ln.aM,lv.aM⟩
  have l7:aq (some 5) (.ptr A.length 0) (λz=>Y[z]?)=some (.agg x.row,.ar):=by rw[az lm,hrow];rfl
  have sx:=zW ox eR;have ly:=@zV h Y x eR;refine Rs (uO t2 t4 t5 t6 t7 t8 e3 @l7 @sx @ly) ?_;have bE:Ext h (Y.set h.length (.cells x.row true false)):=by
   obtain⟨Z,hZ⟩:=eR;rw[hZ,Uf,U0 _ _ (Uq _)];exact⟨_,rfl⟩
  refine⟨bE,x,by rw[tw,Pe,hx,P1];rfl,by rw[Pe],?_,?_⟩
  ·rw[hx];exact(ln.ay λj hj=>U1 (by have:=o.dn j hj;omega)).low Om
  ·rw[hx];exact(lv.ay λj hj=>U1 (by have:=o.dv j hj;omega)).low Om
end
theorem qx{c}:∀{s:By},aA c s=(bU c s).1:: (if(bU c s).2.2=true then aA c (bU c s).2.1 else [])
 |[]=>rfl
 |x::r=>by
  have ih:=qx (c:=c) (s:=r);rw[aA,bU];by_cases h:x=c
  ·rw[Ut h,Ut h];rfl
  ·rw[Ur h,Ur h,ih]
theorem vU{c}:∀{s:By},(bU c s).2.2=false->(bU c s).2.1=[]
 |[],_=>rfl
 |x::r,h=>by
  rw[bU]at h ⊢;split at h
  ·cases h
  ·rename_i hc;rw[Ur hc];exact vU (s:=r) h
theorem my{c}:∀{s:By},(bU c s).2.2=true->(bU c s).1.length+1<=s.length/\s.drop ((bU c s).1.length+1)=(bU c s).2.1
 |[],h=>by cases h
 |x::r,h=>by
  rw[bU]at h ⊢;split at h
  ·rename_i hc;rw[Ut hc];exact⟨Si,rfl⟩
  ·rename_i hc;rw[Ur hc];have:=my (s:=r) h;exact⟨by simp only[Ui];omega,this.2⟩
def tr{ws}(h:(bV ws).2=true):∃w rest d,ws=w::rest/\eC w=some d/\rest.length=(aC d).length+a8 d/\(∀x∈rest,x≠[])/\(∀x∈rest.drop (aC d).length,bQ x=true):=by
 cases ws with
 |nil=>cases h
 |cons w rest=>
  cases hd:eC w with
  |none=>rw[qD hd]at h;cases h
  |some d=>
   refine⟨w,rest,d,rfl,hd,?_,?_,?_⟩
   ·exact Decidable.byContradiction λz=>by rw[ja hd (.inl z)]at h;cases h
   ·intro x hx e;rw[ja hd (.inr (.inl (e▸hx)))]at h;cases h
   ·intro x hx;cases hz:bQ x with
    |true=>rfl
    |false=>rw[ja hd (.inr (.inr ⟨x,hx,hz⟩))]at h;cases h
def vE{ws}(h:(bV ws).2=true):∀x∈(bV ws).1.names,x∈ws:=by
 obtain⟨w,rest,d,rfl,hd,hl,hn,hv⟩:=tr h;rw[rN hd hl hn hv];intro x hx;exact UL _ (Vi hx)
def fe(s:By):fp×Int:=
 if s.length<8 then(dQ,25)else
 if s.getD (s.length-8) 0≠35\/¬jC (s.drop (s.length-7))=true then(dQ,25)else
 if gC (s.take (s.length-8))≠s.drop (s.length-7)then(dQ,27)else
 let h:=bU 32 (s.take (s.length-8))
 let e:=bV (aA 32 h.2.1)
 if !bQ h.1 || !e.2||decide (dK {e.1 with num:=cT h.1}≠0)then(dQ,25)else
 ({e.1 with num:=cT h.1},0)
def Al{C:Bool}{E:fp}{n:Int}:(if C=true then(dQ,(25:Int))else(E,bB (decide (E.num≠n)) 11))=((if C=true then(dQ,(25:Int))else(E,0)).1,if(if C=true then(dQ,(25:Int))else(E,0)).2=0 then bB (decide ((if C=true then(dQ,(25:Int))else(E,0)).1.num≠n)) 11 else(if C=true then(dQ,(25:Int))else(E,0)).2):=by cases C<;>rfl
def yz{s n}:cg s n=((fe s).1,if(fe s).2=0 then bB (decide ((fe s).1.num≠n)) 11 else(fe s).2):=by
 unfold cg fe;by_cases h1:s.length<8
 ·rw[Ut h1,Ut h1];rfl
 rw[Ur h1,Ur h1];by_cases h2:s.getD (s.length-8) 0≠35\/¬jC (s.drop (s.length-7))=true
 ·rw[Ut h2,Ut h2];rfl
 rw[Ur h2,Ur h2];by_cases h3:gC (s.take (s.length-8))≠s.drop (s.length-7)
 ·rw[Ut h3,Ut h3];rfl
 rw[Ur h3,Ur h3];exact Al
section
variable {P:Program}(T:eF P) {h:af}
include T
def r100(s:By)(hsl:s.length<=2^38):ak P 100 [.str s] h (λv k=>∃x:EV,x.ev=(fe s).1/\v=.dt [.agg x.row,.int .i64 (fe s).2]/\Fr h.length k x.sn 1 (x.ev.names.map al)/\Fr h.length k x.sv 1 (x.ev.ba.map aE)):=by
 refine .jP 81 T.mix T.c100 ?_;intro ts hlen t0;unfold fn100 gA;have w1:IntKind.i64.wrap ((s.length:Int)-8)=(s.length:Int)-8:=aH Om Om;have s2:=@zX h;have l2:=@zZ h;have sq:=@zY h;have bad:∀{c:Int}{k:af},fe s=(dQ,c)->Ext h k->(Ext h k/\∃x:EV,x.ev=(fe s).1/\AV.dt [.agg [.int .i64 0,.str [],.ah,.ah,.str []],.int .i64 c]=.dt [.agg x.row,.int .i64 (fe s).2]/\Fr h.length k x.sn 1 (x.ev.names.map al)/\Fr h.length k x.sv 1 (x.ev.ba.map aE)):=
  λhe e=>⟨e,⟨dQ,.ah,.ah⟩,by rw[he],by rw[he];rfl,.nil,.nil⟩
 by_cases h8:s.length<8
 ·have d1:decide ((s.length:Int)-8<0)=true:=Uk Om;refine Rs (A6 t0 @w1 @d1 @s2 @l2 @sq) ?_;exact(bad (by rw[fe,Ut h8]) Xx).2
 have d1:decide ((s.length:Int)-8<0)=false:=Uh Om;have ea:(s.length:Int)-8=((s.length-8:Nat):Int):=Om
 have w1:IntKind.i64.wrap ((s.length:Int)-8)=((s.length-8:Nat):Int):=by rw[w1,ea]
 rw[ea]at d1;have hlt:s.length-8<s.length:=Om
 have w3:IntKind.i64.wrap (((s.length-8:Nat):Int)+1)=((s.length-7:Nat):Int):=by rw[aH Om Om];omega
 have gd:s.getD (s.length-8) 0=s[s.length-8]:=by rw[UQ,Uj hlt];rfl
 by_cases hh:s[s.length-8]=35
 case neg=>
  have d2:decide ((s[s.length-8].toNat:Int)≠35)=true:=Uk λe=>hh (V9.1 (by simpa using (by omega:s[s.length-8].toNat=35)))
  repeat (first|simp (config:={maxSteps:=1000000}) only[aL,aR,bd,bf,reduceAdd,reduceMul,reduceLeDiff,reduceEqDiff,bj,hlen,UC,UD,t0,w1,d1,cA hlt,d2,s2,l2,sq]|simp (config:={maxSteps:=1000000}) (disch:=first|(simp only[Ud,Ui,Ul]<;>omega)|rfl|omega|fail) only[dZ,aL,aR,bd,bf,reduceAdd,reduceMul,reduceLeDiff,reduceEqDiff,bj,hlen,UC,UD,t0,w1,d1,cA hlt,d2,s2,l2,sq])
  exact(bad (by rw[fe,Ur h8,Ut (.inl (by rw[gd];exact hh))]) Xx).2
 have d2:decide ((s[s.length-8].toNat:Int)≠35)=false:=Uh (by rw[hh];decide);have hl7:(s.drop (s.length-7)).length=7:=by rw[VB];omega
 have hdc:(((s.drop (s.length-7)).all cj)&&decide ((s.drop (s.length-7)).length=7))=jC (s.drop (s.length-7)):=by
  rw[jC,Uk hl7,Uh (λe=>by rw[e]at hl7;cases hl7)];simp
 repeat (first|simp (config:={maxSteps:=1000000}) only[aL,aR,bd,bf,reduceAdd,reduceMul,reduceLeDiff,reduceEqDiff,bj,hlen,UC,UD,t0,w1,d1,cA hlt,d2,w3,fF (show s.length-7<=s.length by omega)]|simp (config:={maxSteps:=1000000}) (disch:=first|(simp only[Ud,Ui,Ul]<;>omega)|rfl|omega|fail) only[dZ,aL,aR,bd,bf,reduceAdd,reduceMul,reduceLeDiff,reduceEqDiff,bj,hlen,UC,UD,t0,w1,d1,cA hlt,d2,w3,fF (show s.length-7<=s.length by omega)])
 refine WF.ce T.c191 (r191 T _ Om) λg1=>?_
 rw[hdc];cases hd:jC (s.drop (s.length-7))with
 |false=>
  refine Rs (A6 t0 @hd @UF @s2 @l2 @sq) ?_;exact(bad (by rw[fe,Ur h8,Ut (.inr (by rw[hd];simp))]) Xx).2
 |true=>
 repeat (first|simp (config:={maxSteps:=1000000}) only[aL,aR,bd,bf,reduceAdd,reduceMul,reduceLeDiff,reduceEqDiff,bj,hlen,UC,UD,t0,w3,hd,UA,k7 (show s.length-8<=s.length by omega),fF (show s.length-7<=s.length by omega)]|simp (config:={maxSteps:=1000000}) (disch:=first|(simp only[Ud,Ui,Ul]<;>omega)|rfl|omega|fail) only[dZ,aL,aR,bd,bf,reduceAdd,reduceMul,reduceLeDiff,reduceEqDiff,bj,hlen,UC,UD,t0,w3,hd,UA,k7 (show s.length-8<=s.length by omega),fF (show s.length-7<=s.length by omega)])
 have Qo:∀{α:Type}{a b:α},(if s.getD (s.length-8) 0≠35\/¬jC (s.drop (s.length-7))=true then a else b)=b:=λ{_ _ _}=>Ur (by rw[gd,hd];simp[hh])
 refine WF.ce T.c72 (r72 T _ (by rw[U6];omega)) λg2=>?_
 by_cases hc:gC (s.take (s.length-8))=s.drop (s.length-7)
 case neg=>
  have d3:decide (s.drop (s.length-7)≠gC (s.take (s.length-8)))=true:=Uk λe=>hc e.symm
  refine Rs (A5 t0 @d3 @s2 @l2 @sq) ?_;exact(bad (by rw[fe,Ur h8,Qo,Ut hc]) Xx).2
 have d3:decide (s.drop (s.length-7)≠gC (s.take (s.length-8)))=false:=Uh (λz=>z hc.symm);have hes:fe s=if !bQ (bU 32 (s.take (s.length-8))).1 || !(bV (aA 32 (bU 32 (s.take (s.length-8))).2.1)).2||decide (dK { (bV (aA 32 (bU 32 (s.take (s.length-8))).2.1)).1 with num:=cT (bU 32 (s.take (s.length-8))).1}≠0)then(dQ,25)else({ (bV (aA 32 (bU 32 (s.take (s.length-8))).2.1)).1 with num:=cT (bU 32 (s.take (s.length-8))).1},0):=(Ur h8).trans (Qo.trans (Ur (λz=>z hc)))
 have htl:(s.take (s.length-8)).length<=2^38:=by rw[U6];omega
 refine Rs (A2 t0 @d3) ?_;obtain⟨B,hB⟩:∃B,B=s.take (s.length-8):=⟨_,rfl⟩;rw[<-hB]at hes htl ⊢;have hcl:=mz (c:=32) (s:=B);have hsc:=qx (c:=32) (s:=B);have hno:=vU (c:=32) (s:=B);have S5:=my (c:=32) (s:=B);refine WF.res T.c105 (r105 T B 32 Om) ?_;intro v g3 hv;have OI:=hv.aM;rw[hsc]at OI;generalize (bU 32 B).1=a1 at hes hcl OI S5;generalize (bU 32 B).2.1=a2 at hes hcl OI S5 hno;generalize (bU 32 B).2.2=fd at hes OI S5 hno;obtain⟨rest,OO⟩:∃rest,rest=if fd=true then aA 32 a2 else []:=⟨_,rfl⟩
 rw[<-OO]at OI;have ix:=OI.oB (kk:=.i64) Si;have ld:=λ{k:af} e=>OI.kK (i:=0) (k:=k) Si rfl e
 have hld:(a1::rest)[0]=a1:=rfl;refine Rs (A4 t0 ix @ld @hld) ?_;refine WF.ce T.c192 (r192 T a1) λg4=>?_
 cases QE:bQ a1 with
 |false=>
  rw[QE]at hes;refine Rs (A5 t0 @UF @s2 @l2 @sq) ?_;exact E4
 |true=>
 rw[QE]at hes;cases fd with
 |false=>
  have SQ:rest=[]:=OO;subst SQ;have d5:decide ((([a1] :List (By)).length:Int)<2)=true:=rfl;refine Rs (A7 t0 @UA OI.aS @d5 @s2 @l2 @sq) ?_;have ha2:=hno rfl;rw[ha2]at hes;exact E4
 |true=>
 have hr1:rest=aA 32 a2:=OO;have Po:0<rest.length:=by rw[hr1];exact VU.2 eo
 have d5:decide (((a1::rest).length:Int)<2)=false:=Uh (by rw[Ui];omega);obtain⟨hle,hdq⟩:=S5 rfl;have w5:IntKind.i64.wrap ((a1.length:Int)+1)=((a1.length+1:Nat):Int):=by rw[aH Om Om];omega
 repeat (first|simp (config:={maxSteps:=1000000}) only[aL,aR,bd,bf,reduceAdd,reduceMul,reduceLeDiff,reduceEqDiff,bj,hlen,UC,UD,t0,UA,OI.aS,d5,ix,ld,hld,w5,fF hle,hdq]|simp (config:={maxSteps:=1000000}) (disch:=first|(simp only[Ud,Ui,Ul]<;>omega)|rfl|omega|fail) only[dZ,aL,aR,bd,bf,reduceAdd,reduceMul,reduceLeDiff,reduceEqDiff,bj,hlen,UC,UD,t0,UA,OI.aS,d5,ix,ld,hld,w5,fF hle,hdq])
 have hread:=pq (aA 32 a2);refine WF.res T.c107 (r107 T a2 Om) ?_;rintro _ g5 ⟨x,hx,rfl,fn,fv⟩;have ox:aZ _ x:=⟨fn.aM,fv.aM⟩;have st:∀{b':Nat}{a0 a1 a2 a3 a4:AV},jq 5 0 (.agg x.row) b' (.cells [a0,a1,a2,a3,a4] true false)=some (au,.set b' (.cells x.row true false)):=λ{_ _ _ _ _ _}=>ox.st
 obtain⟨x',Oo⟩:∃x':EV,x' =⟨{x.ev with num:=cT a1},x.sn,x.sv⟩:=⟨_,rfl⟩;have OS:x'.sn=x.sn:=by rw[Oo]
 have hsv:x'.sv=x.sv:=by rw[Oo]
 have Sk:x'.ev.names=x.ev.names:=by rw[Oo]
 have Pc:x'.ev.ba=x.ev.ba:=by rw[Oo]
 have hrow:x'.row=x.row.set 0 (.int .i64 (cT a1)):=by rw[Oo];rfl
 have hev:({x.ev with num:=cT a1}:fp)=x'.ev:=by rw[Oo]
 have jP:∀{b':Nat},jq 1 0 (.int .i64 (cT a1)) b' (.cells x.row true false)=some (au,.set b' (.cells x'.row true false)):=λ{b'}=>by
  exact Fa
 cases hok:(bV (aA 32 a2)).2 with
 |false=>
  rw[hok]at hes;refine Rs (A8 t0 @st @jP @bW @UF @s2 @l2 @sq) ?_;exact E4
 |true=>
 have hxe:x.ev=(bV (aA 32 a2)).1:=by rw[hx,tw,Ut hok]
 have Q9:∀n∈x'.ev.names,n.length<2^63:=λn hn=>by
  rw[Sk,hxe]at hn;have:=iX n (vE hok n hn);omega
 rw[hok,<-hxe,hev]at hes;rw[<-hxe]at hread;rw[<-OS,<-Sk]at fn;rw[<-hsv,<-Pc]at fv;have Rl:aZ _ x':=⟨fn.aM,fv.aM⟩;have OV:fe s=if decide (dK x'.ev≠0)then(dQ,25)else(x'.ev,0):=hes
 refine Rs (A5 t0 @st @jP @bW @UA) ?_;refine WF.ce T.c39 (r39 T (Rl.ext Xx) ⟨by rw[Sk];omega,by rw[Pc];omega⟩ Q9) λg7=>?_
 by_cases RM:dK x'.ev=0
 case neg=>
  have d4:decide (dK x'.ev≠0)=true:=Uk RM;rw[d4]at OV;refine Rs (A5 t0 @d4 @s2 @l2 @sq) ?_;exact z119
 have d4:decide (dK x'.ev≠0)=false:=Uh (λz=>z RM);rw[d4]at OV;have key:∀{k:af}{W:af},aZ W x'->Ext (h++[ai.cells [.int .i64 0,.str [],.ah,.ah,.str []] true false]) W->Ext W k->bC 5 (.ptr h.length 0) (.agg x'.row) (λz=>k[z]?)=some (au,.set h.length (.cells x'.row true false)):=λo e1 e2=>zW (o.ext e2) (e1.trans e2)
 have sx:=λ{k:af}=>@key k _ Rl Xx
 have ly:=@zV h;have fn3:=(fn.app [ai.cells x'.row true false]).app g7;have fv3:=(fv.app [ai.cells x'.row true false]).app g7;refine Rs (A5 t0 @d4 @bW @sx @ly) ?_;refine⟨x',by rw[OV];rfl,by rw[OV];rfl,(fn3.ay λj hj=>?_).low ?_,(fv3.ay λj hj=>?_).low ?_⟩
 ·exact M7
 ·exact Kg
 ·exact z80
 ·exact Kg
end
theorem Bb{c:UInt8}{q}:∀{p:By},c∉p->bU c (p++c::q)=(p,q,true)
 |[],_=>by rw[VD,bU,Ut rfl]
 |x::r,h=>by
  rw[Vp,bU,Ur (λe=>h (by simp[e])),Bb (λhr=>h (UL _ hr))]
theorem uC{c:UInt8}:∀{p:By},c∉p->bU c p=(p,[],false)
 |[],_=>rfl
 |x::r,h=>by
  rw[bU,Ur (λe=>h (by simp[e])),uC (λhr=>h (UL _ hr))]
def Iv{s:By}{k m:Nat}{kk k2:IntKind}(h1:k<=m)(h2:m<=s.length):ou (.str s) (some (.int kk (k:Int))) (some (.int k2 (m:Int)))=some (.str ((s.drop k).take (m-k))):=by
 simp only[ou,rm h1 h2]
section
variable {P:Program}(T:eF P) {h:af}
include T
def r38(s:By)(hsl:s.length<=2^37):ak P 38 [.str s] h (λv k=>∃(L':List EV) (s':AV),L'.map EV.ev=(cH s).1/\v=.dt [s',.int .i64 (cH s).2.1,.int .i64 (cH s).2.2]/\Fr h.length k s' 5 (L'.map EV.row)/\∀x∈L',xY h.length k s' x):=by
 refine .jP 60 T.mix T.c38 ?_;intro ts hlen t0;unfold fn38 gA;by_cases h6:1000000<s.length
 ·exact Nn
 have d1:decide ((1000000:Int)<s.length)=false:=Uh Om;have hrs:cH s=eJ (s.length+1) s [] 0:=Ur h6;refine Rs (A2 t0 @d1) ?_;refine WL.inv T.mix (λn ts h'=>∃(a i f:Nat) (out:AV) (L':List EV) (g:af),a<=i/\i<=s.length/\n=s.length-i/\h' =h++g/\L'.length<=a/\(10:UInt8)∉(s.drop a).take (i-a)/\cH s=eJ (f+1) (s.drop a) (L'.map EV.ev) a/\s.length-a<=f/\Fr h.length (h++g) out 5 (L'.map EV.row)/\(∀x∈L',xY h.length (h++g) out x)/\
   ts.length=60/\slot ts 0=.str s/\slot ts 5=out/\slot ts 6=.int .i64 a/\slot ts 7=.int .i64 i) s.length
  ⟨0,0,s.length,.ah,[],[],Om,Om,rfl,Si,Uq _,Si,hrs,Om,.nil,(λx hx=>by cases hx),Sn,(Sq t0),Sw,iR,iR⟩ ?_
 rintro _ ts _ ⟨a,i,f,out,L',g,hai,hi,rfl,rfl,hLa,hno,Oq,hf,hfr,hin,hlen,t0,t5,t6,t7⟩;have hdl:(s.drop a).length=s.length-a:=VB;by_cases hlt:i<s.length
 ·have e3:=gh hlt;have hgi:(s.drop a)[i-a]'Om=s[i]:=by rw[List.getElem_drop];congr 1;omega
  have OK:(s.drop a).take (i+1-a)=(s.drop a).take (i-a)++[s[i]]:=by
   rw[show i+1-a=(i-a)+1 by omega,db (show i-a<(s.drop a).length by omega),hgi]
  by_cases hc:s[i]=10
  case neg=>
   have d2:decide ((s[i].toNat:Int)≠10)=true:=Uk λe=>hc (V9.1 (by simpa using (by omega:s[i].toNat=10)))
   repeat (first|simp (config:={maxSteps:=1000000}) only[aL,aR,bd,bf,reduceAdd,reduceMul,reduceLeDiff,reduceEqDiff,bj,hlen,UC,UD,t0,t5,t6,t7,e3,cA hlt,d2,wrapN (show i+1<2^63 by omega)]|simp (config:={maxSteps:=1000000}) (disch:=first|(simp only[Ud,Ui,Ul]<;>omega)|rfl|omega|fail) only[dZ,aL,aR,bd,bf,reduceAdd,reduceMul,reduceLeDiff,reduceEqDiff,bj,hlen,UC,UD,t0,t5,t6,t7,e3,cA hlt,d2,wrapN (show i+1<2^63 by omega)])
   refine⟨s.length-(i+1),Om,a,i+1,f,out,L',g,Om,Om,rfl,rfl,hLa,?_,Oq,hf,hfr,hin,rfl,rfl,rfl⟩;rw[OK];intro hm;rcases Um.1 hm with hm|hm
   ·exact hno hm
   ·exact hc (Uw.1 hm).symm
  have d2:decide ((s[i].toNat:Int)≠10)=false:=Uh (by rw[hc];decide);have hne:s.drop a≠[]:=λe=>by have:=UM List.length e;rw[hdl]at this;simp at this;omega
  obtain⟨f',rfl⟩:∃f',f=f'+1:=⟨f-1,Om⟩;have hsp:s.drop a=(s.drop a).take (i-a)++10::s.drop (i+1):=by
   have h1:=U8 (i-a) (s.drop a);rw[VH,show a+(i-a)=i by omega,VC hlt,hc]at h1;exact h1.symm
  have PZ:((s.drop a).take (i-a)).length=i-a:=by rw[U6];omega
  have TF:=Iv (s:=s) (kk:=.i64) (k2:=.i64) hai hi;have hct:bU 10 (s.drop a)=((s.drop a).take (i-a),s.drop (i+1),true):=by rw[hsp];rw[<-hsp];exact(UM (bU 10) hsp).trans (Bb hno)
  rw[eJ,Ur hne,hct]at Oq;clear hsp hct hgi OK;generalize (s.drop a).take (i-a)=ln at Oq PZ TF hno ⊢;have w1:IntKind.i64.wrap (((L'.map EV.row).length:Int)+1)=(L'.length:Int)+1:=by rw[Uv];exact aH Om Om
  have SE:IntKind.i64.wrap ((L'.length:Int)+1)=(L'.length:Int)+1:=aH Om Om
  repeat (first|simp (config:={maxSteps:=1000000}) only[aL,aR,bd,bf,reduceAdd,reduceMul,reduceLeDiff,reduceEqDiff,bj,hlen,UC,UD,t0,t5,t6,t7,e3,cA hlt,d2,TF]|simp (config:={maxSteps:=1000000}) (disch:=first|(simp only[Ud,Ui,Ul]<;>omega)|rfl|omega|fail) only[dZ,aL,aR,bd,bf,reduceAdd,reduceMul,reduceLeDiff,reduceEqDiff,bj,hlen,UC,UD,t0,t5,t6,t7,e3,cA hlt,d2,TF])
  refine WF.res T.c100 (r100 T ln Om) ?_;rintro _ g2 ⟨x,hx,rfl,fn,fv⟩;have hml:(L'.map EV.ev).length=L'.length:=Uv _;have Oq:cH s=if(cg ln ((L'.length:Int)+1)).2≠0 then(L'.map EV.ev,(a:Int),(cg ln ((L'.length:Int)+1)).2)else eJ (f'+1) (s.drop (i+1)) (L'.map EV.ev++[(cg ln ((L'.length:Int)+1)).1]) (a+ln.length+1):=by rw[Oq,hml];rfl
  rw[yz,<-hx,PZ,show a+(i-a)+1=i+1 by omega]at Oq;generalize (fe ln).2=er at Oq ⊢;have ox:aZ (h++g++g2) x:=⟨fn.aM,fv.aM⟩;have st:∀{b':Nat}{a0 a1 a2 a3 a4:AV},jq 5 0 (.agg x.row) b' (.cells [a0,a1,a2,a3,a4] true false)=some (au,.set b' (.cells x.row true false)):=λ{_ _ _ _ _ _}=>ox.st
  by_cases he:er=0
  case neg=>
   have d3:decide (er=0)=false:=Uh he;have d4:decide (er≠0)=true:=Uk he;simp only[Ur he]at Oq;rw[Ut he]at Oq;refine Rs (A7 t0 t5 t6 t7 @st @d3 @d4) ?_;exact z107
  have d3:decide (er=0)=true:=Uk he;simp only[Ut he]at Oq;by_cases Pq:x.ev.num=(L'.length:Int)+1
  case neg=>
   have d5:decide (x.ev.num≠(L'.length:Int)+1)=true:=Uk Pq;rw[d5,Ut (show bB true 11≠0 by decide)]at Oq;have d6:decide ((11:Int)≠0)=true:=rfl;refine Rs (Hl t0 t5 t6 t7 @st @d3 @gF hfr.aM.aS @w1 @SE @d5 @d6) ?_;exact z107
  have d5:decide (x.ev.num≠(L'.length:Int)+1)=false:=Uh λz=>z Pq
  have d4:decide (er≠0)=false:=Uh λz=>z he
  rw[d5,Ur (show ¬bB false 11≠0 by decide)]at Oq;have ox2:aZ (h++g++g2++[ai.cells x.row true false]) x:=ox.ext ⟨_,rfl⟩;have bs:=@aZ.Df _ _ ox2;refine Rs (Ec t0 t5 t6 t7 @st @d3 @d4 @gF hfr.aM.aS @w1 @SE @d5 @bW @bs) ?_;refine WR.gj (h0:=h) (cs:=L'.map EV.row) (ys:=[x.row]) (((hfr.app _).app _).app _) (Fr.push (N:=0) (UK _) [x.row] (by intro y hy;rw[Uw]at hy;rw[hy];rfl)).aM De Si (by simp only[Uv,Ui,Ul];omega) Xx ?_;intro g' OJ hff hkp;have hrow:L'.map EV.row++[x.row]=(L'++[x]).map EV.row:=by rw[Up];rfl
  rw[hrow]at hff;rw[hrow];obtain⟨sn,OS⟩:∃sn,sn=AV.slice (h++g++g2++[ai.cells x.row true false]++[ai.cells x.row true true]).length 0 ((L'++[x]).map EV.row).length 5:=⟨_,rfl⟩;rw[<-OS]at hff ⊢;have PL:∀i,sB sn=some i->(h++g++g2).length+2=i:=λi hi=>by rw[OS]at hi;cases hi;simp only[Ud,Us]<;>omega
  have hout:∀b,sB out=some b->b<(h++g).length:=λb hb=>(hfr.bL hb).2
  have kp:∀i,i<(h++g++g2).length->sB out≠some i->(h++g')[i]? =(h++g++g2)[i]? :=λi hi hne=>by
   rw[hkp i (by simp only[Ud,Us]at hi ⊢;omega) (λb0 o n e he zz=>hne (by rw[he,zz];rfl)),Uf (h++g++g2),Ug hi]
  refine Rs (A5 t0 t5 t6 t7 (wrapN (show i+1<2^63 by omega))) ?_;refine⟨s.length-(i+1),Om,i+1,i+1,f',sn,L'++[x],g',Om,Om,rfl,rfl,by simp;omega,Si,?_,Om,hff,λy hy=>?_,rfl,rfl,rfl⟩
  ·rw[Oq,Up];rfl
  ·have lg:∀{i},i<(h++g).length->i<(h++g++g2).length:=λ{i} hi=>by simp only[Ud]at hi ⊢;omega
   rcases Um.1 hy with hy|hy
   ·have oy:=hin y hy;have ln:=λj (hj:sB y.sn=some j)=>(oy.n.bL hj).2
    have lv:=λj (hj:sB y.sv=some j)=>(oy.v.bL hj).2
    refine⟨(oy.n.app g2).ay λj hj=>kp j (lg (ln j hj)) (oy.dn j hj),(oy.v.app g2).ay λj hj=>kp j (lg (lv j hj)) (oy.dv j hj),λj hj e=>?_,λj hj e=>?_⟩
    ·have h1:=lg (ln j hj);have h2:=PL j e;omega
    ·have h1:=lg (lv j hj);have h2:=PL j e;omega
   ·rw[Uw]at hy;subst hy;have ln:=λj (hj:sB y.sn=some j)=>fn.bL hj
    have lv:=λj (hj:sB y.sv=some j)=>fv.bL hj
    exact z12
 ·have e3:=gG hlt;have ei:i=s.length:=Om
  have S1:(s.drop a).take (i-a)=s.drop a:=UO Om;rw[S1]at hno;by_cases RQ:a<s.length
  ·have e4:=gh RQ;have hne:s.drop a≠[]:=λe=>by have:=UM List.length e;rw[hdl]at this;simp at this;omega
   rw[eJ,Ur hne,uC hno]at Oq;exact HZ
  ·have e4:=gG RQ;have TN:s.drop a=[]:=Wa Om;rw[eJ,Ut TN]at Oq;exact HZ
end
structure N7(n:By)(R A:gB):Prop where
 tk:A.tick<=R.tick
 ln:A.lines=R.lines.filter λx=>decide (x.name=n)
 tp:A.aK=R.aK
 sh:A.ao=R.ao.filter λx=>decide (x.line=n)
 md:A.aJ=R.aJ.filter λx=>decide (x.line=n)
section
variable {n:By}{R A:gB}(s:N7 n R A) (w:ka R) {e:fp}{d:Kd}
include s
include w
end
def qK{c:UInt8}(h:cj c=true):UInt8.ofNat (48+(c.toNat-48))=c:=by
 have:=dx.1 h;rw[show 48+(c.toNat-48)=c.toNat by omega];simp
theorem uA:∀k (s:By),s.length=k->s.all cj=true->s≠[]->s.head?≠some 48->1<=gI s/\Lib.decDigits (gI s).toNat=s
 | 0,s,hl,_,hne,_=>absurd (Vd.1 hl) hne
 |k+1,s,hl,hd,hne,hh=>by
  obtain⟨z,c,rfl⟩:∃z c,s=z++[c]:=⟨s.dropLast,s.getLast hne,(List.dropLast_concat_getLast hne).symm⟩;rw[Wj,UH]at hd;have hc:cj c=true:=by simpa using hd.2
  have S7:=dx.1 hc;rw[uz];by_cases hz:z=[]
  ·subst hz;have:c≠48:=by simpa using hh
   have hc3:c.toNat≠48:=λe=>this (V9.1 (by simpa using e))
   have e0:gI []=0:=rfl;rw[e0];refine⟨Om,?_⟩;rw[Lib.decDigits,dif_pos Om];rw[show(10*(0:Int)+((c.toNat:Int)-48)).toNat=c.toNat-48 by omega,qK hc];rfl
  ·have hh':z.head?≠some 48:=by
    cases z with
    |nil=>exact absurd rfl hz
    |cons a b=>simpa using hh
   obtain⟨i1,i2⟩:=uA k z (by simpa using hl) hd.1 hz hh';refine⟨Om,?_⟩;rw[Lib.decDigits,dif_neg Om];rw[show(10*gI z+((c.toNat:Int)-48)).toNat / 10=(gI z).toNat by omega,show(10*gI z+((c.toNat:Int)-48)).toNat%10=c.toNat-48 by omega,i2,qK hc]
def uB{s:By}(h:bQ s=true):dS (gI s)=s:=by
 simp only[bQ,UH,Vs,VV,Bool.and_eq_false_iff,UT]at h;obtain⟨⟨⟨h1,h2⟩,h3⟩,h4⟩:=h;have hne:s≠[]:=λe=>h1 (by rw[e];rfl)
 by_cases hh:s.head? =some 48
 ·have hl:s.length=1:=by
   rcases h3 with h3|h3
   ·have:=VU.2 hne;omega
   ·exact absurd hh h3
  match s,hl with
  |[c],_=>
   have:c=48:=by simpa using hh
   subst this;rw[gJ];have:gI [48]=0:=rfl;rw[this,show(0:Int).toNat=0 from rfl,Lib.decDigits,dif_pos De];rfl
 ·rw[gJ];exact(uA _ s rfl h4 hne hh).2
def dR(l:List (By)):By:=(l.map λw=>32::w).flatten
def qX{a b}:dR (a++b)=dR a++dR b:=by rw[dR,Up,VG];rfl
def yt{w}:dR [w]=32::w:=by simp[dR]
theorem AK:∀{r p},ga 32 (p::r)=p++dR r
 |[],p=>by rw[ga];simp[dR]
 |q::r,p=>by
  rw[iu Si,AK (r:=r) (p:=q)];simp[dR]
def v7{e:fp}:cX e=dS e.num++dR ([e.kind]++e.names++e.ba.map dS):=by
 rw[cX,pW];show ga 32 (dS e.num:: ([e.kind]++e.names++e.ba.map dS))=_;exact AK
def Bk{e:fp}{A B:List (By)}(h:[e.kind]++e.names++e.ba.map dS=A++B):(dS e.num++dR A).length<=(cX e).length:=by
 rw[v7,h,qX];simp only[Ud];omega
theorem qW{B:Nat}:∀{l:List (By)},(∀x∈l,x.length<=B)->(dR l).length<=l.length*(B+1)
 |[],_=>by simp[dR]
 |x::r,h=>by
  have h1:=h x Si;have h2:=qW (l:=r) λy hy=>h y (UL _ hy)
  have e:dR (x::r)=(32::x)++dR r:=rfl;rw[e,Ud,Ui,Ui,Wm,Nat.one_mul];omega
def xF{n:Int}(h:n<=999999999):(dS n).length<=9:=by rw[gJ];exact jB (k:=8) Om
def CM(d:Kd):(bw d).length<=40:=by cases d<;>decide
def uG{e:fp}{d}(w:uT e d)(hn:∀n∈e.names,n.length<=40):(cX e).length<=300:=by
 have h3:(aC d).length<=3/\a8 d<=3:=by cases d<;>decide
 have hk:e.kind.length<=40:=by rw[fj w.kd];exact CM d
 have h1:=xF (n:=e.num) (by have:=w.nu;omega);have h2:=qW (B:=40) (l:=[e.kind]++e.names++e.ba.map dS) λx hx=>by
  rcases Um.1 hx with hx|hx
  ·rcases Um.1 hx with hx|hx
   ·rw[Uw.1 hx];exact hk
   ·exact hn x hx
  ·obtain⟨v,hv,rfl⟩:=UI.1 hx;have:=xF (n:=v) (w.vr v hv).2;omega
 have hl:([e.kind]++e.names++e.ba.map dS).length<=7:=by
  have:=w.nl;have:=w.vl;simp only[Ud,Uv,Us];omega
 rw[v7,Ud];have:([e.kind]++e.names++e.ba.map dS).length*(40+1)<=7*41:=Vf _ hl;omega
def Gs(p q:By):fp:={ (bV (aA 32 q)).1 with num:=cT p}
def wL(p q:By)(n:Int):fp×Int:=
 if(!bQ p || !(bV (aA 32 q)).2||decide (dK (Gs p q)≠0))=true then(dQ,25)else(Gs p q,bB (decide (cT p≠n)) 11)
def FI{p q n}(h:(wL p q n).2=0):bQ p=true/\(bV (aA 32 q)).2=true/\dK (Gs p q)=0/\(wL p q n).1=Gs p q:=by
 unfold wL at h ⊢;split at h
 ·cases h
 ·rename_i hc;rw[Ur hc];simp only[VW,not_or,Vs,Bool.not_eq_false,UT,ne_eq,VM]at hc;exact⟨hc.1.1,hc.1.2,hc.2,rfl⟩
def vT{s n}(h1:¬s.length<8)(h2:¬(s.getD (s.length-8) 0≠35\/¬jC (s.drop (s.length-7))=true))(h3:¬gC (s.take (s.length-8))≠s.drop (s.length-7)):cg s n=wL (bU 32 (s.take (s.length-8))).1 (bU 32 (s.take (s.length-8))).2.1 n:=(Ur h1).trans ((Ur h2).trans (Ur h3))
def Au{l:List (By)}(h:∀x∈l,bQ x=true):(l.map cT).map dS=l:=by
 rw[Wl]
 conv=>rhs;rw[<-List.map_id l]
 refine List.map_congr_left λx hx=>?_
 show dS (cT x)=x;rw[cT,Ut (h x hx)];exact uB (h x hx)
def pR{s n}(h:(cg s n).2=0):dK (cg s n).1=0/\fN (cg s n).1=s++[10]:=by
 by_cases h1:s.length<8
 ·rw[cg,Ut h1]at h;cases h
 by_cases h2:s.getD (s.length-8) 0≠35\/¬jC (s.drop (s.length-7))=true
 ·rw[cg,Ur h1,Ut h2]at h;cases h
 by_cases h3:gC (s.take (s.length-8))≠s.drop (s.length-7)
 ·rw[cg,Ur h1,Ur h2,Ut h3]at h;cases h
 rw[vT h1 h2 h3]at h ⊢;have h2:s.getD (s.length-8) 0=35:=VM.1 λz=>h2 (.inl z)
 have h3:=VM.1 h3;obtain⟨B,hB⟩:∃B,B=s.take (s.length-8):=⟨_,rfl⟩;have hs:s=B++[35]++gC B:=by
  rw[hB,h3];have e1:=U8 (s.length-8) s;rw[VC (show s.length-8<s.length by omega)]at e1;have e2:s[s.length-8]=35:=by rw[<-h2,UQ,Uj (show s.length-8<s.length by omega)];rfl
  rw[e2,show s.length-8+1=s.length-7 by omega]at e1;rw[Uf];exact e1.symm
 rw[<-hB]at h ⊢;clear hB h3 h2 h1;have hno:=vU (c:=32) (s:=B);have hsp:=kD (c:=32) (s:=B);generalize (bU 32 B).1=p at *;generalize (bU 32 B).2.1=q at *;generalize (bU 32 B).2.2=fd at *;obtain⟨hd,hr,hc,he⟩:=FI h;rw[he];have hfd:fd=true:=by
  cases hf:fd with
  |true=>rfl
  |false=>rw[hno hf]at hr;cases hr
 have hBp:=hsp hfd;obtain⟨w,rest,d,hws,hk,hl,hne,QE⟩:=tr hr;have hre:=rN hk hl hne QE;refine⟨hc,?_⟩;have hb:cX (Gs p q)=B:=by
  have hdn:dS (cT p)=p:=by rw[cT,Ut hd];exact uB hd
  have hw2:pW (Gs p q)=p::aA 32 q:=by
   unfold Gs;rw[hws,hre];show [dS (cT p),bw d]++rest.take (aC d).length++((rest.drop (aC d).length).map cT).map dS=_;rw[hdn,Au QE,<-fj hk,Uf,U8];rfl
  rw[cX,hw2,iu eo,gp,<-hBp]
 rw[fN,hb,hs]
def jZ{a b}:gm (a++b)=gm a++gm b:=by rw[gm,Up,VG];rfl
def mi{e}:gm [e]=fN e:=by simp[gm]
def FB:∀{f s l a},s.length<f->(eJ f s l a).2.2=0->(eJ f s l a).1=l/\s=[]\/∃e r,dK e=0/\s=fN e++r/\r.length<f-1/\eJ f s l a=eJ (f-1) r (l++[e]) (a+(fN e).length)
 | 0,s,l,a,hf,_=>by omega
 |f+1,s,l,a,hf,h=>by
  rw[eJ]at h ⊢;by_cases h1:s=[]
  ·rw[Ut h1];exact .inl ⟨rfl,h1⟩
  rw[Ur h1]at h ⊢;cases hw:(bU 10 s).2.2 with
  |false=>rw[hw]at h;cases h
  |true=>
  have hsp:=kD hw;rw[hw]at h;by_cases h2:(cg (bU 10 s).1 ((l.length:Int)+1)).2=0
  case neg=>exact absurd (show(cg (bU 10 s).1 ((l.length:Int)+1)).2=0 from by simp only[UA,U3,UC]at h;rw[Ut h2]at h;exact h) h2
  obtain⟨g1,g2⟩:=pR h2;refine .inr ⟨(cg (bU 10 s).1 ((l.length:Int)+1)).1,(bU 10 s).2.1,g1,?_,?_,?_⟩
  ·rw[g2,Uf];exact hsp
  ·have:=UM List.length hsp;simp only[Ud,Ui]at this;omega
  ·rw[g2];simp only[UA,U3,UC];rw[Ur (λz=>z h2)];simp only[Ud,Us,Nat.add_assoc,Nat.add_sub_cancel]
theorem tn:∀{f s l a},s.length<f->(eJ f s l a).2.2=0->gm (eJ f s l a).1=gm l++s
 | 0,s,l,a,hf,_=>by omega
 |f+1,s,l,a,hf,h=>by
  rcases FB hf h with⟨h1,h2⟩|⟨e,r,_,hs,hr,he⟩
  ·rw[h1,h2,UE]
  ·rw[he]at h ⊢;rw[Nat.add_sub_cancel]at h hr ⊢;rw[tn hr h,jZ,mi,hs,Uf]
def AA{s}(h:(cH s).2.2=0):gm (cH s).1=s:=by
 unfold cH at h ⊢;split at h
 ·cases h
 ·rename_i hl;rw[Ur hl];exact tn Om h
def yA{s n}(h:(cg s n).2=0):dK (cg s n).1=0:=(pR h).1
theorem wI:∀{f s l a},(∀e∈l,dK e=0)->∀e∈(eJ f s l a).1,dK e=0
 | 0,s,l,a,hl=>hl
 |f+1,s,l,a,hl=>by
  rw[eJ];split
  ·exact hl
  ·split
   ·exact hl
   ·by_cases h2:(cg (bU 10 s).1 ((l.length:Int)+1)).2=0
    ·simp only[];rw[Ur (λz=>z h2)];refine wI λe he=>?_
     rcases Um.1 he with he|he
     ·exact hl e he
     ·rw[Uw.1 he];exact yA h2
    ·simp only[];rw[Ut h2];exact hl
def Ae{s}:∀e∈(cH s).1,dK e=0:=by
 unfold cH;split
 ·intro e he;cases he
 ·exact wI (λe he=>by cases he)
structure MS(e:fp):Prop where
 num:0<=e.num/\e.num<10^15
 ba:∀x∈e.ba,0<=x/\x<10^15
 nl:e.names.length<=2^30
 vl:e.ba.length<=2^30
def AP{a b c}(h:aO [a,b,c]=0):a=0/\b=0/\c=0:=by
 simp only[aO]at h;by_cases ha:a=0
 ·rw[Ut ha]at h;by_cases hb:b=0
  ·rw[Ut hb]at h;by_cases hc:c=0
   ·exact⟨ha,hb,hc⟩
   ·rw[Ur hc]at h;exact absurd h hc
  ·rw[Ur hb]at h;exact absurd h hb
 ·rw[Ur ha]at h;exact absurd h ha
def vD{e}:(fN e).length=(cX e).length+9:=by
 have:=lH (cX e);unfold fN;simp;omega
theorem tq:∀{f s l a},(eJ f s l a).1.length<=l.length+s.length
 | 0,s,l,a=>Nat.le_add_right _ _
 |f+1,s,l,a=>by
  rw[eJ];split
  ·exact Nat.le_add_right _ _
  ·split
   ·exact Nat.le_add_right _ _
   ·rename_i hc;have hf:(bU 10 s).2.2=true:=by simpa using hc
    have:=(my hf).1;have h2:=UM List.length (my hf).2;rw[VB]at h2;simp only[];split
    ·exact Nat.le_add_right _ _
    ·refine Vk tq ?_;rw[Ud,Us];omega
def qC{s}:(cH s).1.length<=s.length:=by
 unfold cH;split
 ·exact UK _
 ·have:=tq (f:=s.length+1) (s:=s) (l:=[]) (a:=0)
  simpa using this
def yN(s:By)(e:fp):By×Int:=
 let no:=aO [(cH s).2.2,dK e,bB (decide (e.num≠((cH s).1.length:Int)+1)) 11]
 if no≠0 then([],no)else if 1000000<(s++fN e).length then([],26)else(s++fN e,0)
section
variable {P:Program}(T:eF P) {h:af}
include T
def r103{x}(ox:aZ h x)(b:MS x.ev)(hl:(cX x.ev).length<=2^40):ak P 103 [.agg x.row] h (λv _=>v=.str (cX x.ev)):=by
 refine .jP 45 T.mix T.c103 ?_;intro ts hlen t0;unfold fn103 gA;have Oj:=@aZ.box _ _ ox;have Q9:=b.nl;have Pc:=b.vl;obtain⟨W,hW⟩:∃W,W=[x.ev.kind]++x.ev.names++x.ev.ba.map dS:=⟨_,rfl⟩;have pre:∀A B:List (By),W=A++B->(dS x.ev.num++dR A).length<=2^40:=λA B e=>Vk (Bk (hW.symm.trans e)) hl
 have bc:∀{A:List (By)},(dS x.ev.num++dR A).length<=2^40->dM .add (.str (dS x.ev.num++dR A)) (.str [32])=some (.str (dS x.ev.num++dR A++[32])):=λhA=>dL (by rw[Us];omega)
 have bc2:∀{A:List (By)}{w:By},(dS x.ev.num++dR (A++[w])).length<=2^40->dM .add (.str (dS x.ev.num++dR A++[32])) (.str w)=some (.str (dS x.ev.num++dR (A++[w]))):=λ{A w} hA=>by
  have e:dS x.ev.num++dR A++[32]++w=dS x.ev.num++dR (A++[w]):=by rw[qX,yt];simp
  rw[<-e]at hA ⊢;exact dL (by rw[Ud]at hA;omega)
 have pk:=pre [x.ev.kind] (x.ev.names++x.ev.ba.map dS) (by rw[hW];rfl);have p0:=pre [] W rfl;have b0:=bc (A:=[]) p0;have b1:=bc2 (A:=[]) (w:=x.ev.kind) pk;rw[show dR []=[]from rfl,UE]at b0 b1;rw[VD]at b1;refine Rs (A3 t0 @Oj @gF) ?_;refine WF.ce T.c108 (r108 T (k:=14) b.num.1 b.num.2 Om) λg1=>?_
 refine Rs (A4 t0 @b0 @fH @b1) ?_;obtain⟨H,hH⟩:∃H,H=h++[ai.cells x.row true false]++g1:=⟨_,rfl⟩;have m1:H[h.length]? =some (.cells x.row true false):=by rw[hH];exact(show Ext (h++[ai.cells x.row true false]) _ from Xx).some bO
 have eH:Ext h H:=by rw[hH];exact Xx
 rw[<-hH];clear hH Oj;have l1:=@jg _ _ _ m1;refine WL.inv T.mix (λn ts h'=>∃k:Nat,k<=x.ev.names.length/\n=x.ev.names.length-k/\h' =H/\ts.length=45/\slot ts 1=.ptr h.length 0/\slot ts 3=.str (dS x.ev.num++dR ([x.ev.kind]++x.ev.names.take k))/\slot ts 4=.int .i64 k) x.ev.names.length
  ⟨0,Om,rfl,rfl,(Sq t0),(Sq t0),(by simp only[aL,aR,bd,bf,reduceAdd,reduceMul,reduceLeDiff,reduceEqDiff,bj,hlen,UC,UD,Wf,UE]),iR⟩ ?_
 clear hlen t0;rintro _ ts h2 ⟨k,hk,rfl,hh,hlen,t1,t3,t4⟩;rw[hh];clear hh h2;by_cases hlt:k<x.ev.names.length
 ·have e3:=gh hlt;have ix:=ox.n.fx (kk:=.i64) hlt;have ld:∀{kk:af},Ext H kk->aq none (eO x.sn 1 k) (λb=>kk[b]?)=some (.str x.ev.names[k],.ar):=λ{kk} e=>ox.n.kK hlt rfl (eH.trans e)
  have OK:[x.ev.kind]++x.ev.names.take (k+1)=([x.ev.kind]++x.ev.names.take k)++[x.ev.names[k]]:=by rw[db hlt,Uf]
  have hsp:∀j,W=([x.ev.kind]++x.ev.names.take j)++(x.ev.names.drop j++x.ev.ba.map dS):=λj=>by
   rw[hW]
   conv=>lhs;rw[<-U8 j x.ev.names]
   simp only[Uf]
  have c1:=bc (pre _ _ (hsp k));have c2:=bc2 (A:=[x.ev.kind]++x.ev.names.take k) (w:=x.ev.names[k]) (by rw[<-OK];exact pre _ _ (hsp (k+1)));rw[<-OK]at c2;refine Rs (Hl t1 t3 t4 @l1 @bD ox.n.aS e3 @c1 ix @ld @c2 (wrapN (show k+1<2^63 by omega))) ?_;exact⟨x.ev.names.length-(k+1),Om,k+1,Om,rfl,rfl,rfl⟩
 have e3:=gG hlt;have ek:k=x.ev.names.length:=Om
 rw[ek,UU]at t3;refine Rs (A7 t1 t3 t4 @l1 @bD ox.n.aS e3) ?_;refine WL.inv T.mix (λn ts h'=>∃(k:Nat),k<=x.ev.ba.length/\n=x.ev.ba.length-k/\Ext H h'/\ts.length=45/\slot ts 1=.ptr h.length 0/\slot ts 3=.str (dS x.ev.num++dR ([x.ev.kind]++x.ev.names++(x.ev.ba.take k).map dS))/\slot ts 5=.int .i64 k) x.ev.ba.length
  ⟨0,Om,rfl,.refl _,(Sq t1),(Sq t1),(by simp only[aL,aR,bd,bf,reduceAdd,reduceMul,reduceLeDiff,reduceEqDiff,bj,hlen,UC,UD,t3,Wf,Ww,UE]),iR⟩ ?_
 clear hlen t1 t3 t4 e3 hlt hk ek;rintro _ ts h' ⟨k,hk,rfl,eh,hlen,t1,t3,t5⟩;have l1:∀{kk:af}{n:Option Nat}{a:Nat},Ext h' kk->aq n (.ptr h.length a) (λz=>kk[z]?)=dI n a (.cells x.row true false):=λe=>az ((eh.trans e).some m1)
 by_cases hlt:k<x.ev.ba.length
 ·have e3:=gh hlt;have ix:=ox.v.fx (kk:=.i64) hlt;have ld:∀{kk:af},Ext h' kk->aq none (eO x.sv 1 k) (λb=>kk[b]?)=some (.int .i64 x.ev.ba[k],.ar):=λ{kk} e=>ox.v.kK hlt rfl ((eH.trans eh).trans e)
  have hv:=b.ba x.ev.ba[k] (UB _);have OK:[x.ev.kind]++x.ev.names++(x.ev.ba.take (k+1)).map dS=([x.ev.kind]++x.ev.names++(x.ev.ba.take k).map dS)++[dS x.ev.ba[k]]:=by rw[db hlt,Up];simp only[Uf];rfl
  have hsp:∀j,W=([x.ev.kind]++x.ev.names++(x.ev.ba.take j).map dS)++(x.ev.ba.drop j).map dS:=λj=>by rw[hW,Uf ([x.ev.kind]++x.ev.names),<-Up,U8]
  have c1:=bc (pre _ _ (hsp k));have c2:=bc2 (A:=[x.ev.kind]++x.ev.names++(x.ev.ba.take k).map dS) (w:=dS x.ev.ba[k]) (by rw[<-OK];exact pre _ _ (hsp (k+1)));rw[<-OK]at c2;generalize x.ev.ba[k]=y at ld hv c2;refine Rs (uO t1 t3 t5 @l1 @bY ox.v.aS e3 @c1 ix @ld) ?_;refine WF.ce T.c108 (r108 T (k:=14) hv.1 hv.2 Om) λg2=>?_
  refine Rs (A5 t1 t3 t5 @c2 (wrapN (show k+1<2^63 by omega))) ?_;exact⟨x.ev.ba.length-(k+1),Om,k+1,Om,rfl,eh.trans ⟨_,rfl⟩,rfl,rfl⟩
 ·have e3:=gG hlt;have ek:k=x.ev.ba.length:=Om
  rw[ek,UU,<-v7]at t3;refine Rs (A7 t1 t3 t5 @l1 @bY ox.v.aS e3) ?_;exact⟨eH.trans eh,trivial⟩
def r40{L:List EV}{s:AV}(o:fB h L s)(b:∀x∈L,MS x.ev)(hl:(gm (L.map EV.ev)).length<=2^38)(hL:L.length<=2^40):ak P 40 [s] h (λv _=>v=.str (gm (L.map EV.ev))):=by
 refine .jP 28 T.mix T.c40 ?_;intro ts hlen t0;unfold fn40;refine Rs t0 ?_;refine WL.inv T.mix (λn ts h'=>∃k:Nat,k<=L.length/\n=L.length-k/\Ext h h'/\ts.length=28/\slot ts 0=s/\slot ts 3=.str (gm ((L.take k).map EV.ev))/\slot ts 4=.int .i64 k) L.length
  ⟨0,Om,rfl,.refl _,(Sq t0),(Sq t0),iR,iR⟩ ?_
 clear hlen t0;rintro _ ts h' ⟨k,hk,rfl,eh,hlen,t0,t3,t4⟩;by_cases hlt:k<L.length
 ·have e3:=gh hlt;have ix:=o.sl.fx (kk:=.i64) hlt;have ld:∀{kk:af},Ext h' kk->aq (some 5) (eO s 5 k) (λb=>kk[b]?)=some (.agg L[k].row,.ar):=λ{kk} e=>o.sl.mY hlt (eh.trans e)
  have hm:=UB hlt;have OK:(L.take (k+1)).map EV.ev=(L.take k).map EV.ev++[L[k].ev]:=by rw[db hlt,Up];rfl
  have PM:(gm ((L.take (k+1)).map EV.ev)).length<=2^38:=by
   have:L.map EV.ev=(L.take (k+1)).map EV.ev++(L.drop (k+1)).map EV.ev:=by rw[<-Up,U8]
   rw[this,jZ,Ud]at hl;omega
  rw[OK,jZ,mi]at PM;have hnew:gm ((L.take (k+1)).map EV.ev)=gm ((L.take k).map EV.ev)++fN L[k].ev:=by rw[OK,jZ,mi]
  have ox:=o.all _ hm;have hb:=b _ hm;generalize L[k]=x at ld PM hnew ox hb;generalize gm ((L.take k).map EV.ev)=S at t3 PM hnew;have h7:=lH (cX x.ev);rw[Ud,vD]at PM;have b1:=dL (x:=S) (y:=cX x.ev) Om;have b2:=dL (x:=S++cX x.ev) (y:=[35]) (by rw[Ud,Us];omega);have b3:=dL (x:=S++cX x.ev++[35]) (y:=gC (cX x.ev)) (by rw[Ud,Ud,Us];omega);have b4:=dL (x:=S++cX x.ev++[35]++gC (cX x.ev)) (y:=[10]) (by rw[Ud,Ud,Ud,Us,Us];omega);have hS:S++cX x.ev++[35]++gC (cX x.ev)++[10]=gm ((L.take (k+1)).map EV.ev):=by rw[hnew,fN];simp only[Uf]
  rw[hS]at b4;refine Rs (A7 t0 t3 t4 o.sl.aS e3 ix @ld) ?_;refine WF.ce T.c103 (r103 T (ox.ext (eh.trans Xx)) hb Om) λg1=>?_
  refine Rs (A7 t0 t3 t4 @b1 @b2 ix @ld) ?_;refine WF.ce T.c103 (r103 T (ox.ext (eh.trans Xx)) hb Om) λg2=>?_
  refine Rs (A3 t0 t3 t4) ?_;refine WF.ce T.c72 (r72 T _ Om) λg3=>?_
  refine Rs (A6 t0 t3 t4 @b3 @b4 (wrapN (show k+1<2^63 by omega))) ?_;exact⟨L.length-(k+1),Om,k+1,Om,rfl,eh.trans Xx,rfl,rfl⟩
 ·have e3:=gG hlt;have ek:k=L.length:=Om
  rw[ek,UU]at t3;refine Rs (A5 t0 t3 t4 o.sl.aS e3) ?_;exact⟨eh,trivial⟩
def r36(X:yR P)(Z:nJ P)(w:Pw h){s:By}{x:EV}(hsl:s.length<=2^37)(ox:aZ h x)(hx:x.ev.names.length<=2^40/\x.ev.ba.length<=2^40)(en:dK x.ev=0->Ke x.ev):ak P 36 [.str s,.agg x.row] h (λv _=>v=.dt [.str (yN s x.ev).1,.int .i64 (yN s x.ev).2]):=by
 refine .eQ 39 T.mix T.c36 ?_;intro ts hlen t0 t1;unfold fn36 gA;have Oj:=@aZ.box _ _ ox;refine Rs (A3 t0 t1 @Oj) ?_;refine WF.res T.c37 (r37 T X Z (w.ext Xx) s hsl) ?_;rintro _ g1 ⟨L,sl,hL,rfl,fr,_⟩;obtain⟨no,hno⟩:∃no,no=aO [(cH s).2.2,dK x.ev,bB (decide (x.ev.num≠((cH s).1.length:Int)+1)) 11]:=⟨_,rfl⟩;have Pu:yN s x.ev=if no≠0 then([],no)else if 1000000<(s++fN x.ev).length then([],26)else(s++fN x.ev,0):=by rw[hno];rfl
 have PZ:L.length=(cH s).1.length:=by rw[<-hL,Uv]
 have Po:=qC (s:=s);have w1:IntKind.i64.wrap (((L.map EV.row).length:Int)+1)=((cH s).1.length:Int)+1:=by rw[Uv,PZ];exact aH Om Om
 have SE:IntKind.i64.wrap ((L.length:Int)+1)=((cH s).1.length:Int)+1:=by rw[PZ];exact aH Om Om
 refine Rs (A3 t0 t1 @bW) ?_;refine WF.ce T.c67 (r67 T (ox.ext Xx) hx) λg2=>?_
 refine Rs (A6 t0 t1 @gF fr.aM.aS @w1 @SE) ?_;refine WF.ce T.c85 (r85 T _ _) λg3=>?_
 refine Rs (A2 t0 t1) ?_;refine WF.ce T.c74 (r74 T (bN [_,_,_]) Si) λg4=>?_
 rw[<-hno];by_cases hz:no=0
 case neg=>
  have d1:decide (no≠0)=true:=Uk hz;rw[Ut hz]at Pu;refine Rs (A3 t0 t1 @d1) ?_;rw[Pu]
 have d1:decide (no≠0)=false:=Uh λz=>z hz
 rw[Ur (λz=>z hz)]at Pu;have RM:dK x.ev=0:=by
  exact(AP (hno.symm.trans hz)).2.1
 have en:=en RM;have R1:=vD (e:=x.ev);have hbl:=en.bl;refine Rs (A4 t0 t1 @d1 @bW) ?_;refine WF.ce T.c97 (r97 T Z (ox.ext Xx) en (w.ext Xx)) λg5=>?_
 refine Rs (A3 t0 t1 (dL (show s.length+(fN x.ev).length<2^62 by omega))) ?_;by_cases h6:1000000<(s++fN x.ev).length
 ·have d6:decide ((1000000:Int)<(s++fN x.ev).length)=true:=Uk Om;rw[Ut h6]at Pu;refine Rs (A3 t0 t1 @d6) ?_;rw[Pu]
 ·have d6:decide ((1000000:Int)<(s++fN x.ev).length)=false:=Uh Om;rw[Ur h6]at Pu;refine Rs (A3 t0 t1 @d6) ?_;rw[Pu]
end
def CB(k:Nat):an:=(fn6).body.dr k
def tQ(k:Nat):an:=((fn6).body.dr k).hd
def Lv:CB 7=.seq (tQ 7) (CB 8):=rfl
def Lw:fn6=⟨90,2,[(4,none)],.seq (tQ 0) (.seq (tQ 1) (.seq (tQ 2) (.seq (tQ 3) (.seq (tQ 4) (.seq (tQ 5) (.seq (tQ 6) (CB 7)))))))⟩:=rfl
structure yX(h:af)(s:By)(L:List EV)(sl:AV):Prop where
 o:fB h L sl
 e:L.map EV.ev=(cH s).1
theorem yX.ext{h k s L sl}(o:yX h s L sl)(e:Ext h k):yX k s L sl:=⟨o.o.ext e,o.e⟩
def yX.len{h s L sl}(o:yX h s L sl):L.length<=s.length:=by
 have:=qC (s:=s);rw[<-o.e,Uv]at this;exact this
def yX.wf{h s L sl}(o:yX h s L sl):∀x∈L,∃d,uT x.ev d:=λx hx=>pT (Ae x.ev (by rw[<-o.e];exact UP hx))
def zg{e:fp}{d}(w:uT e d):e.names.length<=3/\e.ba.length<=3:=by
 have h3:(aC d).length<=3/\a8 d<=3:=by cases d<;>decide
 have:=w.nl;have:=w.vl;omega
def Ee{e:fp}{d}(w:uT e d):MS e:=by
 have h:=zg w;have hn:=w.nu;exact⟨Om,λx hx=>by have:=w.vr x hx;omega,Om,Om⟩
section
variable {P:Program}(T:eF P) {h:af}
include T
def AE(ha:∀k,Ext h k->ak P 15 [] k (λv _=>v=.bool true)){K:af}{ts:TS}{log:By}(hlg:log.length<=1500){L1 L2:List EV}{s1 s2:AV}{A:By}{bad i no:Int}(eK:Ext h K)(r1:yX K log L1 s1)(r2:yX K log L2 s2)(hlen:ts.length=90)
  (t5:slot ts 5=.str A) (t6:slot ts 6=.int .i64 bad) (t7:slot ts 7=s1) (t8:slot ts 8=.int .i64 i) (t9:slot ts 9=.int .i64 no) (t10:slot ts 10=s2) (t11:slot ts 11=.int .i64 i) (t12:slot ts 12=.int .i64 no) (t13:slot ts 13=.int .i64 bad) (t14:slot ts 14=.str A):
  WC P cB (CB 8) [] ts K (FQ [(4,none)] (MK h)):=by
 unfold CB fn6 gA;simp only[an.j,an.s,an.r,an.dr,an.tl];have hl:=r1.len;refine Rs (y9 t5 t6 t7 t8 t9 t10 t11 t12 t13 t14 @US) ?_;refine WF.ce T.c32 (r32 T r1.o r2.o (r1.e.trans r2.e.symm) Om (λx hx=>by obtain⟨d,w⟩:=r1.wf x hx;have:=zg w;omega)) λg1=>?_
 refine Rs (A5 t8 t9 t11 t12 @US) ?_;refine WF.ce T.c15 (ha _ (eK.trans ⟨g1,rfl⟩)) λg2=>?_
 refine Rs t8 ?_;exact⟨eK.trans (by rw[Uf];exact⟨_,rfl⟩),rfl⟩
def F4(ha:∀k,Ext h k->ak P 15 [] k (λv _=>v=.bool true)){K:af}{ts:TS}{log:By}(hlg:log.length<=1500){x:EV}{b2:Nat}(ox:aZ K x)(hn:∀n∈x.ev.names,n.length<=40)(mb:K[b2]? =some (.cells x.row true false)){L1 L2:List EV}{s1 s2:AV}{bad i no:Int}(hb:bad=aO [(cH log).2.2,dK x.ev,bB (decide (x.ev.num≠((cH log).1.length:Int)+1)) 11])(eK:Ext h K)(r1:yX K log L1 s1)(r2:yX K log L2 s2)(hlen:ts.length=90)
  (t2:slot ts 2=.ptr b2 0) (t5:slot ts 5=.str (yN log x.ev).1) (t6:slot ts 6=.int .i64 (yN log x.ev).2) (t7:slot ts 7=s1) (t8:slot ts 8=.int .i64 i) (t9:slot ts 9=.int .i64 no) (t10:slot ts 10=s2) (t11:slot ts 11=.int .i64 i) (t12:slot ts 12=.int .i64 no) (t13:slot ts 13=.int .i64 bad) (t14:slot ts 14=.str []):
  WC P cB (CB 7) [] ts K (FQ [(4,none)] (MK h)):=by
 have Pu:yN log x.ev=if bad≠0 then([],bad)else if 1000000<(log++fN x.ev).length then([],26)else(log++fN x.ev,0):=by rw[hb];rfl
 rw[Lv];generalize hR:CB 8=R;unfold tQ fn6 gA;simp only[an.j,an.s,an.r,an.dr,an.tl,an.hd];by_cases hz:bad=0
 case neg=>
  have d1:decide (bad=0)=false:=Uh hz;rw[Ut hz]at Pu;rw[Pu]at t5 t6;refine Rs (A4 t5 t6 t13 @d1) ?_;rw[<-hR];exact AE T ha hlg (A:=[]) (bad:=bad) (i:=i) (no:=no) eK r1 r2 Sn (Sq t5) (Sq t6) (Sq t7) (Sq t8) (Sq t9) (Sq t10) (Sq t11) (Sq t12) (Sq t13) (Sq t14)
 have d1:decide (bad=0)=true:=Uk hz;obtain⟨q1,q2,_⟩:=AP (hb.symm.trans hz);obtain⟨d,wx⟩:=pT q2;have hbl:=uG wx hn;have Po:=vD (e:=x.ev);rw[Ur (λz=>z hz),Ur (by rw[Ud];omega)]at Pu;have hlog:=AA q1;have PZ:=r2.len;have lb:=@jg _ _ _ mb;have bs:=@aZ.Df _ _ ox;refine Rs (A4 t2 t10 t13 @d1) ?_;refine WR.JX (N:=K.length) (w:=88) bO (Uq _) (r2.o.sl.ext Xx) (by rw[Uv];omega) λa1 y1 f1=>?_
 have p1:=f1.aM.one;obtain⟨Y,hY⟩:∃Z,Z=K++[ai.cells [] true false]++y1:=⟨_,rfl⟩;rw[<-hY]at f1 ⊢;have eY:Ext K Y:=by rw[hY,Uf];exact⟨_,rfl⟩
 have lb:∀{k n a},Ext Y k->aq n (.ptr b2 a) (λz=>k[z]?)=dI n a (.cells x.row true false):=λ{_ _ _} e=>lb (eY.trans e)
 refine Rs (A7 t2 t10 t13 @lb @bW @bs @p1) ?_;refine WR.Bt (B:=K) (cs:=L2.map EV.row) f1 rfl eY De (by rw[Uv];omega) ?_;intro W4 s4 x4 hf4 hn4 q4' l4 hk4;have hrow:L2.map EV.row++[x.row]=(L2++[x]).map EV.row:=by rw[Up];rfl
 rw[hrow]at hf4;have o4:fB W4 (L2++[x]) s4:=⟨hf4.aM,λy hy=>by
  rcases Um.1 hy with hy|hy
  ·exact(r2.o.all y hy).ext x4
  ·rw[Uw]at hy;rw[hy];exact ox.ext x4⟩
 have Qw:(L2++[x]).map EV.ev=(cH log).1++[x.ev]:=by rw[Up,r2.e];rfl
 have hlg2:gm ((L2++[x]).map EV.ev)=log++fN x.ev:=by rw[Qw,jZ,mi,hlog]
 refine Rs t2 ?_;refine WF.ce T.c40 (r40 T o4 (λy hy=>?_) (by rw[hlg2,Ud];omega) (by rw[Ud,Us];omega)) λg5=>?_
 ·rcases Um.1 hy with hy|hy
  ·obtain⟨d,w⟩:=r2.wf y hy;exact Ee w
  ·rw[Uw]at hy;rw[hy];exact Ee wx
 rw[hlg2];refine Rs t2 ?_;rw[<-hR];rw[Pu]at t5 t6;have t6':slot ts 6=.int .i64 bad:=by rw[t6,hz]
 have eW:Ext K (W4++g5):=x4.trans ⟨_,rfl⟩;refine AE T ha hlg (A:=log++fN x.ev) (bad:=bad) (i:=i) (no:=no) (eK.trans eW) (r1.ext eW) (r2.ext eW) Sn (Sq t5) (Sq @t6') (Sq t7) (Sq t8) (Sq t9) (Sq t10) (Sq t11) (Sq t12) (Sq t13) (Sq t14)
def r6(ha:∀k,Ext h k->ak P 15 [] k (λv _=>v=.bool true))(X:yR P)(Z:nJ P)(w:Pw h){x:EV}(ox:aZ h x)(zx:Hj x)(log:By)(_hl:log.length<2^63):ak P 6 [.agg x.row,.str log] h (λv _=>v=.bool true):=by
 refine .of T.mix (Eq.trans T.c6 (UM some Lw)) ?_;obtain⟨ts,Ol⟩:∃ts,ts=aQ 90 [.agg x.row,.str log]:=⟨_,rfl⟩;have hlen:ts.length=90:=by rw[Ol];rfl
 have t0:slot ts 0=.agg x.row:=by rw[Ol];rfl
 have t1:slot ts 1=.str log:=by rw[Ol];rfl
 show WC P cB (.seq (tQ 0) (.seq (tQ 1) (.seq (tQ 2) (.seq (tQ 3) (.seq (tQ 4) (.seq (tQ 5) (.seq (tQ 6) (CB 7)))))))) [] (aQ 90 [.agg x.row,.str log]) h (FQ [(4,none)] (MK h));rw[<-Ol];clear Ol;generalize hR:CB 7=R;unfold tQ fn6 gA;simp only[an.j,an.s,an.r,an.dr,an.tl,an.hd];have Oj:=@aZ.box _ _ ox;refine Rs (A3 t0 t1 @Oj) ?_;obtain⟨H0,Rh⟩:∃Z,Z=h++[ai.cells x.row true false]:=⟨_,rfl⟩;have e0:Ext h H0:=by rw[Rh];exact⟨_,rfl⟩
 have m2:H0[h.length]? =some (.cells x.row true false):=by rw[Rh];exact bO
 obtain⟨b2,O0⟩:∃Z,Z=h.length:=⟨_,rfl⟩;have l2:=@jg _ _ _ m2;rw[<-Rh];rw[<-O0]at m2 l2 ⊢;have ox:=ox.ext e0;have w:=w.ext e0;have ha0:∀k,Ext H0 k->ak P 15 [] k (λv _=>v=.bool true):=λk e=>ha k (e0.trans e)
 clear Rh Oj O0;have bs:=@aZ.Df _ _ ox;refine Rs (A5 t0 t1 @l2 @bW @bs) ?_;have o1:fB (H0++[ai.cells x.row true true]) [x] (.slice H0.length 0 1 5):=by
  refine⟨?_,λy hy=>by rw[Uw]at hy;rw[hy];exact ox.ext Xx⟩;have:=(Fr.push (N:=0) (es:=5) (h:=H0) (UK _) [x.row] (by intro y hy;rw[Uw]at hy;rw[hy];rfl)).aM
  simpa only[Vj,List.flatten_nil,UE,Ui,Ul,UX,Vl,Ww]using this
 refine WF.ce T.c14 (r14 T o1 (by rw[Us];decide) (λy hy=>by rw[Uw]at hy;rw[hy];exact zx.n) De) λg1=>?_
 cases hsx:k8 ([x].map EV.ev) 1 with
 |false=>
  refine Rs (A3 t0 t1 @UF) ?_;exact HX
 |true=>
 by_cases hlg:1500<log.length
 ·have d1:decide ((1500:Int)<log.length)=true:=Uk Om;refine Rs (A4 t0 t1 @UA @d1) ?_;exact HX
 have d1:decide ((1500:Int)<log.length)=false:=Uh Om;obtain⟨sx,nx,_,shx⟩:=zw hsx De;have hx:=sx.e x (Uw.2 rfl);have hsh:=shx x (Uw.2 rfl);have hn40:∀n∈x.ev.names,n.length<=40:=by
  simp only[ve,UH,UT,UJ]at hsh;exact hsh.2
 have hn:=nx.n x (Uw.2 rfl);have OQ:dK x.ev=0->Ke x.ev:=λhc=>by
  obtain⟨d,wx⟩:=pT hc;have h1:=zg wx;have h2:=wx.nu;have h3:=uG wx hn40;exact⟨Om,λy hy=>by have:=wx.vr y hy;omega,Om,Om,Om⟩
 refine Rs (A6 t0 t1 @UA @d1 @l2 @bW) ?_;refine WF.ce T.c36 (r36 T X Z (w.ext Xx) Om (ox.ext Xx) ⟨Om,Om⟩ OQ) λg2=>?_
 refine Rs (A2 t0 t1) ?_;refine WF.res T.c37 (r37 T X Z (w.ext Xx) log Om) ?_;rintro _ g3 ⟨L1,s1,hL1,rfl,fr1,in1⟩;have r1:yX _ log L1 s1:=⟨⟨fr1.aM,λy hy=>(in1 y hy).ok⟩,hL1⟩;refine Rs (A2 t0 t1) ?_;refine WF.res T.c38 (r38 T log Om) ?_;rintro _ g4 ⟨L2,s2,hL2,rfl,fr2,in2⟩;have r2:yX _ log L2 s2:=⟨⟨fr2.aM,λy hy=>(in2 y hy).ok⟩,hL2⟩;have r1:=r1.ext ⟨g4,rfl⟩;obtain⟨K,hK⟩:∃K,K=H0++[ai.cells x.row true true]++g1++g2++g3++g4:=⟨_,rfl⟩;have eK:Ext H0 K:=by rw[hK];exact Xx
 rw[<-hK]at r1 r2 fr2 ⊢;clear hK fr1 in1 in2;have oK:=ox.ext eK;have mK:=eK.some m2;have lK:=@jg _ _ _ mK;have PZ:=r2.len;have hle:L2.length=(cH log).1.length:=by rw[<-hL2,Uv]
 have w1:IntKind.i64.wrap (((L2.map EV.row).length:Int)+1)=((cH log).1.length:Int)+1:=by rw[Uv,hle];exact aH Om Om
 have SE:IntKind.i64.wrap ((L2.length:Int)+1)=((cH log).1.length:Int)+1:=by rw[hle];exact aH Om Om
 refine Rs (A4 t0 t1 @lK @bW) ?_;refine WF.ce T.c39 (r39 T oK ⟨Om,Om⟩ hn) λg5=>?_
 refine Rs (A7 t0 t1 @lK @gF r2.o.sl.aS @w1 @SE) ?_;refine WF.ce T.c19 (r19 T _ _) λg6=>?_
 refine Rs (A2 t0 t1) ?_;refine WF.ce T.c21 (r21 T (bN [_,_,_]) Si) λg7=>?_
 refine Rs (A2 t0 t1) ?_;rw[<-hR];refine F4 T ha (log:=log) (x:=x) (b2:=b2) (L1:=L1) (L2:=L2) (s1:=s1) (s2:=s2) (bad:=aO [(cH log).2.2,dK x.ev,bB (decide (x.ev.num≠((cH log).1.length:Int)+1)) 11]) (i:=(cH log).2.1) (no:=(cH log).2.2) Om ?_ hn40 ?_ rfl ?_ ?_ ?_ Sn (Sq t0) (Sq t0) (Sq t0) (Sq t0) (Sq t0) (Sq t0) (Sq t0) (Sq t0) (Sq t0) (Sq t0) (Sq t0)
 ·exact oK.ext Xx
 ·exact(show Ext K _ from Xx).some mK
 ·exact(e0.trans eK).trans Xx
 ·exact r1.ext Xx
 ·exact r2.ext Xx
end
end Go.Abs
