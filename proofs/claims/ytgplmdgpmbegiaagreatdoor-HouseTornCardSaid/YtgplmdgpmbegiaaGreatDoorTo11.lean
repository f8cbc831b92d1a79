/- A part of the proof that HouseTorn holds. No condition. -/
import Derived.Test.YtgplmdgpmbegiaaGreatDoorTo9
import Derived.Test.YtgplmdgpmbegiaaGreatDoorTo8
import Derived.Test.YtgplmdgpmbegiaaGreatDoorTo10
import Derived.Test.YtgplmdgpmbegiaaGreatDoorTo7
import Derived.Test.YtgplmdgpmbegiaaGreatDoorTo0
set_option maxHeartbeats 4000000
set_option linter.all false
open Nat (reduceAdd reduceMul reduceLeDiff reduceEqDiff)
namespace Go.Abs
theorem qW{α:Type}{row:α->List AV}{Q:α->Prop}:∀{cs:List (List AV)},(∀c∈cs,∃x,c=row x/\Q x)->∃L:List α,cs=L.map row/\∀x∈L,Q x
 |[],_=>⟨[],rfl,λ_ h=>by cases h⟩
 |c::cs,h=>by
  obtain⟨x,rfl,hx⟩:=h c (aba ..);obtain⟨L,rfl,hL⟩:=qW (cs:=cs) λc hc=>h c (aaP _ hc)
  exact⟨x::L,rfl,λy hy=>(aaN.1 hy).elim (λe=>e▸hx) (hL y)⟩
def jD{n}(h:n<=maxLen):n<2^63:=by unfold maxLen at h;omega
def rD{h k a}(x:TY h (.int k) a):∃z,a=.int k z/\(Lit.int k z).wf=true:=by rw[TY]at x;exact x
def yr{h a}(x:TY h .str a):∃s:By,a=.str s/\s.length<=maxLen:=by rw[TY]at x;exact x
def Cr{h r a}(x:TY h (.sl r) a):∃cs:List (List AV),aI h a r.length cs/\cs.length<=maxLen/\∀c∈cs,jA h r c:=by rw[TY]at x;exact x
def qV{h l}(x:jA h [] l):l=[]:=by rw[jA]at x;exact x
def gf{h t ts l}(x:jA h (t::ts) l):∃a l',l=a::l'/\TY h t a/\jA h ts l':=by rw[jA]at x;exact x
def Cq{h l}(x:tG h [] l):l=[]:=by rw[tG]at x;exact x
def tN{h t ts l}(x:tG h (t::ts) l):∃a l',l=a::l'/\Iq h t a/\tG h ts l':=by rw[tG]at x;exact x
def yq{z}(h:(Lit.int .u16 z).wf=true):0<=z/\z<=65535:=by
 simp only[Lit.wf,aaM,aaX]at h;exact⟨h.1,h.2⟩
def ER{h:ah}{a:AV}(x:TY h (.sl [.str]) a):∃L:List (By),aI h a 1 (L.map aq)/\L.length<=maxLen/\∀s∈L,s.length<=maxLen:=by
 obtain⟨cs,hs,hl,hc⟩:=Cr x;obtain⟨L,rfl,hL⟩:=qW (row:=aq) (Q:=λs=>s.length<=maxLen) λc Yf=>by
  obtain⟨_,_,rfl,h1,x⟩:=gf (hc c Yf);obtain rfl:=qV x;obtain⟨s,rfl,hs⟩:=yr h1;exact⟨s,rfl,hs⟩
 exact⟨L,hs,by simpa using hl,hL⟩
def ES{h:ah}{a:AV}(x:TY h (.sl [.int .i64]) a):∃L:List Int,aI h a 1 (L.map aH)/\L.length<=maxLen/\∀z∈L,(Lit.int .i64 z).wf=true:=by
 obtain⟨cs,hs,hl,hc⟩:=Cr x;obtain⟨L,rfl,hL⟩:=qW (row:=aH) (Q:=λz=>(Lit.int .i64 z).wf=true) λc Yf=>by
  obtain⟨_,_,rfl,h1,x⟩:=gf (hc c Yf);obtain rfl:=qV x;obtain⟨s,rfl,hs⟩:=rD h1;exact⟨s,rfl,hs⟩
 exact⟨L,hs,by simpa using hl,hL⟩
def Gm:List CT:=[.int .i64,.str,.sl [.str],.sl [.int .i64],.str]
structure KJ(x:EV):Prop where
 n:x.ev.names.length<2^63
 v:x.ev.bK.length<2^63
 nn:∀n∈x.ev.names,n.length<2^63
 i:(Lit.int .i64 x.ev.num).wf=true
 k:x.ev.kind.length<2^63
 t:x.ev.text.length<2^63
 iv:∀z∈x.ev.bK,(Lit.int .i64 z).wf=true
def IH{h c}(x:jA h Gm c):∃y:EV,c=y.row/\bd h y/\KJ y:=by
 obtain⟨_,_,rfl,h1,x⟩:=gf x;obtain⟨_,_,rfl,h2,x⟩:=gf x;obtain⟨sn,_,rfl,h3,x⟩:=gf x;obtain⟨sv,_,rfl,h4,x⟩:=gf x;obtain⟨_,_,rfl,h5,x⟩:=gf x;obtain rfl:=qV x;obtain⟨n,rfl,hn⟩:=rD h1;obtain⟨k,rfl,hk⟩:=yr h2;obtain⟨N,hN,hNl,hNs⟩:=ER h3;obtain⟨W,hW,hWl,hWs⟩:=ES h4;obtain⟨t,rfl,ht⟩:=yr h5;exact⟨⟨⟨n,k,N,W,t⟩,sn,sv⟩,rfl,⟨hN,hW⟩,⟨jD hNl,jD hWl,λs hs=>jD (hNs s hs),hn,jD hk,jD ht,hWs⟩⟩
structure EE(L:List EV):Prop where
 l:L.length<2^63
 e:∀x∈L,KJ x
def EP{h:ah}{a:AV}(x:Iq h (.one (.sl Gm)) a):∃L:List EV,dJ h L a/\EE L:=by
 obtain⟨cs,hs,hl,hc⟩:=Cr (h:=h) x;obtain⟨L,rfl,hL⟩:=qW (row:=EV.row) (Q:=λy=>bd h y/\KJ y) λc Yf=>IH (hc c Yf)
 exact⟨L,⟨hs,λy hy=>(hL y hy).1⟩,⟨jD (by simpa using hl),λy hy=>(hL y hy).2⟩⟩
def CC{L n}(h:kf (L.map EV.ev) n=true)(hn:n<=1000):B0 L/\SO L/\L.length<=1000/\∀x∈L,zI x.ev=true:=by
 rw[kf,aaM,aaX,aak]at h;have ha:∀x∈L,zI x.ev=true:=λx hx=>aaO.1 h.2 _ (aaH hx)
 have key:∀x∈L,x.ev.names.length<=6/\x.ev.bK.length<=8/\∀n∈x.ev.names,n.length<=40:=λx hx=>by
  have:=ha x hx;simp only[zI,aaM,aaX,aaO]at this;exact⟨this.1.1.1.2,this.1.1.2,this.2⟩
 refine⟨⟨Om,λx hx=>?_⟩,⟨λx hx n hn=>?_⟩,Om,ha⟩
 ·have:=key x hx;omega
 ·have:=(key x hx).2.2 n hn;omega
set_option maxRecDepth 10000
attribute [local irreducible] WP WC WE WB WR WF WL WG eZ WM
section
variable {P:Program}(T:eD P) {h:ah}
include T
def Cc(h:ah):AV->ah->Prop:=λv k=>Ext h k/\v=.bool true
end
def dJ.cut{h:ah}{L:List EV}{s:AV}(o:dJ h L s){i:Nat}(hi:i<=L.length):∃s',zH 5 s none (some (.int .i64 (i:Int)))=some (s',.ar)/\dJ h (L.take i) s':=by
 obtain⟨s',e,h'⟩:=o.sl.EG (lo:=none) (hi:=some (.int .i64 (i:Int))) (l:=0) (u:=i) (ju hi);exact⟨s',e,by simpa using h',λx hx=>o.all x (abc hx)⟩
def E6{L:List EV}{k:Nat}(h:k<L.length):(L.take (k+1)).map EV.ev=(L.take k).map EV.ev++[(L[k]).ev]:=by
 rw[aa1,aai h,aap];rfl
def Oe{L:List EV}{k:Nat}(h:k<L.length)(h0:(bF (L.map EV.ev)).2.2=0):(bF ((L.take k).map EV.ev)).2.2=0/\eM (bF ((L.take k).map EV.ev)).1 (L[k]).ev=0/\bF ((L.take (k+1)).map EV.ev)=(iY (bF ((L.take k).map EV.ev)).1 (L[k]).ev,0,0):=by
 have e:L.map EV.ev=(L.take k).map EV.ev++(L[k]).ev:: (L.drop (k+1)).map EV.ev:=by
  conv=>lhs;rw[<-aaT k L,abj h,aap,abd]
 rw[e]at h0;rw[E6 h];exact C7 h0
section
variable {P:Program}(T:eD P) {h:ah}
include T
def r33{L:List EV}{s:AV}(o:dJ h L s)(sz:EE L){n:Int}(hn:n<=1000):ay P 33 [s,.int .i64 n] h (λv _=>v=.bool (kf (L.map EV.ev) n&&decide ((bF (L.map EV.ev)).2.2=0))):=by
 refine .eQ 20 T.mix T.c33 ?_;intro ts hlen t0 t1;unfold fn33 gA;refine Rs (A2 t0 t1) ?_;refine WF.ce T.c14 (r14 T o sz.l (λx hx=>(sz.e x hx).n) hn) λg1=>?_
 cases hsh:kf (L.map EV.ev) n with
 |false=>exact Rs (A4 t0 t1 @aaI @acg) Tv
 |true=>
 obtain⟨sh,nl,_,_⟩:=CC hsh hn;refine Rs (A3 t0 t1 @aaD) ?_;refine WF.res T.c18 (r18 T (o.ext Xx) sh nl) ?_;rintro _ g2 ⟨V,rfl,oV,hV,wV,lo⟩;have st:=@aC.st _ _ oV;exact Rs (A4 t0 t1 @st @abD) Tv
end
section
variable {P:Program}(T:eD P) {h:ah}
include T
def r32{L M:List EV}{s t:AV}(o:dJ h L s)(p:dJ h M t)(e:L.map EV.ev=M.map EV.ev)(hl:L.length<2^40)(hn:∀x∈L,x.ev.names.length<2^40/\x.ev.bK.length<2^40):ay P 32 [s,t] h (λv _=>v=.bool true):=by
 have V5:L.length=M.length:=by have:=aaR List.length e;simpa using this
 refine .eQ 82 T.mix T.c32 ?_;intro ts hlen t0 t1;unfold fn32;have q0:decide ((L.length:Int)≠M.length)=false:=aaf Om;refine Rs (A5 t0 t1 o.sl.aK p.sl.aK q0) ?_;refine WL.inv T.mix (λm ts h'=>∃k:Nat,k<=L.length/\m=L.length-k/\Ext h h'/\ts.length=82/\slot ts 0=s/\slot ts 1=t/\slot ts 5=.int .i64 k) L.length
  ⟨0,Om,rfl,Ext.refl h,Sn,(Sq t0),(Sq t1),gX⟩ ?_
 rintro _ ts W ⟨k,hk,rfl,eW,hlen,t0,t1,t5⟩;have o:=o.ext eW;have p:=p.ext eW;by_cases hlt:k<L.length
 ·have V4:k<M.length:=Om
  have e3:=eO hlt;have e5:=wrapN (n:=k) Om;have ix:=o.sl.dK (kk:=.i64) hlt;have iy:=p.sl.dK (kk:=.i64) V4;obtain⟨x,hx⟩:∃x,x=L[k]:=⟨_,rfl⟩;obtain⟨y,hy⟩:∃y,y=M[k]:=⟨_,rfl⟩;have exy:y.ev=x.ev:=by
   have h1:(L.map EV.ev)[k]? =some x.ev:=by rw[abz,aai hlt,hx];rfl
   have h2:(M.map EV.ev)[k]? =some y.ev:=by rw[abz,aai V4,hy];rfl
   rw[e,h2]at h1;exact abf h1
  have Uc:x∈L:=by rw[hx];exact aat _
  have ZP:y∈M:=by rw[hy];exact aat _
  have ox:=o.all x Uc;have oy:=p.all y ZP;have oyn:=oy.n;have oyv:=oy.v;rw[exy]at oyn oyv;have a0:∀{kk:ah},Ext W kk->ao none (j9 s 5 k 0) (λb=>kk[b]?)=some (.int .i64 x.ev.num,.ar):=λ{kk} e=>o.sl.mi hlt (by rw[<-hx];rfl) e
  have a1:∀{kk:ah},Ext W kk->ao none (j9 s 5 k 1) (λb=>kk[b]?)=some (.str x.ev.kind,.ar):=λ{kk} e=>o.sl.mi hlt (by rw[<-hx];rfl) e
  have a2:∀{kk:ah},Ext W kk->ao none (j9 s 5 k 2) (λb=>kk[b]?)=some (x.sn,.ar):=λ{kk} e=>o.sl.mi hlt (by rw[<-hx];rfl) e
  have a3:∀{kk:ah},Ext W kk->ao none (j9 s 5 k 3) (λb=>kk[b]?)=some (x.sv,.ar):=λ{kk} e=>o.sl.mi hlt (by rw[<-hx];rfl) e
  have a4:∀{kk:ah},Ext W kk->ao none (j9 s 5 k 4) (λb=>kk[b]?)=some (.str x.ev.text,.ar):=λ{kk} e=>o.sl.mi hlt (by rw[<-hx];rfl) e
  have b0:∀{kk:ah},Ext W kk->ao none (j9 t 5 k 0) (λb=>kk[b]?)=some (.int .i64 x.ev.num,.ar):=λ{kk} e=>by rw[<-exy];exact p.sl.mi V4 (by rw[<-hy];rfl) e
  have b1:∀{kk:ah},Ext W kk->ao none (j9 t 5 k 1) (λb=>kk[b]?)=some (.str x.ev.kind,.ar):=λ{kk} e=>by rw[<-exy];exact p.sl.mi V4 (by rw[<-hy];rfl) e
  have b2:∀{kk:ah},Ext W kk->ao none (j9 t 5 k 2) (λb=>kk[b]?)=some (y.sn,.ar):=λ{kk} e=>p.sl.mi V4 (by rw[<-hy];rfl) e
  have b3:∀{kk:ah},Ext W kk->ao none (j9 t 5 k 3) (λb=>kk[b]?)=some (y.sv,.ar):=λ{kk} e=>p.sl.mi V4 (by rw[<-hy];rfl) e
  have b4:∀{kk:ah},Ext W kk->ao none (j9 t 5 k 4) (λb=>kk[b]?)=some (.str x.ev.text,.ar):=λ{kk} e=>by rw[<-exy];exact p.sl.mi V4 (by rw[<-hy];rfl) e
  have n0:decide (x.ev.num≠x.ev.num)=false:=Si
  have n1:decide (x.ev.kind≠x.ev.kind)=false:=Si
  have n4:decide (x.ev.text≠x.ev.text)=false:=Si
  refine Rs (B4 t0 t1 t5 e3 o.sl.aK ix @iy @a0 @b0 @a1 @b1 @a2 @b2 @n0 @n1) ?_;refine WF.ce T.c25 (r25 T ox.n oyn (hn x Uc).1 (hn x Uc).1) λg1=>?_
  refine Rs (A9 t0 t1 t5 ix @iy @a3 @b3 @aaE @aaD) ?_;refine WF.ce T.c62 (r62 T (ox.v.ext Xx) (oyv.ext Xx) (hn x Uc).2 (hn x Uc).2) λg2=>?_
  refine Rs (n6 t0 t1 t5 ix @iy @a4 @b4 @n4 @aaE @aaD e5) ?_;exact⟨_,Om,k+1,Om,rfl,eW.trans Xx,rfl⟩
 ·have e3:=fC hlt;refine Rs (A5 t0 t1 t5 e3 o.sl.aK) ?_;exact⟨eW,trivial⟩
end
section
variable {P:Program}(T:eD P) {h K:ah}{ts:TS}{V U:RV}{b c:Nat}(o:aC K V) (p:aC K U) (e:V.an=U.an) (w:fM V.an) (eh:Ext h K) (mv:K[b]? =some (.cells V.row true false)) (mu:K[c]? =some (.cells U.row true false))
include T o p e w eh mv mu
end
section
variable {P:Program}(T:eD P) {h:ah}
include T
end
section
variable {P:Program}(T:eD P) {h W:ah}{ts:TS}{V:RV}{Ss:List AV}(o:aC h V) (w:fM V.an)
include T o
include w
end
section
variable {P:Program}(T:eD P) {h:ah}
include T
end
section
variable {P:Program}(T:eD P) {h:ah}
include T
end
section
variable {P:Program}(T:eD P) {h:ah}
include T
end
def tu(l:List cQ)(k:Nat):List Int:=(List.range k).map λi=>((aJ (l.take (i+1))).length:Int)
def vq{l k}:(tu l k).length=k:=by simp[tu]
def vt{l k i}(h:i<(tu l k).length):(tu l k)[i]=((aJ (l.take (i+1))).length:Int):=by simp[tu]
def DW{l k}:tu l (k+1)=tu l k++[((aJ (l.take (k+1))).length:Int)]:=by rw[tu,List.range_succ,aap];rfl
def Dx{es:List cQ}(j:Nat):(aJ es).take (aJ (es.take j)).length=aJ (es.take j):=by
 conv=>lhs;rw[<-aaT j es,gQ]
 rw[aaT,ach]
def Jq{es:List cQ}(j:Nat):(aJ es).drop (aJ (es.take j)).length=aJ (es.drop j):=by
 conv=>lhs;rw[<-aaT j es,gQ]
 rw[aaT,acO]
def nO{es:List cQ}(j:Nat):(aJ (es.take j)).length<=(aJ es).length:=by
 have:=aaR List.length (Dx (es:=es) j);rw[aaZ]at this;omega
def FV{es:List cQ}{r:Nat}(ho:rX 0 es)(hl:(aJ es).length<=1000000)(hr:r+1<es.length):(cD (aJ (es.take r)++aJ (es.drop (r+1)))).2.2=11:=by
 have e1:es.drop (r+1)=es[r+1]::es.drop (r+2):=abj hr;have e2:es.drop r=es[r]::es.drop (r+1):=abj Om;have e3:es=es.take r++es[r]::es[r+1]::es.drop (r+2):=by rw[<-e1,<-e2,aaT]
 rw[e1];exact Bb (e:=es[r]) (e3▸ho) (by rw[<-e3];exact hl)
def Dm{es:List cQ}(ho:rX 0 es)(k:Nat):rX 0 (es.take k):=by
 have e:=(aaT k es).symm;rw[e]at ho;exact(k5.1 ho).1
def Jf{es:List cQ}(ho:rX 0 es){k:Nat}(hk:k<es.length):eJ es[k]=0/\es[k].num=(k:Int)+1:=by
 have e:es=es.take k++es[k]::es.drop (k+1):=by rw[<-abj hk,aaT]
 have h:=ho;rw[e]at h;have:=(k5.1 h).2.1;rw[aaZ,abT Om,aa4]at this;exact this
def Km{es:List cQ}{k:Nat}(ho:rX 0 es)(hl:(aJ es).length<=1000000)(hk:k<es.length):Em (aJ (es.take k)) es[k]=(aJ (es.take (k+1)),0):=by
 obtain⟨h1,h2⟩:=Jf ho hk;have hle:=nO (es:=es) k;have hle1:=nO (es:=es) (k+1);have hn:aJ (es.take k)++fB es[k]=aJ (es.take (k+1)):=by rw[fD hk,gQ,sj]
 have hf:bt [(0:Int),0,bX (decide (es[k].num≠((es.take k).length:Int)+1)) 11]=0:=by
  rw[h2,aaZ,abT Om];simp[bt,bX]
 unfold Em;rw[wG (Dm ho k) Om,h1];simp only[];rw[hf,aao (λz=>z rfl),hn,aao Om]
theorem Dy:∀{l:List cQ},(∀e∈l,(fB e).length<=529)->(aJ l).length<=l.length*529
 |[],_=>by simp[aJ]
 |e::r,h=>by
  have h1:=h e Si;have h2:=Dy (l:=r) λy hy=>h y (aaP _ hy)
  rw[jM,aac,aah,aby];omega
def NX{N K b V}(o:b9 N K b V){j}(hj:some j∈V.ex b):N<=j:=by
 unfold HV.ex at hj;simp only[aaN,abb,abP]at hj;rcases hj with hj|hj|hj|hj
 ·cases hj;exact o.hN
 ·exact(o.oe.bM hj.symm).1
 ·exact(o.oc.bM hj.symm).1
 ·exact(o.og.bM hj.symm).1
def vg{l:List EV}(w:∀x∈l,∃d,jf x.ev d)(hl:l.length<=20):(aJ (l.map EV.ev)).length<=10580:=by
 have:(aJ (l.map EV.ev)).length<=(l.map EV.ev).length*529:=Dy λe he=>by
  obtain⟨x,hx,rfl⟩:=aaK.1 he;obtain⟨d,we⟩:=w x hx;have:=(sO we).2;rw[uV];omega
 rw[aak]at this;have h2:l.length*529<=20*529:=abl _ hl;omega
def dJ.tail{h:ah}{L:List EV}{s:AV}(o:dJ h L s){i:Nat}(hi:i<=L.length):∃s',zH 5 s (some (.int .i64 (i:Int))) none=some (s',.ar)/\dJ h (L.drop i) s':=by
 obtain⟨s',e,h'⟩:=o.sl.EG (lo:=some (.int .i64 (i:Int))) (hi:=none) (l:=i) (u:=L.length) (lA hi);have q:(L.drop i).take (L.length-i)=L.drop i:=aaV (by rw[abv];omega);exact⟨s',e,by rw[q]at h';exact h',λx hx=>o.all x (List.mem_of_mem_drop hx)⟩
def OP:By:=[117,110,115,97,102,101,44,114,101,108,101,97,115,101,100,44,108,101,102,116,32,106,49,44,102,114,111,109,32,112,49,44,108,105,110,101,115,32,109,49,44,116,97,112,101,115,32,115,49,44,119,97,110,116,32,108,49]
def MN:∀w∈bh 44 OP,¬4096<w.length/\w≠[]/\(jI ((bh 32 w).headD [])).isSome=true:=by decide+kernel
def I6:(bh 44 OP).length=7:=by decide+kernel
def lQ(k:Nat):ai:=(fn10).body.dr k
def kS(k:Nat)(hk:k<19):lQ k=.seq (lQ k).hd (lQ (k+1)):=by
 have:k=0\/k=1\/k=2\/k=3\/k=4\/k=5\/k=6\/k=7\/k=8\/k=9\/k=10\/k=11\/k=12\/k=13\/k=14\/k=15\/k=16\/k=17\/k=18:=Om
 rcases this with rfl|rfl|rfl|rfl|rfl|rfl|rfl|rfl|rfl|rfl|rfl|rfl|rfl|rfl|rfl|rfl|rfl|rfl|rfl<;>rfl
def Pp:fn10=⟨279,2,[(4,none)],lQ 0⟩:=rfl
def rF(c0 c1 c2:Int):ak:=.cells [.int .u16 c0,.int .u16 c1,.int .u16 c2] true false
def NB{len es b o:Nat}{k:IntKind}(h:2<len):j8 len es (.ptr b o) (.int k 2)=some (.ptr b (o+2*es)):=by
 exact z145
def QM{len es b o:Nat}{k:IntKind}(h:0<len):j8 len es (.ptr b o) (.int k 0)=some (.ptr b o):=by
 exact z145
def QL{len es b o:Nat}{k:IntKind}(h:1<len):j8 len es (.ptr b o) (.int k 1)=some (.ptr b (o+es)):=by
 exact z145
section
variable {P:Program}(T:eD P) {h W:ah}{ts:TS}{L:List EV}{s sE:AV}{b3:Nat}{c0 c1 c2:Int}{es:List cQ}(ha:∀k,Ext h k->ay P 15 [] k (λv _=>v=.bool true)) (X:vW P) (Z:nB P) (pw:Pw h) (oL:dJ h L s) (hes:es=L.map EV.ev) (ho:rX 0 es) (dV:(aJ es).length<=10580) (hL1:1<=L.length) (hL2:L.length<=20) (hc0:0<=c0/\c0<=65535) (hc1:0<=c1/\c1<=65535) (hc2:0<=c2/\c2<=65535) (eW:Ext h W) (m3:W[b3]? =some (rF c0 c1 c2)) (hE:aI W sE 1 ((tu es es.length).map aH))
include T ha X Z pw oL hes ho dV hL1 hL2 hc0 hc1 hc2 eW m3 hE
omit X Z pw oL hes ho dV hL1 hL2 hc0 hc1 hc2 m3 hE in
theorem HA(hlen:ts.length=279):WC P bP (lQ 19) [] ts W (FQ [(4,none)] (Cc h)):=by
 unfold lQ fn10;simp only[ai.j,ai.s,ai.r,ai.dr,ai.tl,ai.hd,ai.vT];refine Rs @hlen ?_;refine WF.ce T.c15 (ha _ eW) λg1=>?_
 refine Rs @hlen ?_;exact⟨eW.trans Xx,rfl⟩
theorem Md(hlen:ts.length=279)(t0:slot ts 0=s)(t3:slot ts 3=.ptr b3 0)(t5:slot ts 5=.str (aJ es))(t6:slot ts 6=sE):WC P bP (lQ 18) [] ts W (FQ [(4,none)] (Cc h)):=by
 have hn:es.length=L.length:=by rw[hes,aak]
 have oW:=oL.ext eW;have lb:=@fx _ _ _ m3;unfold rF at lb;have ia:=@NB 3 1 b3 0 .i64 De;rw[kS 18 De];generalize hR:lQ 19=R;unfold lQ fn10;simp only[ai.j,ai.s,ai.r,ai.dr,ai.tl,ai.hd,ai.vT];by_cases h1:1<L.length
 case neg=>
  have d1:decide ((1:Int)<L.length)=false:=aaf Om;refine Rs (A3 t0 oW.sl.aK @d1) ?_;rw[<-hR];exact HA T ha eW Sn
 have d1:decide ((1:Int)<L.length)=true:=aaj Om;obtain⟨m,hm⟩:∃m:Nat,L.length=m+2:=⟨L.length-2,Om⟩;obtain⟨r,hrz⟩:∃r:Nat,c2.tmod ((m+1:Nat):Int)=(r:Int):=⟨(c2.tmod ((m+1:Nat):Int)).toNat,by rw[acT (ac1 _ hc2.1)]⟩;have hr:r<m+1:=by have:=acd c2 (b:=((m+1:Nat):Int)) Om;omega
 have w1:IntKind.i64.wrap c2=c2:=aY Om Om;have w2:IntKind.i64.wrap ((L.length:Int)-1)=((m+1:Nat):Int):=by rw[hm];rw[aY Om Om];omega
 have r1:=jw (k:=.i64) (a:=c2) (b:=((m+1:Nat):Int)) Om;rw[hrz]at r1;have WX:(tu es es.length).length=es.length:=vq;have tk:=Dx (es:=es) r;have dr:=Jq (es:=es) (r+1);have le0:=nO (es:=es) r;have le1:=nO (es:=es) (r+1);have hri:r<(tu es es.length).length:=Om
 have ix1:=hE.dK (kk:=.i64) hri;have Xm:∀{kk:ah},Ext W kk->ao none (cT sE 1 r) (λb=>kk[b]?)=some (.int .i64 ((aJ (es.take (r+1))).length:Int),.ar):=λ{kk} e=>hE.jS hri (by rw[vt];rfl) e
 have s2:∀{kk:IntKind},nG (.str (aJ es)) (some (.int kk ((aJ (es.take (r+1))).length:Int))) none=some (.str (aJ (es.drop (r+1)))):=λ{kk}=>by rw[jH le1,dr]
 have hcat:(aJ (es.take r)++aJ (es.drop (r+1))).length<=2^37:=by
  rw[<-dr,aac,abv];omega
 have bc:=fA (x:=aJ (es.take r)) (y:=aJ (es.drop (r+1))) (by rw[aac]at hcat;omega);have lk:=FV ho Om (show r+1<es.length by omega);have d11:decide ((11:Int)≠11)=false:=rfl;rcases Nat.eq_zero_or_pos r with h0|h0
 case' inl=>
  have d2:decide ((0:Int)<(r:Int))=false:=aaf Om;have s1:∀{kk:IntKind},nG (.str (aJ es)) none (some (.int kk 0))=some (.str (aJ (es.take r))):=λ{kk}=>by
   have:=kW (s:=aJ es) (n:=0) (kk:=kk) (aaQ _);rw[h0];exact this
  have w3:=trivial;have n7:=trivial;have ld0:=trivial
 case' inr=>
  have d2:decide ((0:Int)<(r:Int))=true:=aaj Om;have s1:∀{kk:IntKind},nG (.str (aJ es)) none (some (.int kk ((aJ (es.take r)).length:Int)))=some (.str (aJ (es.take r))):=λ{kk}=>by rw[kW le0,tk]
  have w3:IntKind.i64.wrap ((r:Int)-1)=((r-1:Nat):Int):=by rw[aY Om Om];omega
  have hri0:r-1<(tu es es.length).length:=Om
  have n7:=hE.dK (kk:=.i64) hri0;have ld0:∀{kk:ah},Ext W kk->ao none (cT sE 1 (r-1)) (λb=>kk[b]?)=some (.int .i64 ((aJ (es.take r)).length:Int),.ar):=λ{kk} e=>hE.jS hri0 (by rw[vt,show r-1+1=r by omega];rfl) e
 all_goals
  refine Rs (OX t0 t3 t5 t6 oW.sl.aK @d1 @ia @lb @w1 @w2 @r1 @d2 @w3 @n7 @ld0 @ix1 @Xm @s1 @s2 @bc) ?_;refine WF.res T.c37 (r37 T X Z (pw.ext eW) _ hcat) ?_;rintro _ g1 ⟨L1,s1,_,rfl,_,_⟩;rw[lk];refine Rs (A2 t0 @d11) ?_;rw[<-hR];exact HA T ha (eW.trans Xx) Sn
def Me{k:Nat}{c:Int}(hk:k<(aJ es).length)(hc:32<=c/\c<=231)(hlen:ts.length=279)(t0:slot ts 0=s)(t3:slot ts 3=.ptr b3 0)(t5:slot ts 5=.str (aJ es))(t6:slot ts 6=sE)(t32:slot ts 32=.int .i64 k)(t33:slot ts 33=.int .u8 c):WC P bP (lQ 17) [] ts W (FQ [(4,none)] (Cc h)):=by
 rw[kS 17 De];generalize hR:lQ 18=R;unfold lQ fn10;simp only[ai.j,ai.s,ai.r,ai.dr,ai.tl,ai.hd,ai.vT];have go:∀{W2:ah}{Vb:TS},Ext W W2->Vb.length=279->slot Vb 0=s->slot Vb 3=.ptr b3 0->slot Vb 5=.str (aJ es)->slot Vb 6=sE->WC P bP R [] Vb W2 (FQ [(4,none)] (Cc h)):=λ{W2 Vb} e q1 q2 q3 q4 q5=>by
  rw[<-hR];exact Md T ha X Z pw oL hes ho dV hL1 hL2 hc0 hc1 hc2 (eW.trans e) (e.some m3) (hE.ext e) q1 q2 q3 q4 q5
 have ix:=jN (k:=.i64) hk;by_cases h10:(aJ es)[k]=10
 ·have d1:decide (((aJ es)[k].toNat:Int)≠10)=false:=aaf λz=>z (by rw[h10];rfl)
  refine Rs (A5 t5 t32 t33 ix @d1) ?_;exact go (.refl _) Sn (Sq t0) (Sq t3) (Sq t5) (Sq t6)
 have d1:decide (((aJ es)[k].toNat:Int)≠10)=true:=aaj λz=>h10 (acF.1 (by show _=10;omega))
 by_cases hcc:c=((aJ es)[k].toNat:Int)
 ·have d2:decide (c≠((aJ es)[k].toNat:Int))=false:=aaf λz=>z hcc
  refine Rs (A6 t5 t32 t33 ix @d1 @d2) ?_;exact go (.refl _) Sn (Sq t0) (Sq t3) (Sq t5) (Sq t6)
 have d2:decide (c≠((aJ es)[k].toNat:Int))=true:=aaj hcc;have hcN:(UInt8.ofNat c.toNat).toNat=c.toNat:=by rw[UInt8.toNat_ofNat'];omega
 have hb:=C8 (c:=UInt8.ofNat c.toNat) ho Om hk h10 (λz=>hcc (by rw[<-z,hcN];omega)) (λz=>by
  have:=aaR UInt8.toNat z;rw[hcN]at this;have h2:(10:UInt8).toNat=10:=rfl;omega)
 have s1:∀{kk:IntKind},nG (.str (aJ es)) none (some (.int kk (k:Int)))=some (.str ((aJ es).take k)):=λ{kk}=>kW Om
 have s2:∀{kk:IntKind},nG (.str (aJ es)) (some (.int kk ((k+1:Nat):Int))) none=some (.str ((aJ es).drop (k+1))):=λ{kk}=>jH Om
 have w1:IntKind.i64.wrap ((k:Int)+1)=((k+1:Nat):Int):=by rw[aY Om Om];omega
 have l1:((aJ es).take k).length<=10580:=by rw[aaZ];omega
 have l2:((aJ es).drop (k+1)).length<=10580:=by rw[abv];omega
 have bc1:=fA (x:=(aJ es).take k) (y:=[UInt8.ofNat c.toNat]) (by rw[aav];omega);have bc2:=fA (x:=(aJ es).take k++[UInt8.ofNat c.toNat]) (y:=(aJ es).drop (k+1)) (by rw[aac,aav];omega);refine Rs (nZ t5 t32 t33 ix @d1 @d2 @s1 @s2 @w1 @bc1 @bc2 @vz) ?_;refine WF.res T.c37 (r37 T X Z (pw.ext (eW.trans Xx)) _ (by rw[aac,aac,aav];omega)) ?_;rintro _ g1 ⟨L1,s1',_,rfl,_,_⟩;have d3:decide ((cD ((aJ es).take k++[UInt8.ofNat c.toNat]++(aJ es).drop (k+1))).2.2=0)=false:=aaf hb.1;have d4:decide ((cD ((aJ es).take k++[UInt8.ofNat c.toNat]++(aJ es).drop (k+1))).2.1=((aJ es).length:Int))=false:=aaf hb.2;refine Rs (A3 t5 @d3 @d4) ?_
 exact go Xx Sn (Sq t0) (Sq t3) (Sq t5) (Sq t6)
def Mf(hlen:ts.length=279)(t0:slot ts 0=s)(t3:slot ts 3=.ptr b3 0)(t5:slot ts 5=.str (aJ es))(t6:slot ts 6=sE):WC P bP (lQ 15) [] ts W (FQ [(4,none)] (Cc h)):=by
 have hn:es.length=L.length:=by rw[hes,aak]
 have hg:=yY (l:=es);have lb:=@fx _ _ _ m3;unfold rF at lb;have i1:=@QL 3 1 b3 0 .i64 De;have i2:=@NB 3 1 b3 0 .i64 De;rw[kS 15 De,kS 16 De];generalize hR:lQ 17=R;unfold lQ fn10;simp only[ai.j,ai.s,ai.r,ai.dr,ai.tl,ai.hd,ai.vT];obtain⟨k,hkz⟩:∃k:Nat,c1.tmod ((aJ es).length:Int)=(k:Int):=⟨(c1.tmod ((aJ es).length:Int)).toNat,by rw[acT (ac1 _ hc1.1)]⟩;have hk:k<(aJ es).length:=by have:=acd c1 (b:=((aJ es).length:Int)) Om;omega
 have w1:IntKind.i64.wrap c1=c1:=aY Om Om;have r1:=jw (k:=.i64) (a:=c1) (b:=((aJ es).length:Int)) Om;rw[hkz]at r1;obtain⟨z,hz⟩:∃z:Int,c2.tmod 200=z:=⟨_,rfl⟩;have hz2:0<=z/\z<200:=by rw[<-hz];exact⟨ac1 _ hc2.1,acd _ De⟩
 have r2:=jw (k:=.u16) (a:=c2) (b:=200) De;rw[hz]at r2;have w2:IntKind.u16.wrap (32+z)=32+z:=by
  have:IntKind.u16.wrap (32+z)=(32+z)%65536:=rfl;rw[this];omega
 have w3:IntKind.u8.wrap (32+z)=32+z:=Cj Om Om;refine Rs (nZ t0 t3 t5 t6 @lb @i1 @i2 @w1 @r1 @r2 @w2 @w3) ?_;rw[<-hR];exact Me T ha X Z pw oL hes ho dV hL1 hL2 hc0 hc1 hc2 eW m3 hE (k:=k) (c:=32+z) hk Om Sn (Sq t0) (Sq t3) (Sq t5) (Sq t6) Sw Sw
def Mg{b:Nat}{V:HV}(rd:vY W b V)(w:jU V.bN)(hev:V.bN.cK=es)(hlen:ts.length=279)(t0:slot ts 0=s)(t3:slot ts 3=.ptr b3 0)(t5:slot ts 5=.str (aJ es))(t6:slot ts 6=sE)(t18:slot ts 18=.ptr b 0):WC P bP (lQ 14) [] ts W (FQ [(4,none)] (Cc h)):=by
 have Yh:V.cK.length<=1000:=by
  have:=aaR List.length hev;rw[hes,aak]at this;exact Sh
 rw[kS 14 De];generalize hR:lQ 15=R;unfold lQ fn10;simp only[ai.j,ai.s,ai.r,ai.dr,ai.tl,ai.hd,ai.vT];refine Rs t18 ?_;refine WF.ce T.c45 (r45 T Z (pw.ext eW) rd w Yh) λg1=>?_
 rw[hev];have d1:decide (aJ es≠aJ es)=false:=aaf λz=>z rfl
 refine Rs (A2 t5 @d1) ?_;rw[<-hR];exact Mf T ha X Z pw oL hes ho dV hL1 hL2 hc0 hc1 hc2 (eW.trans Xx) ((show Ext W _ from Xx).some m3) (hE.ext Xx) Sn (Sq t0) (Sq t3) (Sq t5) (Sq t6)
def Mh{b b':Nat}{V V':HV}(rd:vY W b V)(rd':vY W b' V')(w:jU V.bN)(hev:V.bN.cK=es)(hVV:V'.bN=V.bN)(hlen:ts.length=279)(t0:slot ts 0=s)(t3:slot ts 3=.ptr b3 0)(t5:slot ts 5=.str (aJ es))(t6:slot ts 6=sE)(t18:slot ts 18=.ptr b 0)(t20:slot ts 20=.ptr b' 0):WC P bP (lQ 13) [] ts W (FQ [(4,none)] (Cc h)):=by
 have hn:es.length=L.length:=by rw[hes,aak]
 have Yh:V.cK.length<=1000:=by
  have:=aaR List.length hev;exact Sh
 have hVl':V'.cK.length<=1000:=by
  have:=aaR List.length hev;have e3:V'.bN.cK.length=V'.cK.length:=by simp[HV.bN]
  rw[hVV]at e3;omega
 have w':jU V'.bN:=by rw[hVV];exact w
 rw[kS 13 De];generalize hR:lQ 14=R;unfold lQ fn10;simp only[ai.j,ai.s,ai.r,ai.dr,ai.tl,ai.hd,ai.vT];refine Rs @hlen ?_;refine WF.res T.c64 (r64 T X OP 44 De) ?_;intro v g0 hv;have hq:=MN;have h7:=I6;generalize bh 44 OP=ws at hv hq h7;refine Rs (A2 @hlen hv.aK) ?_;refine WL.inv T.mix (λn ts K=>∃k:Nat,k<=ws.length/\n=ws.length-k/\Ext (W++g0) K/\ts.length=279/\slot ts 0=s/\slot ts 3=.ptr b3 0/\slot ts 5=.str (aJ es)/\slot ts 6=sE/\slot ts 18=.ptr b 0/\slot ts 20=.ptr b' 0/\slot ts 166=v/\slot ts 167=.int .i64 ws.length/\slot ts 168=.int .i64 k) ws.length
  ⟨0,Om,rfl,.refl _,Sn,(Sq t0),(Sq t3),(Sq t5),(Sq t6),(Sq t18),(Sq t20),Sw,Sw,gX⟩ ?_
 clear hlen t0 t3 t5 t6 t18 t20;rintro _ ts K ⟨k,hk,rfl,eK,hlen,t0,t3,t5,t6,t18,t20,t166,t167,t168⟩;have Zl:Ext W K:=Ext.trans ⟨g0,rfl⟩ eK;by_cases hlt:k<ws.length
 case neg=>
  have e3:=fC hlt;refine Rs (mE t0 t3 t5 t6 t18 t20 t166 t167 t168 e3) ?_;rw[<-hR];exact Mg T ha X Z pw oL hes ho dV hL1 hL2 hc0 hc1 hc2 (eW.trans Zl) (Zl.some m3) (hE.ext Zl) (rd.ext Zl) w hev Sn (Sq t0) (Sq t3) (Sq t5) (Sq t6) (Sq t18)
 have e3:=eO hlt;have e5:=wrapN (n:=k) Om;have ix:=hv.dK (kk:=.i64) hlt;have ld:∀{kk:ah},Ext K kk->ao none (cT v 1 k) (λb=>kk[b]?)=some (.str ws[k],.ar):=λ{kk} e=>hv.jS hlt rfl (eK.trans e)
 obtain⟨q1,q2,q3⟩:=hq ws[k] (aat _);generalize ws[k]=q at ld q1 q2 q3;obtain⟨q0,hq0⟩:=acj.1 q3;refine Rs (nZ t0 t3 t5 t6 t18 t20 t166 t167 t168 e3 ix @ld) ?_;refine WF.ce T.c43 (SL T (rd.ext Zl) w Yh (pw.ext (eW.trans Zl)) X Z q q1 q2 hq0) λg1=>?_
 refine Rs (A9 t0 t3 t5 t6 t18 t20 t166 t167 t168) ?_;refine WF.ce T.c43 (SL T (rd'.ext (Zl.trans Xx)) w' hVl' (pw.ext ((eW.trans Zl).trans Xx)) X Z q q1 q2 hq0) λg2=>?_
 rw[hVV];obtain⟨m,hm⟩:∃m,m=(sR V.bN q).2.1:=⟨_,rfl⟩;obtain⟨c,hc⟩:∃c,c=(sR V.bN q).2.2:=⟨_,rfl⟩;rw[<-hm,<-hc];have d3:decide (c≠c)=false:=aaf λz=>z rfl
 have d4:decide (m≠m)=false:=aaf λz=>z rfl
 refine Rs (nZ t0 t3 t5 t6 t18 t20 t166 t167 t168 @d3 @d4 e5) ?_;exact⟨ws.length-(k+1),Om,k+1,Om,rfl,eK.trans Xx,rfl⟩
end
section
variable {P:Program}(T:eD P) {h:ah}{ts:TS}{L:List EV}{s sE:AV}{b3:Nat}{c0 c1 c2:Int}{es:List cQ}(ha:∀k,Ext h k->ay P 15 [] k (λv _=>v=.bool true)) (X:vW P) (Z:nB P) (pw:Pw h) (gl:Gl h) (h9:9<=h.length) (oL:dJ h L s) (hes:es=L.map EV.ev) (hac:(bF es).2.2=0) (hL1:1<=L.length) (hL2:L.length<=20) (hc0:0<=c0/\c0<=65535) (hc1:0<=c1/\c1<=65535) (hc2:0<=c2/\c2<=65535)
include T ha X Z pw gl h9 oL hes hac hL1 hL2 hc0 hc1 hc2
omit ha X Z pw gl h9 oL hL1 hc0 hc1 hc2 T in
theorem zB:∀x∈L,∃d,jf x.ev d:=λx hx=>by
 have hw:=(zP hac).2.ev x.ev;rw[uT hac,hes]at hw;exact hw (aaH hx)
theorem Mi{B K2 g:ah}{b b' N w:Nat}{V V':HV}(eB:Ext h B)(m3:B[b3]? =some (rF c0 c1 c2))(hE:aI B sE 1 ((tu es es.length).map aH))(e2:Ext B K2)(oS:b9 B.length K2 b V)(oA:b9 N (kI 9 K2++g) b' V')(hN:K2.length<=N)(hw:w<=es.length)(hV:V.bN=(bF (es.take w)).1)(hV':V'.bN=(bF es).1)
  (hlen:ts.length=279) (t0:slot ts 0=s) (t3:slot ts 3=.ptr b3 0) (t5:slot ts 5=.str (aJ es)) (t6:slot ts 6=sE) (t12:slot ts 12=.int .i64 w) (t18:slot ts 18=.ptr b 0) (t20:slot ts 20=.ptr b' 0):WC P bP (lQ 12) [] ts (K2++g) (FQ [(4,none)] (Cc h)):=by
 have hn:es.length=L.length:=by rw[hes,aak]
 have ho:=uR hac;have VQ:=zB hes hac hL2;have dV:(aJ es).length<=10580:=by rw[hes];exact vg VQ hL2
 have hBl:h.length<=B.length:=by obtain⟨z,rfl⟩:=eB;rw[aac];omega
 have hK2l:B.length<=K2.length:=by obtain⟨z,rfl⟩:=e2;rw[aac];omega
 have e0:Ext B (K2++g):=e2.trans ⟨g,rfl⟩;obtain⟨s',hsl,oT⟩:=oL.tail (i:=w) Om;have hdl:(L.drop w).length=L.length-w:=abv;have hgl:K2.length<(K2++g).length:=by
  have:=(aad.1 oA.hb).1;rw[aac,mQ]at this;have:=oA.hN;rw[aac];omega
 rw[kS 12 De];generalize hR:lQ 13=R;unfold lQ fn10;simp only[ai.j,ai.s,ai.r,ai.dr,ai.tl,ai.hd,ai.vT];refine Rs (A4 t0 t12 @hsl oT.sl.aK) ?_;refine WL.inv T.mix (λn ts K=>∃(k:Nat) (V:HV),k<=(L.drop w).length/\n=(L.drop w).length-k/\Ext B K/\b9 B.length K b V/\V.bN=(bF (es.take (w+k))).1/\(∀i,i<(K2++g).length->(i<9\/K2.length<=i)->K[i]? =(K2++g)[i]?)/\(∀j,some j∈V.ex b->j<K2.length\/(K2++g).length<=j)/\
   ts.length=279/\slot ts 0=s/\slot ts 3=.ptr b3 0/\slot ts 5=.str (aJ es)/\slot ts 6=sE/\slot ts 18=.ptr b 0/\slot ts 20=.ptr b' 0/\slot ts 150=s'/\slot ts 151=.int .i64 (L.drop w).length/\slot ts 152=.int .i64 k) (L.drop w).length
  ⟨0,V,Om,rfl,e0,oS.app g,hV,λ_ _ _=>rfl,λj hj=>.inl (NW oS hj),Sn,(Sq t0),(Sq t3),(Sq t5),(Sq t6),(Sq t18),(Sq t20),Sw,Sw,gX⟩ ?_
 clear hlen t0 t3 t5 t6 t12 t18 t20 oS hV V;rintro _ ts K ⟨k,V,hk,rfl,eK,oS,hV,kp,exl,hlen,t0,t3,t5,t6,t18,t20,t150,t151,t152⟩;have ehK:=eB.trans eK;have Uo:(bF (es.take (w+k))).2.2=0:=by
  have e:es=es.take (w+k)++es.drop (w+k):=(aaT _ _).symm;exact qY (e▸hac)
 have wV:jU V.bN:=by rw[hV];exact(zP Uo).2
 have hVe:V.bN.cK=es.take (w+k):=by rw[hV];exact uT Uo
 have hVn:V.bN.cK.length=w+k:=by rw[hVe,aaZ];omega
 have e4:V.bN.cK.length=V.cK.length:=by simp[HV.bN]
 by_cases hlt:k<(L.drop w).length
 case neg=>
  have e3:=fC hlt;have Tr:w+k=es.length:=Om
  have hVA:V.bN=(bF es).1:=by rw[hV,Tr,aaS]
  refine Rs (mE t0 t3 t5 t6 t18 t20 t150 t151 t152 e3) ?_;rw[<-hR];exact Mh T ha X Z pw oL hes ho dV hL1 hL2 hc0 hc1 hc2 ehK (eK.some m3) (hE.ext eK) oS.rd (oA.lift hN kp).rd wV (by rw[hVA];exact uT hac) (hV'.trans hVA.symm) Sn (Sq t0) (Sq t3) (Sq t5) (Sq t6) (Sq t18) (Sq t20)
 have e3:=eO hlt;have e5:=wrapN (n:=k) Om;have ix:=oT.sl.dK (kk:=.i64) hlt;have ld:∀{kk:ah},Ext K kk->ao (some 5) (cT s' 5 k) (λb=>kk[b]?)=some (.agg (L.drop w)[k].row,.ar):=λ{kk} e=>oT.sl.lL hlt (ehK.trans e)
 have ox:=oT.all _ (aat hlt);have ZQ:w+k<L.length:=Om
 have hxe:(L.drop w)[k]=L[w+k]:=List.getElem_drop;obtain⟨_,a2,a3⟩:=Oe ZQ (hes▸hac);rw[acv,<-hes]at a2 a3;rw[acv,<-hes]at a3;obtain⟨d,wx⟩:=VQ _ (aat ZQ);rw[<-hxe]at a2 a3 wx;generalize (L.drop w)[k]=x at ld ox a2 a3 wx;clear hxe;have st:∀{b':Nat}{a0 a1 a2 a3 a4:AV},lH 5 0 (.agg x.row) b' (.cells [a0,a1,a2,a3,a4] true false)=some (az,.set b' (.cells x.row true false)):=λ{_ _ _ _ _ _}=>ox.st
 refine Rs (Hy t0 t3 t5 t6 t18 t20 t150 t151 t152 e3 ix @ld @st) ?_;obtain⟨Y,hY⟩:∃Z,Z=K++[ak.cells x.row true false]:=⟨_,rfl⟩;have mb:Y[K.length]? =some (.cells x.row true false):=by rw[hY];exact ba
 have eY:Ext K Y:=by rw[hY];exact⟨_,rfl⟩
 rw[<-hY];have lb:=@fx _ _ _ mb;have bs:=@bd.D7 _ _ ox;have U9:=(sO wx).2;have hcl:=@Av x.ev;refine Rs (nZ t0 t3 t5 t6 t18 t20 t150 t151 t152 @lb @bZ @bs) ?_;refine WF.ce T.c63 (r63 T (ox.ext (ehK.trans eY)) (L8 wx) Om) λg1=>?_
 refine Rs (A9 t0 t3 t5 t6 t18 t20 t150 t151 t152) ?_;have eYg:Ext K (Y++g1):=eY.trans ⟨g1,rfl⟩;refine WF.gen T.c43 (N5 T (eK.trans eYg) (oS.ext eYg) wV Om (gl.ext eB) (pw.ext eB) X Z (qb x.ev) Om) ?_;intro v W2 hv;have Us:=J6 (H:=V.bN) (e:=x.ev) (by rw[hV];exact a2) Om Om;obtain⟨V2,rfl,e',o',hV2,hsub,Wu,hex⟩:=Fc hv;rw[Us]at hV2;have hc:(sR V.bN (qb x.ev)).2.2=0:=by rw[Us]
 rw[hc];have d1:decide ((0:Int)≠0)=false:=rfl;generalize (sR V.bN (qb x.ev)).2.1=m;have Wv:(K2++g).length-1<K.length:=by
  have:=kp ((K2++g).length-1) Om (.inr Om);rw[aai (show(K2++g).length-1<(K2++g).length by omega)]at this;exact(aad.1 this).1
 have hKY:K.length<=(Y++g1).length:=by obtain⟨z,hz⟩:=eYg;rw[hz,aac];omega
 refine Rs (n6 t0 t3 t5 t6 t18 t20 t150 t151 t152 @d1 e5) ?_;refine⟨(L.drop w).length-(k+1),Om,k+1,V2,Om,rfl,e',o',?_,λi hi hq=>?_,λj hj=>?_,rfl⟩
 ·rw[hV2,hV];show _=(bF (es.take (w+k+1))).1;rw[a3]
 ·have hni:some i∉V.ex b:=λhm=>by
   have h1:=NX oS hm;rcases exl i hm with h2|h2<;>omega
  rw[Wu i Om hni];obtain⟨z,hz⟩:=eYg;rw[hz,aag Om];exact kp i hi hq
 ·rcases hex j hj with h1|h1
  ·exact exl j h1
  ·right;omega
def Pm(hop:∀k l,Ext h k->l.length<=2^16->ay P 41 [.str l] k (λv k'=>OE 9 k l v k')){W:ah}{w n:Nat}(eW:Ext h W)(m3:W[b3]? =some (rF c0 c1 c2))(hE:aI W sE 1 ((tu es es.length).map aH))(hw:w<=es.length)(hn:n<=(aJ es).length)(hw1:(aJ (es.take w)).length<=n)(hw2:w<es.length->n<(aJ (es.take (w+1))).length)
  (hlen:ts.length=279) (t0:slot ts 0=s) (t3:slot ts 3=.ptr b3 0) (t5:slot ts 5=.str (aJ es)) (t6:slot ts 6=sE) (t11:slot ts 11=.int .i64 n) (t12:slot ts 12=.int .i64 w):WC P bP (lQ 8) [] ts W (FQ [(4,none)] (Cc h)):=by
 have hnl:es.length=L.length:=by rw[hes,aak]
 have ho:=uR hac;have VQ:=zB hes hac hL2;have dV:(aJ es).length<=10580:=by rw[hes];exact vg VQ hL2
 have htl:((aJ es).take n).length<=10580:=by rw[aaZ];omega
 obtain⟨q1,q2⟩:=C9 ho Om hw hw1 hw2 hn;have Uo:(bF (es.take w)).2.2=0:=by
  have e:es=es.take w++es.drop w:=(aaT _ _).symm;exact qY (e▸hac)
 have op1:mh ((aJ es).take n)=0:=by
  unfold mh;rw[aao (λz=>by rcases q2 with q|q<;>simp[q]at z),q1];exact Uo
 have ra:=wG ho (show(aJ es).length<=1000000 by omega);have op2:mh (aJ es)=0:=by
  unfold mh;rw[ra,aao (λz=>z.1 rfl)];exact hac
 have s1:∀{kk:IntKind},nG (.str (aJ es)) none (some (.int kk (n:Int)))=some (.str ((aJ es).take n)):=λ{kk}=>kW hn
 rw[kS 8 De,kS 9 De,kS 10 De,kS 11 De];generalize hR:lQ 12=R;unfold lQ fn10;simp only[ai.j,ai.s,ai.r,ai.dr,ai.tl,ai.hd,ai.vT];refine Rs (A3 t5 t11 @s1) ?_;refine WF.res T.c37 (r37 T X Z (pw.ext eW) _ Om) ?_;rintro _ g1 ⟨L1,s1',hLr,rfl,fr1,in1⟩;have o1:dJ (W++g1) L1 s1':=⟨fr1.aT,λy hy=>(in1 y hy).ok⟩;rw[q1]at hLr;refine Rs (A3 t5 t11 @s1) ?_;refine WF.res T.c41 (r41 T X Z (pw.ext (eW.trans Xx)) (gl.ext (eW.trans Xx)) _ Om) ?_;intro v g2 hv;obtain⟨B,b,V,rfl,eB1,eB2,oS,hV,_,_,_⟩:=hv.2 op1;rw[q1]at hV;obtain⟨K2,hK2⟩:∃K,K=W++g1++g2:=⟨_,rfl⟩;have o1:dJ K2 L1 s1':=by rw[hK2];exact o1.ext Xx
 have eK2:Ext W K2:=by rw[hK2];exact Xx
 rw[<-hK2]at eB2 oS ⊢;clear hK2 fr1 in1;refine Rs t5 ?_;refine WF.res T.c41 (hop K2 _ (eW.trans eK2) Om) ?_;rintro v g' ⟨g,hg,WI⟩;obtain rfl:g' =g:=abM hg;obtain⟨B',b',V',rfl,eB3,_,oA,hV',_,_,_⟩:=WI.2 op2;rw[ra]at hV';have hN:K2.length<=B'.length:=by obtain⟨z,rfl⟩:=eB3;rw[aac,mQ];omega
 obtain⟨s2,hsl,o2⟩:=(oL.ext (eW.trans eK2)).cut (i:=w) Om;have eB:Ext W B:=Ext.trans ⟨g1,rfl⟩ eB1;have z0:decide ((0:Int)≠0)=false:=rfl;have z1:decide ((28:Int)≠0)=true:=rfl;have z2:decide ((28:Int)≠28)=false:=rfl;have hL1l:L1.length<2^40:=by
  have:=aaR List.length hLr;rw[aak,aaZ]at this;omega
 have hLx:∀x∈L1,x.ev.names.length<2^40/\x.ev.bK.length<2^40:=λx hx=>by
  have hm:x.ev∈es:=abc (hLr▸aaH hx);rw[hes]at hm;obtain⟨y,hy,e⟩:=aaK.1 hm;obtain⟨d,we⟩:=VQ y hy;rw[e]at we;have:=zu we;omega
 have hLe:L1.map EV.ev=(L.take w).map EV.ev:=by rw[hLr,hes,acv]
 rcases q2 with q|q
 all_goals
  rw[q];refine Rs (A6 t0 t12 @hsl @z0 @z1 @z2) ?_;refine WF.ce T.c32 (r32 T (o1.ext Xx) (o2.ext Xx) hLe hL1l hLx) λg5=>?_
  refine Rs (A7 t0 t12 @z0 @z1 @z2 @p8 @aaD) ?_;rw[<-hR,aae K2 g' g5];have oA2:=oA.app g5;rw[aae]at oA2;exact Mi T ha X Z pw gl h9 oL hes hac hL1 hL2 hc0 hc1 hc2 (eW.trans eB) (eB.some m3) (hE.ext eB) eB2 oS oA2 hN hw hV hV' Sn (Sq t0) (Sq t3) (Sq t5) (Sq t6) (Sq t12) Sw Sw
def Pn(hop:∀k l,Ext h k->l.length<=2^16->ay P 41 [.str l] k (λv k'=>OE 9 k l v k')){W:ah}(eW:Ext h W)(m3:W[b3]? =some (rF c0 c1 c2))(hE:aI W sE 1 ((tu es es.length).map aH))
  (hlen:ts.length=279) (t0:slot ts 0=s) (t3:slot ts 3=.ptr b3 0) (t5:slot ts 5=.str (aJ es)) (t6:slot ts 6=sE):WC P bP (lQ 5) [] ts W (FQ [(4,none)] (Cc h)):=by
 have hnl:es.length=L.length:=by rw[hes,aak]
 have VQ:=zB hes hac hL2;have dV:(aJ es).length<=10580:=by rw[hes];exact vg VQ hL2
 have lb:=@fx _ _ _ m3;unfold rF at lb;have i0:=@QM 3 1 b3 0 .i64 De;obtain⟨n,hnz⟩:∃n:Nat,c0.tmod (((aJ es).length+1:Nat):Int)=(n:Int):=⟨(c0.tmod (((aJ es).length+1:Nat):Int)).toNat,by rw[acT (ac1 _ hc0.1)]⟩;have hn:n<=(aJ es).length:=by have:=acd c0 (b:=(((aJ es).length+1:Nat):Int)) Om;omega
 have w1:IntKind.i64.wrap c0=c0:=aY Om Om;have w2:=wrapN (n:=(aJ es).length) Om;have r1:=jw (k:=.i64) (a:=c0) (b:=(((aJ es).length+1:Nat):Int)) Om;rw[hnz]at r1;rw[kS 5 De,kS 6 De,kS 7 De];generalize hR:lQ 8=R;unfold lQ fn10;simp only[ai.j,ai.s,ai.r,ai.dr,ai.tl,ai.hd,ai.vT];refine Rs (mE t0 t3 t5 t6 @lb @i0 @w1 @w2 @r1 hE.aK) ?_;have WX:(tu es es.length).length=es.length:=vq;refine WL.inv T.mix (λm ts K=>∃k w:Nat,k<=es.length/\m=es.length-k/\K=W/\w<=k/\(aJ (es.take w)).length<=n/\(w<k->n<(aJ (es.take (w+1))).length)/\ts.length=279/\slot ts 0=s/\slot ts 3=.ptr b3 0/\slot ts 5=.str (aJ es)/\slot ts 6=sE/\slot ts 11=.int .i64 n/\slot ts 12=.int .i64 w/\slot ts 86=sE/\slot ts 87=.int .i64 (tu es es.length).length/\slot ts 88=.int .i64 k) es.length
  ⟨0,0,Om,rfl,rfl,Om,aaQ _,λz=>by omega,Sn,(Sq t0),(Sq t3),(Sq t5),(Sq t6),Sw,gX,Sw,Sw,gX⟩ ?_
 clear hlen t0 t3 t5 t6;rintro _ ts K ⟨k,w,hk,rfl,hK,ZQ,g1,g2,hlen,t0,t3,t5,t6,t11,t12,t86,t87,t88⟩;rw[hK];clear hK K;by_cases hlt:k<(tu es es.length).length
 case neg=>
  have e3:=fC hlt;obtain rfl:k=es.length:=Om
  refine Rs (mE t0 t3 t5 t6 t11 t12 t86 t87 t88 e3) ?_;rw[<-hR];exact Pm T ha X Z pw gl h9 oL hes hac hL1 hL2 hc0 hc1 hc2 hop eW m3 hE ZQ hn g1 g2 Sn (Sq t0) (Sq t3) (Sq t5) (Sq t6) (Sq t11) (Sq t12)
 have e3:=eO hlt;have e5:=wrapN (n:=k) Om;have e6:=wrapN (n:=w) Om;have ix:=hE.dK (kk:=.i64) hlt;have ld:∀{kk:ah},Ext W kk->ao none (cT sE 1 k) (λb=>kk[b]?)=some (.int .i64 ((aJ (es.take (k+1))).length:Int),.ar):=λ{kk} e=>hE.jS hlt (by rw[vt];rfl) e
 obtain⟨y1,y2⟩:=yo (show k<es.length by omega) ZQ g1 g2;have mo:=nO (es:=es) (k+1);by_cases hc:(aJ (es.take (k+1))).length<=n
 ·have d1:decide (((aJ (es.take (k+1))).length:Int)<=n)=true:=aaj Om;have hwe:=y1 hc;refine Rs (B4 t0 t3 t5 t6 t11 t12 t86 t87 t88 e3 e5 e6 ix @ld @d1) ?_;exact⟨es.length-(k+1),Om,k+1,w+1,Om,rfl,Om,by rw[hwe];exact hc,λz=>by omega,rfl,rfl⟩
 ·have d1:decide (((aJ (es.take (k+1))).length:Int)<=n)=false:=aaf Om;refine Rs (B4 t0 t3 t5 t6 t11 t12 t86 t87 t88 e3 e5 e6 ix @ld @d1) ?_;exact⟨es.length-(k+1),Om,k+1,w,Om,rfl,Om,g1,y2 hc,rfl,rfl⟩
def Po(hop:∀k l,Ext h k->l.length<=2^16->ay P 41 [.str l] k (λv k'=>OE 9 k l v k')){W:ah}(eW:Ext h W)(m3:W[b3]? =some (rF c0 c1 c2))
  (hlen:ts.length=279) (t0:slot ts 0=s) (t3:slot ts 3=.ptr b3 0):WC P bP (lQ 2) [] ts W (FQ [(4,none)] (Cc h)):=by
 have hnl:es.length=L.length:=by rw[hes,aak]
 have ho:=uR hac;have VQ:=zB hes hac hL2;have dV:(aJ es).length<=10580:=by rw[hes];exact vg VQ hL2
 have oW:=oL.ext eW;rw[kS 2 De,kS 3 De,kS 4 De];generalize hR:lQ 5=R;unfold lQ fn10;simp only[ai.j,ai.s,ai.r,ai.dr,ai.tl,ai.hd,ai.vT];refine Rs (A3 t0 t3 oW.sl.aK) ?_;refine WL.inv T.mix (λm ts K=>∃(k:Nat) (sE:AV),k<=L.length/\m=L.length-k/\Ext W K/\Fr W.length K sE 1 ((tu es k).map aH)/\ts.length=279/\slot ts 0=s/\slot ts 3=.ptr b3 0/\slot ts 5=.str (aJ (es.take k))/\slot ts 6=sE/\slot ts 51=s/\slot ts 52=.int .i64 L.length/\slot ts 53=.int .i64 k) L.length
  ⟨0,.af,Om,rfl,.refl _,.nil,Sn,(Sq t0),(Sq t3),gX,Sw,Sw,Sw,gX⟩ ?_
 clear hlen t0 t3;rintro _ ts K ⟨k,sE,hk,rfl,eK,fE,hlen,t0,t3,t5,t6,t51,t52,t53⟩;have ehK:=eW.trans eK;by_cases hlt:k<L.length
 case neg=>
  have e3:=fC hlt;obtain rfl:k=L.length:=Om
  rw[<-hnl]at t5 fE;rw[aaS]at t5;refine Rs (A8 t0 t3 t5 t6 t51 t52 t53 e3) ?_;rw[<-hR];exact Pn T ha X Z pw gl h9 oL hes hac hL1 hL2 hc0 hc1 hc2 hop ehK (eK.some m3) fE.aT Sn (Sq t0) (Sq t3) (Sq t5) (Sq t6)
 have e3:=eO hlt;have e5:=wrapN (n:=k) Om;have oK:=oL.ext ehK;have ix:=oK.sl.dK (kk:=.i64) hlt;have ld:∀{kk:ah},Ext K kk->ao (some 5) (cT s 5 k) (λb=>kk[b]?)=some (.agg L[k].row,.ar):=λ{kk} e=>oK.sl.lL hlt e
 have ox:=oK.all _ (aat hlt);obtain⟨d,wx⟩:=VQ _ (aat hlt);have hke:k<es.length:=Om
 have UP:=Km ho Om hke;have hxe:es[k]=L[k].ev:=by simp only[hes,abn]
 have hnx:aJ (es.take (k+1))=aJ (es.take k)++fB es[k]:=by rw[fD hke,gQ,sj]
 have UC:=@uV es[k];have hle:=nO (es:=es) (k+1);have hle0:=nO (es:=es) k;rw[hxe]at UP hnx UC;generalize L[k]=x at ld ox wx UP hnx UC;clear hxe;have Un:(aJ (es.take k)).length<(aJ (es.take (k+1))).length:=by rw[hnx,aac];omega
 have st:∀{b':Nat}{a0 a1 a2 a3 a4:AV},lH 5 0 (.agg x.row) b' (.cells [a0,a1,a2,a3,a4] true false)=some (az,.set b' (.cells x.row true false)):=λ{_ _ _ _ _ _}=>ox.st
 refine Rs (n6 t0 t3 t5 t6 t51 t52 t53 e3 ix @ld @st) ?_;obtain⟨Y,hY⟩:∃Z,Z=K++[ak.cells x.row true false]:=⟨_,rfl⟩;have mb:Y[K.length]? =some (.cells x.row true false):=by rw[hY];exact ba
 have eY:Ext K Y:=by rw[hY];exact⟨_,rfl⟩
 rw[<-hY];have lb:=@fx _ _ _ mb;have bs:=@bd.D7 _ _ ox;have U9:=sO wx;have VA:=zu wx;refine Rs (mE t0 t3 t5 t6 t51 t52 t53 @lb @bZ @bs) ?_;refine WF.ce T.c36 (r36 T X Z (pw.ext (ehK.trans eY)) Om (ox.ext eY) ⟨Om,Om⟩ (λ_=>U9.1)) λg1=>?_
 rw[UP];have z0:decide ((0:Int)≠0)=false:=rfl;have d1:decide (((aJ (es.take (k+1))).length:Int)<=((aJ (es.take k)).length:Int))=false:=aaf Om;obtain⟨Y2,Vt⟩:∃Z,Z=Y++g1:=⟨_,rfl⟩;have VO:Ext K Y2:=by rw[Vt];exact eY.trans ⟨_,rfl⟩
 rw[<-Vt];refine Rs (A9 t0 t3 t5 t6 t51 t52 t53 @z0 @d1) ?_;obtain⟨z,rfl⟩:=VO;refine WR.qh (B:=W) (cs:=(tu es k).map aH) (z:=aH ((aJ (es.take (k+1))).length:Int)) (fE.app z) rfl (eK.trans ⟨z,rfl⟩) De (by rw[aak,vq];omega) ?_;intro W4 s4 x4 Zc _ _ _ _;have hrow:(tu es k).map aH++[aH ((aJ (es.take (k+1))).length:Int)]=(tu es (k+1)).map aH:=by rw[DW,aap];rfl
 rw[hrow]at Zc;refine Rs (A8 t0 t3 t5 t6 t51 t52 t53 e5) ?_;exact⟨L.length-(k+1),Om,k+1,s4,Om,rfl,x4,Zc,rfl,rfl,rfl⟩
end
section
variable {P:Program}(T:eD P) {h:ah}{L:List EV}{s:AV}{c0 c1 c2:Int}
include T
def r10(ha:∀k,Ext h k->ay P 15 [] k (λv _=>v=.bool true))(X:vW P)(Z:nB P)(pw:Pw h)(gl:Gl h)(h9:9<=h.length)(hop:∀k l,Ext h k->l.length<=2^16->ay P 41 [.str l] k (λv k'=>OE 9 k l v k'))(o:dJ h L s)(sz:EE L)(hc0:0<=c0/\c0<=65535)(hc1:0<=c1/\c1<=65535)(hc2:0<=c2/\c2<=65535):
  ay P 10 [s,.agg [.int .u16 c0,.int .u16 c1,.int .u16 c2]] h (λv _=>v=.bool true):=by
 refine .of T.mix (acP T.c10 (aaR some Pp)) ?_;obtain⟨ts,Tp⟩:∃ts,ts=aR 279 [s,.agg [.int .u16 c0,.int .u16 c1,.int .u16 c2]]:=⟨_,rfl⟩;have hlen:ts.length=279:=by rw[Tp];rfl
 have t0:slot ts 0=s:=by rw[Tp];rfl
 have t1:slot ts 1=.agg [.int .u16 c0,.int .u16 c1,.int .u16 c2]:=by rw[Tp];rfl
 show WC P bP (lQ 0) [] (aR 279 [s,.agg [.int .u16 c0,.int .u16 c1,.int .u16 c2]]) h (FQ [(4,none)] (Cc h));rw[<-Tp];clear Tp;rw[kS 0 De,kS 1 De];generalize hR:lQ 2=R;unfold lQ fn10;simp only[ai.j,ai.s,ai.r,ai.dr,ai.tl,ai.hd,ai.vT];have To:∀{N:Nat},na (.agg [.int .u16 c0,.int .u16 c1,.int .u16 c2]) N=some (.ptr N 0,.push (rF c0 c1 c2)):=λ{N}=>rfl
 refine Rs (A3 t0 t1 @To) ?_;refine WF.ce T.c33 (r33 T (o.ext Xx) sz De) λg1=>?_
 cases hsh:(kf (L.map EV.ev) 20&&decide ((bF (L.map EV.ev)).2.2=0))with
 |false=>
  refine Rs (A3 t0 t1 @aaI) ?_;exact Lv
 |true=>
 have oL:=(o.ext (show Ext h (h++[rF c0 c1 c2]++g1)from Xx)).sl.aK;rw[aaM,aaX]at hsh;by_cases h0:L.length=0
 ·have d0:decide ((L.length:Int)=0)=true:=aaj Om;refine Rs (A5 t0 t1 @aaD @oL @d0) ?_;exact Lv
 have d0:decide ((L.length:Int)=0)=false:=aaf Om;have hl:L.length<=20:=by
  have:=hsh.1;simp only[kf,aaM,aaX,aak]at this;omega
 refine Rs (A5 t0 t1 @aaD @oL @d0) ?_;rw[<-hR];exact Po T ha X Z pw gl h9 o rfl hsh.2 Om hl hc0 hc1 hc2 hop Xx ((show Ext (h++[rF c0 c1 c2]) _ from Xx).some ba) Sn (Sq t0) Sw
end
def II{h:ah}{a:AV}(x:Iq h (.agg [.int .u16,.int .u16,.int .u16]) a):∃c0 c1 c2:Int,a=.agg [.int .u16 c0,.int .u16 c1,.int .u16 c2]/\(0<=c0/\c0<=65535)/\(0<=c1/\c1<=65535)/\(0<=c2/\c2<=65535):=by
 obtain⟨l,rfl,x⟩:=x;obtain⟨_,_,rfl,h1,x⟩:=gf x;obtain⟨_,_,rfl,h2,x⟩:=gf x;obtain⟨_,_,rfl,h3,x⟩:=gf x;obtain rfl:=qV x;obtain⟨c0,rfl,q0⟩:=rD h1;obtain⟨c1,rfl,q1⟩:=rD h2;obtain⟨c2,rfl,q2⟩:=rD h3;exact⟨c0,c1,c2,rfl,yq q0,yq q1,yq q2⟩
end Go.Abs
namespace Go.Proofs.YtgplmdgpmbegiaaGreatDoor
open Go.Abs
def uu:pg.length=9:=by kernel_rfl
def Bw:pg.all E9=true:=by kernel_rfl
def nine:9=Tryz.prog.globals.size:=by kernel_rfl
def h9{k:ah}(e:Ext pg k):9<=k.length:=by
 obtain⟨z,rfl⟩:=e;rw[aac,uu];omega
def PE{k:ah}(e:Ext pg k):∀(b:Nat) (x:ak),b<9->k[b]? =some x->E9 x=true:=by
 obtain⟨z,rfl⟩:=e;intro b x hb hx;rw[aag (by rw[uu];exact hb)]at hx;exact aaO.1 Bw x (aa8 hx)
end Go.Proofs.YtgplmdgpmbegiaaGreatDoor
