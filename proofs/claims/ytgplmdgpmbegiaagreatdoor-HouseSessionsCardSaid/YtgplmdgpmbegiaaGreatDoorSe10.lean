/- A part of the proof that HouseSessions holds. No condition. -/
import Derived.Test.YtgplmdgpmbegiaaGreatDoorSe9
import Derived.Test.YtgplmdgpmbegiaaGreatDoorSe8
import Derived.Test.YtgplmdgpmbegiaaGreatDoorSe7
import Derived.Test.YtgplmdgpmbegiaaGreatDoorSe0
set_option maxHeartbeats 4000000
set_option linter.all false
open Nat (reduceAdd reduceMul reduceLeDiff reduceEqDiff)
namespace Go.Abs
def yq(k:Nat):ai:=(fn81).body.dr k
def EK(k:Nat):ai:=((fn81).body.dr k).hd
def OU:fn81=⟨110,1,[(2,none),(3,some (some 7)),(4,none),(5,none)],.seq (EK 0) (yq 1)⟩:=rfl
def OT:yq 1=.seq (EK 1) (yq 2):=rfl
def OS:yq 2=.seq (EK 2) (yq 3):=rfl
def OR:yq 3=.seq (EK 3) (yq 4):=rfl
def OQ:yq 4=.seq (EK 4) (yq 5):=rfl
def RS(M:Nat)(l:List fi):AV->ah->Prop:=λv k=>
 ∃(sc:AV) (V:RV) (C:List EV),v=.dz [sc,.agg V.row,.i (bF l).2.1,.i (bF l).2.2]/\aC k V/\V.ao=(bF l).1.now/\fQ V.ao/\eJ k C sc/\C.map EV.ev=(bF l).1.fS/\C.length<=1000/\∀i,some i∈V.bl->M<i
def N5(h:ah)(l:List fi):AV->ah->Prop:=λv k=>Ext h k/\RS h.length l v k
structure NL(h W:ah)(L:List EV)(k:Nat)(C:List EV)(A:List RV)(sc sa:AV):Prop where
 x:Ext h W
 b:W[h.length]? =some (.b lI)
 c:aI (fh [some h.length] W) sc 5 (C.map EV.row)
 ce:∀e∈C,bj (fh [some h.length] W) e
 a:aI (fh [some h.length] W) sa 7 ((RV.zero::A).map RV.row)
 ae:∀R∈A,aC (fh [some h.length] W) R
 al:∀R∈A,∀i,some i∈R.bl->h.length<i
 w:lJ ⟨(L.take k).map EV.ev,C.map EV.ev,A.map RV.ao⟩
 r:bF (L.map EV.ev)=ia ⟨(L.take k).map EV.ev,C.map EV.ev,A.map RV.ao⟩ ((L.drop k).map EV.ev) k
def zk{W W2 b}(e:Ext W W2):gZ (fh [some b] W) (fh [some b] W2):=jC (λi hi _=>e.get hi) λ_ _ h=>h
def B2{W b X}:gZ (fh [some b] W) (W.set b X):=λi c mu tl hb=>by
 obtain⟨h1,h2⟩:=oz hb;have:i≠b:=λe=>h1 (by rw[e];simp)
 rw[Z4 (abe this)];exact h2
def NL.ext{h W W2 L k C A sc sa}(s:NL h W L k C A sc sa)(e:Ext W W2):NL h W2 L k C A sc sa:=
 ⟨s.x.trans e,e.some s.b,s.c.sub (zk e),λy hy=>(s.ce y hy).sub (zk e),s.a.sub (zk e),λy hy=>(s.ae y hy).sub (zk e),s.al,s.w,s.r⟩
def LB{h W}(e:Ext h W):gZ h (fh [some h.length] W):=λi c mu tl hb=>by
 have hl:=(ZM.1 hb).1;rw[uO (by intro z;simp only[Z9,aak]at z;omega)];exact e.some hb
def Ct{h k l i e}(he:e≠0)(hr:bF l=(ju.zero,i,e))(hx:Ext h k):N5 h l (.dz [.af,.agg RV.zero.row,.i i,.i e]) k:=by
 refine⟨hx,.af,RV.zero,[],by rw[hr],aC.zero,by rw[hr];rfl,fQ.zero,⟨.nil,λ_ h=>by cases h⟩,by rw[hr];rfl,Si,λi hi=>by simp[RV.zero,RV.bl,sB]at hi⟩
def HQ:Option AV->Option AV->Option AV->Option AV->Option AV
 |some a,some b,some c,some d=>some (.dz [a,b,c,d])
 |_,_,_,_=>none
def gN{a b c d}:HQ (some a) (some b) (some c) (some d)=some (.dz [a,b,c,d]):=rfl
def gX{ts h r s t u}:cR [r,s,t,u] ts h=HQ (dI ts h r) (dI ts h s) (dI ts h t) (dI ts h u):=by
 simp only[cR,je];cases dI ts h r<;>cases dI ts h s<;>cases dI ts h t<;>cases dI ts h u<;>rfl
def MY{A n}(hn:n=A.length):(RV.zero::A)[n]? =some (A.getLastD RV.zero):=by
 subst hn;rcases mA A with rfl|⟨m,y,rfl⟩
 ·rfl
 ·simp
def A0(A:List RV):(A.getLastD RV.zero).ao=(A.map RV.ao).getLastD hO.zero:=by
 rcases mA A with rfl|⟨m,y,rfl⟩
 ·rfl
 ·simp
set_option maxRecDepth 10000
attribute [local irreducible] WP WC WE WB WR WF WL WG fR WM
section
variable {P:Program}(T:fD P) {h W:ah}{ts:TS}
include T
def EJ{L s}(o:eJ h L s)(sh:x6 L)(hnl:∀x∈L,∀n∈x.ev.names,n.length<2^63)(hl:L.length<=1000){sa}(st:NL h W L 0 [] [] .af sa)(hlen:ts.length=110)(t0:slot ts 0=s)(t3:slot ts 3=.ptr h.length 0)(t6:slot ts 6=.af)(t7:slot ts 7=sa):
  WC P bL (yq 4) [] ts W (FQ [(2,none),(3,some (some 7)),(4,none),(5,none)] (N5 h (L.map EV.ev))):=by
 rw[OQ];generalize hE:yq 5=E;unfold EK fn81;simp only[ai.j,ai.s,ai.r,ai.dr,ai.tl,ai.hd];refine Rs (A4 t0 t3 t6 t7) ?_;refine WL.inv T.mix (λm ts W=>∃(k:Nat) (C:List EV) (A:List RV) (sc sa:AV),k<=L.length/\m=L.length-k/\NL h W L k C A sc sa/\ts.length=110/\slot ts 0=s/\slot ts 3=.ptr h.length 0/\slot ts 6=sc/\slot ts 7=sa/\slot ts 8=.i k) L.length
  ⟨0,[],[],.af,sa,Om,rfl,st,Sn,(Sq t0),(Sq t3),(Sq t6),(Sq t7),gf⟩ ?_
 clear t0 t3 t6 t7 hlen st;rintro _ ts W ⟨k,C,A,sc,sa,hk,rfl,st,hlen,t0,t3,t6,t7,t8⟩;have hAC:A.length=C.length:=by have:=st.w.ln;simpa using this
 have hCl:C.length<=L.length:=by have:=st.w.le;simp only[ZU,aaw]at this;omega
 have oW:=o.ext st.x;have Xm:=st.c.sub (gZ.fh _ _);have sta:=st.a.sub (gZ.fh _ _);have stae:∀R∈A,aC W R:=λR hR=>(st.ae R hR).sub (gZ.fh _ _)
 obtain⟨N,hN⟩:∃N,N=A.getLastD RV.zero:=⟨_,rfl⟩;have hgN:(RV.zero::A)[C.length]? =some N:=by rw[hN];exact MY hAC.symm
 have hCA:C.length<(RV.zero::A).length:=by simp only[ZP];omega
 have hgN':(RV.zero::A)[C.length]=N:=by rw[ZS hCA]at hgN;exact aaN hgN
 have ix:aV 7 sa (.i (C.length:Int))=some (cF sa 7 C.length,.ar):=sta.dA hCA;have ld:∀{kk:ah},Ext W kk->aq (some 7) (cF sa 7 C.length) (λb=>kk[b]?)=some (.agg N.row,.ar):=λ{kk} e=>by rw[<-hgN'];exact sta.kR hCA e
 have oN:aC (fh [some h.length] W) N:=by
  rcases mA A with hA|⟨m,y,hA⟩
  ·rw[hN,hA];exact aC.zero
  ·have:N=y:=by rw[hN,hA];simp
   rw[this];exact st.ae y (by rw[hA];simp)
 have lN:∀i,some i∈N.bl->h.length<i:=by
  rcases mA A with hA|⟨m,y,hA⟩
  ·intro i hi;rw[hN,hA]at hi;simp[RV.zero,RV.bl,sB]at hi
  ·have:N=y:=by rw[hN,hA];simp
   rw[this];exact st.al y (by rw[hA];simp)
 have hNr:N.ao=(A.map RV.ao).getLastD hO.zero:=by rw[hN];exact A0 A
 have wN:fQ N.ao:=by rw[hNr];exact st.w.now
 have hbl:=(ZM.1 st.b).1;by_cases hlt:k<L.length
 case neg=>
  have e3:=fq hlt;have e4:k=L.length:=Om
  have hr:=st.r;rw[e4,aaT]at hr;have Vu:bF (L.map EV.ev)=(⟨(L.take L.length).map EV.ev,C.map EV.ev,A.map RV.ao⟩,0,0):=hr;have Uh:=oN.J4 st.b;have gm:=oR (W:=W) (b:=h.length) (V:=N) hbl;refine Rs (A7 t0 t3 t6 t7 t8 oW.sl.aL e3) ?_;rw[<-hE];unfold yq fn81;simp only[ai.j,ai.s,ai.r,ai.dr,ai.tl];refine Rs (BD t0 t3 t6 t7 t8 Xm.aL ix @ld @Uh @aE @gm @gX @c8 @c9 @gN) ?_;exact⟨st.x.jD (Z0 _),sc,N,C,by rw[Vu],oN.sub B2,by rw[Vu,hNr];rfl,wN,⟨st.c.sub B2,λy hy=>(st.ce y hy).sub B2⟩,by rw[Vu],Om,lN⟩
 have e3:=eF hlt;have e5:=wrapN (n:=k) Om;have ik:=oW.sl.dA (kk:=.i64) hlt;obtain⟨x,hx⟩:∃x,x=L[k]:=⟨_,rfl⟩;have Ty:x∈L:=by rw[hx];exact ZZ _
 have lx:∀{kk:ah},Ext W kk->aq (some 5) (cF s 5 k) (λb=>kk[b]?)=some (.agg x.row,.ar):=λ{kk} e=>by rw[hx];exact oW.sl.kR hlt e
 have lx0:∀{kk:ah},Ext W kk->aq none (j6 s 5 k 0) (λb=>kk[b]?)=some (.i x.ev.num,.ar):=λ{kk} e=>oW.sl.lO hlt (by rw[<-hx];rfl) e
 have lx1:∀{kk:ah},Ext W kk->aq none (j6 s 5 k 1) (λb=>kk[b]?)=some (.str x.ev.kind,.ar):=λ{kk} e=>oW.sl.lO hlt (by rw[<-hx];rfl) e
 have ox:bj W x:=oW.all x Ty;have hd:L.drop k=x::L.drop (k+1):=by rw[hx];simp
 have SC:(L.take (k+1)).map EV.ev=(L.take k).map EV.ev++[x.ev]:=by rw[aay,ZS hlt,ZV,hx];rfl
 have SB:=st.r;rw[hd,aaJ,ia]at SB;obtain⟨H,hH⟩:∃H:ju,H=⟨(L.take k).map EV.ev,C.map EV.ev,A.map RV.ao⟩:=⟨_,rfl⟩;rw[<-hH]at SB;have hHe:H.cN.length=k:=by rw[hH];simp only[ZU,aaw];omega
 have wH:lJ H:=by rw[hH];exact st.w
 have hNow:N.ao=H.now:=by rw[hNr,hH];rfl
 have sbz:∀{kk:ah},Ext W kk->a8 7 (.ptr h.length 0) (.agg [AV.i 0,.af,.af,.af,.af,.af,.af]) (λz=>kk[z]?)=some (aA,.set h.length (.b RV.zero.row)):=λ{kk} e=>(aC.zero (h:=W)).J4 (e.some st.b)
 have fin:∀{W' G:ah}{c:Int},Ext h W'->ez H x.ev=c->c≠0->N5 h (L.map EV.ev) (.dz [.af,.agg RV.zero.row,.i ((k+1:Nat):Int),.i c]) (W'.set h.length (.b RV.zero.row)++G):=by
  intro W' G c e hb h0;refine Ct h0 ?_ ((e.jD (Z0 _)).trans ⟨G,rfl⟩);rw[SB,ZY (by rw[hb];exact h0),hb];simp
 have gmz:∀{W' G:ah},h.length<W'.length->aq (some 7) (.ptr h.length 0) (λz=>(W'.set h.length (.b RV.zero.row)++G)[z]?)=some (.agg RV.zero.row,.ar):=λ{W' G} hb=>by
  rw[az (by rw[ZQ (by rw[aax];exact hb)];exact Z8 hb)];rfl
 have TF:=(sh.e x Ty);refine Rs (A9 t0 t3 t6 t7 t8 oW.sl.aL e3 @ik @lx) ?_;refine WF.ce T.c39 (r39 T (ox.ext Xx) ⟨Om,Om⟩ (hnl x Ty)) λg1=>?_
 obtain⟨W1,UN⟩:∃Z,Z=W++g1:=⟨_,rfl⟩;rw[<-UN];have e1:Ext W W1:=⟨g1,UN⟩;have lx0:∀{kk:ah},Ext W1 kk->aq none (j6 s 5 k 0) (λb=>kk[b]?)=some (.i x.ev.num,.ar):=λ{kk} e=>lx0 (e1.trans e)
 have lx1:∀{kk:ah},Ext W1 kk->aq none (j6 s 5 k 1) (λb=>kk[b]?)=some (.str x.ev.kind,.ar):=λ{kk} e=>lx1 (e1.trans e)
 have lx:∀{kk:ah},Ext W1 kk->aq (some 5) (cF s 5 k) (λb=>kk[b]?)=some (.agg x.row,.ar):=λ{kk} e=>lx (e1.trans e)
 have ld:∀{kk:ah},Ext W1 kk->aq (some 7) (cF sa 7 C.length) (λb=>kk[b]?)=some (.agg N.row,.ar):=λ{kk} e=>ld (e1.trans e)
 have sbz:∀{kk:ah},Ext W1 kk->a8 7 (.ptr h.length 0) (.agg [AV.i 0,.af,.af,.af,.af,.af,.af]) (λz=>kk[z]?)=some (aA,.set h.length (.b RV.zero.row)):=λ{kk} e=>sbz (e1.trans e)
 have Xv:h.length<W1.length:=by have:=e1.len;omega
 have Xh:=λ{G:ah}=>gmz (G:=G) Xv
 have st:=st.ext e1;have stx:=st.x;have d11:decide ((11:Int)=0)=false:=rfl;have d11':decide ((11:Int)≠0)=true:=rfl;have d12:decide ((12:Int)=0)=false:=rfl;have d21:decide ((21:Int)=0)=false:=rfl;have d12':decide ((12:Int)≠0)=true:=rfl;have d21':decide ((21:Int)≠0)=true:=rfl;have d0:decide ((0:Int)=0)=true:=rfl;have d0':decide ((0:Int)≠0)=false:=rfl;by_cases h1:dB x.ev=0
 case neg=>
  have q1:decide (dB x.ev=0)=false:=ZN h1;have q2:decide (dB x.ev≠0)=true:=ZR h1;refine Rs (BD t0 t3 t6 t7 t8 Xm.aL q1 q2 e5 @sbz @gX @c8 @c9 @gN @Xh) ?_;exact fin stx (by rw[ez,ZY h1]) h1
 have q1:decide (dB x.ev=0)=true:=ZR h1;have q1':decide (dB x.ev≠0)=false:=ZN (λz=>z h1);obtain⟨d,we⟩:=uY h1;have hkD:=we.pT;have SE:x.ev.kind=bw d:=bZ we.kd;have VB:ez H x.ev=ke H x.ev:=by rw[ez,ZW (λz=>z h1)]
 by_cases h2:x.ev.num=((k+1:Nat):Int)
 case neg=>
  have q3:decide (x.ev.num≠((k+1:Nat):Int))=true:=ZR h2;refine Rs (Ss t0 t3 t6 t7 t8 Xm.aL q1 @ik @lx0 e5 q3 @d11 @d11' @sbz @gX @c8 @c9 @gN @Xh) ?_;exact fin stx (by rw[VB,ke,ZY (by rw[hHe];simpa using h2)]) De
 have q3:decide (x.ev.num≠((k+1:Nat):Int))=false:=ZN (λz=>z h2);have TX:¬x.ev.num≠(H.cN.length:Int)+1:=by rw[hHe];simpa using h2
 by_cases hu:d=.fO
 case pos=>
  have hK:pT x.ev=.fO:=by rw[hkD,hu]
  have q4:decide (bw d=[117,110,100,111])=true:=by rw[oO,hu];rfl
  rcases mA C with hC|⟨M,c,hC⟩
  ·have q5:decide ((C.length:Int)=0)=true:=by rw[hC];rfl
   refine Rs (RU t0 t3 t6 t7 t8 Xm.aL q1 @ik @lx0 @lx1 e5 q3 @SE q4 q5 @d12 @d12' @sbz @gX @c8 @c9 @gN @Xh) ?_;refine fin (c:=12) stx ?_ De;rw[VB,ke,ZW TX,ZY hK,hH,hC];rfl
  ·have hCl2:C.length=M.length+1:=by rw[hC];simp
   have q5:decide ((C.length:Int)=0)=false:=ZN Om;have w1:IntKind.i64.wrap ((C.length:Int)-1)=(M.length:Int):=by rw[aZ Om Om];omega
   have hMl:M.length<C.length:=Om
   have hcM:C[M.length]=c:=by simp[hC]
   have ic:aV 5 sc (.i (M.length:Int))=some (cF sc 5 M.length,.ar):=Xm.dA hMl;have lc:∀{kk:ah},Ext W1 kk->aq none (j6 sc 5 M.length 1) (λb=>kk[b]?)=some (.str c.ev.kind,.ar):=λ{kk} e=>Xm.lO hMl (by rw[hcM];rfl) (e1.trans e)
   obtain⟨dc,wc⟩:=st.w.cn c.ev (aah (by rw[hC];simp));have hkc:c.ev.kind=bw dc:=bZ wc.kd;have hlast:H.fS.getLast? =some c.ev:=by rw[hH,hC];simp
   by_cases hr:dc=.rel
   ·have q6:decide (bw dc=[114,101,108,101,97,115,101])=true:=by rw[qU,hr];rfl
    repeat (first|simp (config:={maxSteps:=1000000}) only[aQ,aR,aX,aY,reduceAdd,reduceMul,reduceLeDiff,reduceEqDiff,bd,hlen,Z3,Z7,t0,t3,t6,t7,t8,Xm.aL,q1,ik,lx0,lx1,e5,q3,SE,q4,q5,w1,ic,lc,hkc,q6,d21,d21',sbz,gX,c8,c9,gN,Xh]|simp (config:={maxSteps:=1000000}) (disch:=first|(simp only[ZL,ZP,ZT]<;>omega)|rfl|omega|fail) only[eD,aQ,aR,aX,aY,reduceAdd,reduceMul,reduceLeDiff,reduceEqDiff,bd,hlen,Z3,Z7,t0,t3,t6,t7,t8,Xm.aL,q1,ik,lx0,lx1,e5,q3,SE,q4,q5,w1,ic,lc,hkc,q6,d21,d21',sbz,gX,c8,c9,gN,Xh])
    refine fin (c:=21) stx ?_ De;rw[VB,ke,ZW TX,ZY hK,hlast];simp only[wc.pT,hr,Z7]
   ·have q6:decide (bw dc=[114,101,108,101,97,115,101])=false:=by rw[qU];exact ZN hr
    have TR:ez H x.ev=0:=by
     rw[VB,ke,ZW TX,ZY hK,hlast];simp only[wc.pT,hr,Z3]
    obtain⟨S9,ec,Yf⟩:=st.c.Ej (lo:=none) (hi:=some (.i (M.length:Int))) (ku Om);obtain⟨sa',ea,hsa⟩:=st.a.Ej (lo:=none) (hi:=some (.i (C.length:Int))) (ku (by simp;omega));refine Rs (N7 t0 t3 t6 t7 t8 Xm.aL q1 @ik @lx0 @lx1 e5 q3 @SE q4 q5 @w1 @ic @lc @hkc q6 @ec @ea) ?_;rcases mA A with hA|⟨D,R,hA⟩
    ·rw[hA]at hAC;simp only[ZT]at hAC;omega
    have hCM:List.take (M.length-0) (List.drop 0 C)=M:=by rw[hC];simp
    have hDl:D.length=M.length:=by have:=hAC;rw[hA]at this;simp only[ZL,Z6]at this;omega
    have hAD:List.take (C.length-0) (List.drop 0 (RV.zero::A))=RV.zero::D:=by
     rw[hCl2,hA,Nat.sub_zero,abc,abq,<-hDl];simp
    rw[hCM]at Yf;rw[hAD]at hsa;have Vl:ka H x.ev=⟨(L.take (k+1)).map EV.ev,M.map EV.ev,D.map RV.ao⟩:=by
     rw[ka,ZY hK,hH,SC,hC,hA];simp
    refine⟨_,Om,k+1,M,D,S9,sa',Om,rfl,⟨stx,st.b,Yf,λy hy=>st.ce y (by rw[hC];simp[hy]),hsa,λy hy=>st.ae y (by rw[hA];simp[hy]),λy hy=>st.al y (by rw[hA];simp[hy]),?_,?_⟩,rfl,rfl,rfl⟩
    ·rw[<-Vl];exact wH.add TR
    ·rw[SB,ZW (λz=>z TR),Vl]
 case neg=>
 have hK:pT x.ev≠.fO:=by rw[hkD];exact hu
 have q4:decide (bw d=[117,110,100,111])=false:=by rw[oO];exact ZN hu
 have hacs:ez H x.ev=jX N.ao x.ev d:=by rw[VB,ke,ZW TX,ZW hK,hkD,<-hNow]
 refine Rs (Kh t0 t3 t6 t7 t8 Xm.aL q1 @ik @lx0 @lx1 @lx e5 q3 @SE q4 ix @ld) ?_;have ox1:=ox.ext e1;have oN1:aC W1 N:=(oN.sub (gZ.fh _ _)).ext e1;refine WF.res T.c129 (r129 T (d:=d) (oN1.ext Xx) wN (ox1.ext Xx) we hu) ?_;rintro _ g2 ⟨V',rfl,YX,Wc⟩;obtain⟨W2,Tj⟩:∃Z,Z=W1++[an.b [AV.i 0,.af,.af,.af,.af,.af,.af]]++g2:=⟨_,rfl⟩;rw[<-Tj]at YX ⊢;have e2:Ext W1 W2:=by rw[Tj,ZO];exact⟨_,rfl⟩
 have m2:W2[W1.length]? =some (.b lI):=by
  rw[Tj];exact(show Ext (W1++[an.b lI]) _ from⟨g2,rfl⟩).some ba
 have hl2:W1.length<W2.length:=(ZM.1 m2).1;have sbn:=YX.J4 m2;obtain⟨W3,SS⟩:∃Z,Z=W2.set W1.length (.b V'.row):=⟨_,rfl⟩;have e3':Ext W1 W3:=by rw[SS];exact e2.jD (Z0 _)
 have x3:Ext h W3:=stx.trans e3';have m3:W3[W1.length]? =some (.b V'.row):=by rw[SS];exact Z8 hl2
 have Zt:W3.length=W2.length:=by rw[SS,aax]
 have k3:∀i,i≠W1.length->W3[i]? =W2[i]? :=λi hi=>by rw[SS,Z4 (abe hi)]
 have sbz3:=sbz e3';have gmz3:aq (some 7) (.ptr h.length 0) (λz=>(W3.set h.length (.b RV.zero.row))[z]?)=some (.agg RV.zero.row,.ar):=oR Om;have nT:=st.ext e3';by_cases h5:jX N.ao x.ev d=0
 case neg=>
  have q5:decide (jX N.ao x.ev d≠0)=true:=ZR h5;have ef:=fin (W':=W3) (G:=[]) x3 hacs h5;rw[aaf]at ef;rw[SS]at sbz3 gmz3 ef;refine Rs (za t0 t3 t6 t7 t8 @sbn q5 e5 @sbz3 @gX @c8 @c9 @gN @gmz3) ?_;exact ef
 have q5:decide (jX N.ao x.ev d≠0)=false:=ZN (λz=>z h5);have TR:ez H x.ev=0:=by rw[hacs,h5]
 obtain⟨hVr,hVb⟩:=Wc h5;have hVb:∀i,some i∈V'.bl->W1.length<i:=λi hi=>by have:=hVb i hi;simp only[ZL,Z6]at this;omega
 refine Rs (A7 t0 t3 t6 t7 t8 @sbn q5) ?_;rw[<-SS];have stc3:=nT.c.sub (gZ.fh _ _);refine WR.pg (N:=W3.length) (w:=88) ba (Z0 _) (stc3.ext Xx) (by rw[ZU];omega) λa1 y1 f1=>?_
 have p1:=f1.aO.one;obtain⟨Y,hY⟩:∃Z,Z=W3++[an.b []]++y1:=⟨_,rfl⟩;rw[<-hY]at f1 ⊢;have eY:Ext W3 Y:=by rw[hY,ZO];exact⟨_,rfl⟩
 have lxY:∀{kk:ah},Ext Y kk->aq (some 5) (cF s 5 k) (λb=>kk[b]?)=some (.agg x.row,.ar):=λ{kk} e=>lx ((e3'.trans eY).trans e)
 have bs:=@bj.Du _ _ ox;refine Rs (A9 t0 t3 t6 t7 t8 @ik @lxY @bs @p1) ?_;refine WR.ml (B:=W3) (cs:=C.map EV.row) f1 rfl eY De (by rw[ZU];omega) ?_;intro W4 s4 x4 WX hn4 q4' l4 hk4;have hrow:C.map EV.row++[x.row]=(C++[x]).map EV.row:=by rw[ZV];rfl
 rw[hrow]at WX;have st4:=nT.ext x4;have sta4:=st4.a.sub (gZ.fh _ _);refine Rs (A5 t0 t3 t6 t7 t8) ?_;refine WR.pg (N:=W4.length) (w:=152) ba (Z0 _) (sta4.ext Xx) (by simp only[ZU,ZP];omega) λa2 y2 f2=>?_
 have p2:=f2.aO.one;obtain⟨Y2,Ut⟩:∃Z,Z=W4++[an.b []]++y2:=⟨_,rfl⟩;rw[<-Ut]at f2 ⊢;have Vp:Ext W4 Y2:=by rw[Ut,ZO];exact⟨_,rfl⟩
 have lnx:∀{kk n a},Ext Y2 kk->aq n (.ptr W1.length a) (λz=>kk[z]?)=dK n a (.b V'.row):=λ{_ _ _} e=>az (((x4.trans Vp).trans e).some m3)
 have bv:=@aC.Du _ _ YX;refine Rs (A9 t0 t3 t6 t7 t8 @lnx @aE @bv @p2) ?_;refine WR.ml (B:=W4) (cs:=(RV.zero::A).map RV.row) f2 rfl Vp De (by simp only[ZU,ZP];omega) ?_;intro W5 s5 x5 Xy hn5 q5' l5 hk5;have hrow2:(RV.zero::A).map RV.row++[V'.row]=(RV.zero:: (A++[V'])).map RV.row:=Si
 rw[hrow2]at Xy;have st5:=st4.ext x5;have oV5:aC W5 V':=((YX.ar λi hi=>k3 i (by have:=hVb i hi;omega)).ext x4).ext x5;have Vl:ka H x.ev=⟨(L.take (k+1)).map EV.ev,(C++[x]).map EV.ev,(A++[V']).map RV.ao⟩:=by
  rw[ka,ZW hK,hkD,hH,SC];simp only[ZV,aaJ,abd,hVr];rw[<-hNow,hH]at *
  first|rfl|simp[hNr,ju.now]
 have hlW3:h.length<W3.length:=Om
 have hl4:W3.length<=W4.length:=x4.len;refine Rs (A6 t0 t3 t6 t7 t8 e5) ?_;refine⟨_,Om,k+1,C++[x],A++[V'],s4,s5,Om,rfl,⟨x3.trans (x4.trans x5),st5.b,(WX.ext x5).aO.fh λb hb z=>?_,λy hy=>?_,Xy.aO.fh λb hb z=>?_,λR hR=>?_,λR hR=>?_,?_,?_⟩,rfl,rfl,rfl⟩
 ·have:=(WX.bB hb).1;exact NO
 ·rcases ZX.1 hy with hy|hy
  ·exact st5.ce y hy
  ·rw[Z9]at hy;rw[hy];exact(o.all x Ty).sub (LB (x3.trans (x4.trans x5)))
 ·have:=(Xy.bB hb).1;exact NO
 ·rcases ZX.1 hR with hR|hR
  ·exact st5.ae R hR
  ·rw[Z9]at hR;rw[hR];exact oV5.fh λi hi z=>by
    have:=hVb i hi;exact NO
 ·rcases ZX.1 hR with hR|hR
  ·exact st5.al R hR
  ·rw[Z9]at hR;rw[hR];intro i hi;have:=hVb i hi;omega
 ·rw[<-Vl];exact wH.add TR
 ·rw[SB,ZW (λz=>z TR),Vl]
def r81{L s}(o:eJ h L s)(sh:x6 L)(hnl:∀x∈L,∀n∈x.ev.names,n.length<2^63):ay P 81 [s] h (RS h.length (L.map EV.ev)):=by
 refine .of T.mix (acb T.c81 (aan some OU)) ?_;obtain⟨ts,Sv⟩:∃ts,ts=aU 110 [s]:=⟨_,rfl⟩;have hlen:ts.length=110:=by rw[Sv];rfl
 have t0:slot ts 0=s:=by rw[Sv];rfl
 show WC P bL (.seq (EK 0) (yq 1)) [] (aU 110 [s]) h (FQ [(2,none),(3,some (some 7)),(4,none),(5,none)] (N5 h (L.map EV.ev)));rw[<-Sv];clear Sv;have hsl:=sh.l;by_cases h1:1000<L.length
 ·have q1:decide ((1000:Int)<(L.length:Int))=true:=ZR Om;have e:bF (L.map EV.ev)=(ju.zero,0,5):=by rw[bF,ZY (by simpa using h1)]
  have m0:(h++[an.b lI])[h.length]? =some (.b lI):=ba;have sbz:a8 7 (.ptr h.length 0) (.agg [AV.i 0,.af,.af,.af,.af,.af,.af]) (λz=>(h++[an.b lI])[z]?)=some (aA,.set h.length (.b RV.zero.row)):=(aC.zero (h:=h)).J4 m0;unfold lI at sbz;have gmz:aq (some 7) (.ptr h.length 0) (λz=>(h++[an.b RV.zero.row])[z]?)=some (.agg RV.zero.row,.ar):=by rw[az ba];rfl
  unfold yq EK fn81;simp only[ai.j,ai.s,ai.r,ai.dr,ai.tl,ai.hd];refine Rs (A9 t0 o.sl.aL q1 @sbz @gX @c8 @c9 @gN @gmz) ?_;exact Ct De e Xx
 have q1:decide ((1000:Int)<(L.length:Int))=false:=ZN Om;rw[OT,OS,OR];generalize hR:yq 4=R;unfold EK fn81;simp only[ai.j,ai.s,ai.r,ai.dr,ai.tl,ai.hd];refine Rs (A3 t0 o.sl.aL q1) ?_;rw[<-hR];have hx:Ext h (h++[an.b lI]++[an.cells RV.zero.row true true]):=Xx;have fz:Fr (h.length+1) (h++[an.b lI]++[an.cells RV.zero.row true true]) (.slice (h.length+1) 0 1 7) 7 [RV.zero.row]:=by
  have:=Fr.push (h:=h++[an.b lI]) (N:=h.length+1) (es:=7) Si [RV.zero.row] (λx hx=>by rw[Z9]at hx;rw[hx];rfl)
  simpa using this
 refine EJ T (sa:=.slice (h.length+1) 0 1 7) (W:=h++[an.b lI]++[an.cells RV.zero.row true true]) o sh hnl Om ⟨hx,Si,.nil,(λ_ h=>by cases h),fz.aO.fh λb hb z=>?_,(λ_ h=>by cases h),(λ_ h=>by cases h),lJ.zero,?_⟩ Sn (Sq t0) Sw Sw (by simp only[aQ,aR,aX,aY,reduceAdd,reduceMul,reduceLeDiff,reduceEqDiff,bd,hlen,Z3,Z7];simp)
 ·have:=(fz.bB hb).1;exact NO
 ·rw[bF,ZW (by simpa using h1)];rfl
end
structure Kc(L:List EV):Prop where
 n:∀x∈L,∀n∈x.ev.names,n.length<2^63
section
variable {P:Program}(T:fD P) {h:ah}
include T
def r18{L s}(o:eJ h L s)(sh:x6 L)(nl:Kc L):ay P 18 [s] h (λv k=>∃V:RV,v=.dz [.agg V.row,.i (bF (L.map EV.ev)).2.1,.i (bF (L.map EV.ev)).2.2]/\aC k V/\V.ao=(bF (L.map EV.ev)).1.now/\fQ V.ao/\∀i,some i∈V.bl->h.length<i):=by
 refine .jd 19 T.mix T.c18 ?_;intro ts hlen t0;unfold fn18 gA;refine Rs t0 ?_;refine WF.res T.c81 (r81 T (o.ext Xx) sh nl.n) ?_;rintro _ g ⟨sc,V,C,rfl,oV,hV,wV,oC,hC,hCl,lo⟩;have lo:∀i,some i∈V.bl->h.length+1<i:=λi hi=>by have:=lo i hi;simpa using this
 have st:=@aC.st _ _ oV;refine Rs (A3 t0 @st @aE) ?_;refine⟨V,rfl,?_,hV,wV,λi hi=>by have:=lo i hi;omega⟩;have:=oV.ar (k:=h++[an.b V.row]++g) λj hj=>zV (by have:=lo j hj;omega)
 exact this.ext Xx
def r49{L s}(o:eJ h L s)(sh:x6 L)(nl:Kc L){x}(ox:bj h x)(hx:x.ev.names.length<=2^30/\x.ev.bQ.length<=2^30)(hn:∀n∈x.ev.names,n.length<2^63):ay P 49 [s,.agg x.row] h (λv _=>v=.i (qK (L.map EV.ev) x.ev)):=by
 refine .fo 36 T.mix T.c49 ?_;intro ts hlen t0 t1;unfold fn49 gA;have Su:=@bj.box _ _ ox;refine Rs (A3 t0 t1 @Su) ?_;refine WF.res T.c18 (r18 T (o.ext Xx) sh nl) ?_;rintro _ g ⟨V,rfl,oV,hV,wV,lo⟩;have st:=@aC.st _ _ oV;by_cases h1:(bF (L.map EV.ev)).2.2=0
 case neg=>
  have q1:decide ((bF (L.map EV.ev)).2.2=0)=false:=ZN h1;have q2:decide ((bF (L.map EV.ev)).2.2≠0)=true:=ZR h1;refine Rs (A5 t0 t1 @st q1 q2) ?_;rw[qK,ZY h1]
 have q1:decide ((bF (L.map EV.ev)).2.2=0)=true:=ZR h1;obtain⟨W,hW⟩:∃Z,Z=h++[an.b x.row]++g++[an.b V.row]:=⟨_,rfl⟩;refine Rs (A5 t0 t1 @st q1 @bS) ?_;rw[<-hW];have eW:Ext h W:=by rw[hW];exact Xx
 have me:W[h.length]? =some (.b x.row):=by
  rw[hW];exact(show Ext (h++[an.b x.row]) _ from Xx).some ba
 refine WF.ce T.c39 (r39 T (ox.ext eW) ⟨Om,Om⟩ hn) λg1=>?_
 by_cases h2:dB x.ev=0
 case neg=>
  have q2:decide (dB x.ev≠0)=true:=ZR h2;refine Rs (A3 t0 t1 q2) ?_;exact⟨eW.trans ⟨g1,rfl⟩,by rw[qK,ZW (λz=>z h1),ZY h2]⟩
 have q2:decide (dB x.ev≠0)=false:=ZN (λz=>z h2);have hsl:=sh.l;by_cases h3:1000<=L.length
 case pos=>
  have q3:decide ((1000:Int)<=(L.length:Int))=true:=ZR Om;refine Rs (A5 t0 t1 q2 o.sl.aL q3) ?_;exact⟨eW.trans ⟨g1,rfl⟩,by rw[qK,ZW (λz=>z h1),ZW (λz=>z h2),ZY (by simpa using h3)]⟩
 have q3:decide ((1000:Int)<=(L.length:Int))=false:=ZN Om;obtain⟨W1,UN⟩:∃Z,Z=W++g1:=⟨_,rfl⟩;rw[<-UN];have e1:Ext W W1:=⟨g1,UN⟩;have le:∀{k n a},Ext W1 k->aq n (.ptr h.length a) (λz=>k[z]?)=dK n a (.b x.row):=λ{_ _ _} e=>az ((e1.trans e).some me)
 have bs:=@bj.Du _ _ ox;have oW:=o.ext (eW.trans e1);refine Rs (A5 t0 t1 q2 o.sl.aL q3) ?_;refine WR.pg (N:=W1.length) (w:=88) ba (Z0 _) (oW.sl.ext Xx) (by rw[ZU];omega) λa1 y1 f1=>?_
 have p1:=f1.aO.one;obtain⟨Y,hY⟩:∃Z,Z=W1++[an.b []]++y1:=⟨_,rfl⟩;rw[<-hY]at f1 ⊢;have eY:Ext W1 Y:=by rw[hY,ZO];exact⟨_,rfl⟩
 have le:∀{k n a},Ext Y k->aq n (.ptr h.length a) (λz=>k[z]?)=dK n a (.b x.row):=λ{_ _ _} e=>le (eY.trans e)
 refine Rs (A6 t0 t1 @le @bS @bs @p1) ?_;refine WR.ml (B:=W1) (cs:=L.map EV.row) f1 rfl eY De (by rw[ZU];omega) ?_;intro W4 s4 x4 WX hn4 q4' l4 hk4;have hrow:L.map EV.row++[x.row]=(L++[x]).map EV.row:=by rw[ZV];rfl
 rw[hrow]at WX;have o4:eJ W4 (L++[x]) s4:=⟨WX.aO,λy hy=>by
  rcases ZX.1 hy with hy|hy
  ·exact(oW.all y hy).ext x4
  ·rw[Z9]at hy;rw[hy];exact ox.ext ((eW.trans e1).trans x4)⟩
 have sh4:x6 (L++[x]):=⟨by simp;omega,λy hy=>by
  rcases ZX.1 hy with hy|hy
  ·exact sh.e y hy
  ·rw[Z9]at hy;rw[hy];exact hx⟩
 have nl4:Kc (L++[x]):=⟨λy hy=>by
  rcases ZX.1 hy with hy|hy
  ·exact nl.n y hy
  ·rw[Z9]at hy;rw[hy];exact hn⟩
 refine Rs (A2 t0 t1) ?_;refine WF.res T.c18 (r18 T o4 sh4 nl4) ?_;rintro _ g5 ⟨V5,rfl,_⟩;refine Rs (A2 t0 t1) ?_;refine⟨(eW.trans e1).trans (x4.trans ⟨g5,rfl⟩),?_⟩;rw[qK,ZW (λz=>z h1),ZW (λz=>z h2),ZW (by simpa using h3)];simp only[ZV,aaJ,abd]
end
section
variable {P:Program}(T:fD P) {h:ah}
include T
end
theorem zu{α:Type}{row:α->List AV}{Q:α->Prop}:∀{cs:List (List AV)},(∀c∈cs,∃x,c=row x/\Q x)->∃L:List α,cs=L.map row/\∀x∈L,Q x
 |[],_=>⟨[],rfl,λ_ h=>by cases h⟩
 |c::cs,h=>by
  obtain⟨x,rfl,hx⟩:=h c (aaH ..);obtain⟨L,rfl,hL⟩:=zu (cs:=cs) λc hc=>h c (aao _ hc)
  exact⟨x::L,rfl,λy hy=>(aap.1 hy).elim (λe=>e▸hx) (hL y)⟩
def BX{h a}(x:TY h .str a):∃s:By,a=.str s/\s.length<=maxLen:=by rw[TY]at x;exact x
def Lx{h r a}(x:TY h (.sl r) a):∃cs:List (List AV),aI h a r.length cs/\cs.length<=maxLen/\∀c∈cs,jQ h r c:=by rw[TY]at x;exact x
def Ee{h l}(x:jQ h [] l):l=[]:=by rw[jQ]at x;exact x
def BU{h t ts l}(x:jQ h (t::ts) l):∃a l',l=a::l'/\TY h t a/\jQ h ts l':=by rw[jQ]at x;exact x
def BV{h l}(x:ti h [] l):l=[]:=by rw[ti]at x;exact x
def tv{h t ts l}(x:ti h (t::ts) l):∃a l',l=a::l'/\Hy h t a/\ti h ts l':=by rw[ti]at x;exact x
def Ef{h a}(x:Hy h (.one .str) a):∃s:By,a=.str s/\s.length<=maxLen:=BX (h:=h) x
def Eg{h:ah}{a:AV}(x:TY h (.sl [.str]) a):∃L:List (By),aI h a 1 (L.map ak)/\L.length<=maxLen/\∀s∈L,s.length<=maxLen:=by
 obtain⟨cs,hs,hl,hc⟩:=Lx x;obtain⟨L,rfl,hL⟩:=zu (row:=ak) (Q:=λs=>s.length<=maxLen) λc hcm=>by
  obtain⟨_,_,rfl,h1,x⟩:=BU (hc c hcm);obtain rfl:=Ee x;obtain⟨s,rfl,hs⟩:=BX h1;exact⟨s,rfl,hs⟩
 exact⟨L,hs,by simpa using hl,hL⟩
def BW{h a}(x:Hy h (.one (.sl [.str])) a):∃L:List (By),aI h a 1 (L.map ak)/\L.length<=maxLen/\∀s∈L,s.length<=maxLen:=Eg x
section
variable {P:Program}(T:fD P) {h:ah}
include T
def JZ(h:ah):AV->ah->Prop:=λv k=>Ext h k/\v=.bool true
end
section
variable {P:Program}(T:fD P) {h:ah}
include T
def r32{L M:List EV}{s t:AV}(o:eJ h L s)(p:eJ h M t)(e:L.map EV.ev=M.map EV.ev)(hl:L.length<2^40)(hn:∀x∈L,x.ev.names.length<2^40/\x.ev.bQ.length<2^40):ay P 32 [s,t] h (λv _=>v=.bool true):=by
 have Vc:L.length=M.length:=by have:=aan List.length e;simpa using this
 refine .fo 82 T.mix T.c32 ?_;intro ts hlen t0 t1;unfold fn32;have q0:decide ((L.length:Int)≠M.length)=false:=ZN Om;refine Rs (A5 t0 t1 o.sl.aL p.sl.aL q0) ?_;refine WL.inv T.mix (λm ts h'=>∃k:Nat,k<=L.length/\m=L.length-k/\Ext h h'/\ts.length=82/\slot ts 0=s/\slot ts 1=t/\slot ts 5=.int .i64 k) L.length
  ⟨0,Om,rfl,Ext.refl h,Sn,(Sq t0),(Sq t1),gf⟩ ?_
 rintro _ ts W ⟨k,hk,rfl,eW,hlen,t0,t1,t5⟩;have o:=o.ext eW;have p:=p.ext eW;by_cases hlt:k<L.length
 ·have Vb:k<M.length:=Om
  have e3:=eF hlt;have e5:=wrapN (n:=k) Om;have ix:=o.sl.dA (kk:=.i64) hlt;have iy:=p.sl.dA (kk:=.i64) Vb;obtain⟨x,hx⟩:∃x,x=L[k]:=⟨_,rfl⟩;obtain⟨y,hy⟩:∃y,y=M[k]:=⟨_,rfl⟩;have exy:y.ev=x.ev:=by
   have h1:(L.map EV.ev)[k]? =some x.ev:=by rw[aa8,ZS hlt,hx];rfl
   have h2:(M.map EV.ev)[k]? =some y.ev:=by rw[aa8,ZS Vb,hy];rfl
   rw[e,h2]at h1;exact aaN h1
  have Ty:x∈L:=by rw[hx];exact ZZ _
  have UO:y∈M:=by rw[hy];exact ZZ _
  have ox:=o.all x Ty;have oy:=p.all y UO;have oyn:=oy.n;have oyv:=oy.v;rw[exy]at oyn oyv;have a0:∀{kk:ah},Ext W kk->aq none (j6 s 5 k 0) (λb=>kk[b]?)=some (.int .i64 x.ev.num,.ar):=λ{kk} e=>o.sl.lO hlt (by rw[<-hx];rfl) e
  have a1:∀{kk:ah},Ext W kk->aq none (j6 s 5 k 1) (λb=>kk[b]?)=some (.str x.ev.kind,.ar):=λ{kk} e=>o.sl.lO hlt (by rw[<-hx];rfl) e
  have a2:∀{kk:ah},Ext W kk->aq none (j6 s 5 k 2) (λb=>kk[b]?)=some (x.sn,.ar):=λ{kk} e=>o.sl.lO hlt (by rw[<-hx];rfl) e
  have a3:∀{kk:ah},Ext W kk->aq none (j6 s 5 k 3) (λb=>kk[b]?)=some (x.sv,.ar):=λ{kk} e=>o.sl.lO hlt (by rw[<-hx];rfl) e
  have a4:∀{kk:ah},Ext W kk->aq none (j6 s 5 k 4) (λb=>kk[b]?)=some (.str x.ev.text,.ar):=λ{kk} e=>o.sl.lO hlt (by rw[<-hx];rfl) e
  have b0:∀{kk:ah},Ext W kk->aq none (j6 t 5 k 0) (λb=>kk[b]?)=some (.int .i64 x.ev.num,.ar):=λ{kk} e=>by rw[<-exy];exact p.sl.lO Vb (by rw[<-hy];rfl) e
  have b1:∀{kk:ah},Ext W kk->aq none (j6 t 5 k 1) (λb=>kk[b]?)=some (.str x.ev.kind,.ar):=λ{kk} e=>by rw[<-exy];exact p.sl.lO Vb (by rw[<-hy];rfl) e
  have b2:∀{kk:ah},Ext W kk->aq none (j6 t 5 k 2) (λb=>kk[b]?)=some (y.sn,.ar):=λ{kk} e=>p.sl.lO Vb (by rw[<-hy];rfl) e
  have b3:∀{kk:ah},Ext W kk->aq none (j6 t 5 k 3) (λb=>kk[b]?)=some (y.sv,.ar):=λ{kk} e=>p.sl.lO Vb (by rw[<-hy];rfl) e
  have b4:∀{kk:ah},Ext W kk->aq none (j6 t 5 k 4) (λb=>kk[b]?)=some (.str x.ev.text,.ar):=λ{kk} e=>by rw[<-exy];exact p.sl.lO Vb (by rw[<-hy];rfl) e
  have n0:decide (x.ev.num≠x.ev.num)=false:=Si
  have n1:decide (x.ev.kind≠x.ev.kind)=false:=Si
  have n4:decide (x.ev.text≠x.ev.text)=false:=Si
  refine Rs (BD t0 t1 t5 e3 o.sl.aL ix @iy @a0 @b0 @a1 @b1 @a2 @b2 @n0 @n1) ?_;refine WF.ce T.c25 (r25 T ox.n oyn (hn x Ty).1 (hn x Ty).1) λg1=>?_
  refine Rs (A9 t0 t1 t5 ix @iy @a3 @b3 @Z5 @aad) ?_;refine WF.ce T.c62 (r62 T (ox.v.ext Xx) (oyv.ext Xx) (hn x Ty).2 (hn x Ty).2) λg2=>?_
  refine Rs (mQ t0 t1 t5 ix @iy @a4 @b4 @n4 @Z5 @aad e5) ?_;exact⟨_,Om,k+1,Om,rfl,eW.trans Xx,rfl⟩
 ·have e3:=fq hlt;refine Rs (A5 t0 t1 t5 e3 o.sl.aL) ?_;exact⟨eW,trivial⟩
end
def n9(c x:UInt8)(ps:List (By)):List (By):=if x=c then ps++[[]]else ps.dropLast++[ps.getLastD []++[x]]
theorem qh{c x:UInt8}:∀{s:By},aF c (s++[x])=n9 c x (aF c s)
 |[]=>by
  by_cases h:x=c
  ·simp[aF,n9,h]
  ·simp[aF,n9,h]
 |y::r=>by
  have ih:=qh (c:=c) (x:=x) (s:=r);have hne:=fJ (c:=c) (s:=r);rw[aaX,aF,ih,aF];by_cases h:y=c
  ·rw[ZY h,ZY h];unfold n9;by_cases hx:x=c
   ·rw[ZY hx,ZY hx];rfl
   ·rw[ZW hx,ZW hx,List.dropLast_cons_of_ne_nil hne,List.getLastD_cons];cases hs:aF c r with
    |nil=>exact absurd hs hne
    |cons p ps=>simp[aa6]
  ·rw[ZW h,ZW h];cases hs:aF c r with
   |nil=>exact absurd hs hne
   |cons p ps=>
    unfold n9;by_cases hx:x=c
    ·rw[ZY hx,ZY hx];rfl
    ·rw[ZW hx,ZW hx];cases ps with
     |nil=>simp
     |cons q qs=>simp[aa6]
def AK{c x:UInt8}{ps:List (By)}(hx:x≠c)(hne:ps≠[]):n9 c x ps=ps.set (ps.length-1) (ps.getD (ps.length-1) []++[x]):=by
 unfold n9;rw[ZW hx];obtain⟨q,l,rfl⟩:∃q l,ps=q++[l]:=⟨ps.dropLast,ps.getLast hne,(List.dropLast_concat_getLast hne).symm⟩;simp[aa6,aaE]
def uk{n k m:Nat}{kk k2:IntKind}(h1:k<=m)(h2:m<=n):ja (some (.int kk (k:Int))) (some (.int k2 (m:Int))) n=some (k,m):=by
 simp only[ja,G8,Fk];rw[ZY ⟨Om,Om,Om⟩];simp
def GQ{s:By}{k:Nat}{kk k2:IntKind}(hk:k<s.length):qM (.str s) (some (.int kk (k:Int))) (some (.int k2 ((k+1:Nat):Int)))=some (.str [s[k]]):=by
 simp only[qM,uk (show k<=k+1 by omega) (show k+1<=s.length by omega)];rw[show k+1-k=1 by omega,abb hk];rfl
section
variable {P:Program}(T:fD P) {h:ah}
include T
set_option maxRecDepth 10000 in
def r105(s:By)(c:UInt8)(hs:s.length<=2^40):ay P 105 [.str s,.int .u8 c.toNat] h (λv h'=>Fr h.length h' v 1 ((aF c s).map ak)):=by
 refine .fo 40 T.mix T.c105 ?_;intro ts hlen t0 t1;unfold fn105;refine Rs (A2 t0 t1) ?_;have hF0:=Fr.push (N:=h.length) (h:=h) (es:=1) (Z0 _) (([[]] :List (By)).map ak) (by simp[ak]);have hlenB:∀k,(aF c (s.take k)).length<=s.length+1:=λk=>by
  rw[jS];have:=abO (a:=c) (l:=s.take k);exact KN
 refine WL.inv T.mix (λn ts' h'=>∃(k:Nat) (sv:AV) (g':ah),k<=s.length/\n=s.length-k/\h' =h++g'/\Fr h.length h' sv 1 ((aF c (s.take k)).map ak)/\ts'.length=40/\slot ts' 0=.str s/\slot ts' 1=.int .u8 c.toNat/\slot ts' 5=sv/\slot ts' 6=.int .i64 k) s.length
  ⟨0,_,_,Om,rfl,rfl,hF0,(Sq t0),(Sq t0),(Sq t1),gf,gf⟩ ?_
 rintro _ ts' _ ⟨k,sv,g',hk,rfl,rfl,hF,S3,u0,u1,u5,u6⟩;clear hlen t0 t1 hF0;have hlen:=S3;have hlB:=hlenB k;have hne:=fJ (c:=c) (s:=s.take k);by_cases hlt:k<s.length
 ·have e3:(k:Int)<s.length:=Om
  have Wt:aF c (s.take (k+1))=n9 c s[k] (aF c (s.take k)):=by rw[cY hlt,qh]
  by_cases hc:s[k]=c
  ·have dc:decide ((s[k].toNat:Int)=c.toNat)=true:=ZR (by rw[hc])
   repeat (first|simp (config:={maxSteps:=1000000}) only[aQ,aR,aX,aY,reduceAdd,reduceMul,reduceLeDiff,reduceEqDiff,bd,hlen,Z3,Z7,u0,u1,u5,u6,e3,Z5,cM hlt,dc]|simp (config:={maxSteps:=1000000}) (disch:=first|(simp only[ZL,ZP,ZT]<;>omega)|rfl|omega|fail) only[eD,aQ,aR,aX,aY,reduceAdd,reduceMul,reduceLeDiff,reduceEqDiff,bd,hlen,Z3,Z7,u0,u1,u5,u6,e3,Z5,cM hlt,dc])
   refine WR.fP (h0:=h) (cs:=(aF c (s.take k)).map ak) (ys:=[ak []]) (hF.app _) (Fr.push (N:=0) (aam _) [ak []] (by simp[ak])).aO De Si (by simp;omega) Xx ?_;intro g2 hl2 ZH _;have er:(aF c (s.take k)).map ak++[ak []]=(aF c (s.take (k+1))).map ak:=by
    rw[Wt,n9,ZY hc,ZV];rfl
   rw[er]at ZH ⊢;exact Q5
  ·have dc:decide ((s[k].toNat:Int)=c.toNat)=false:=ZN λe=>hc (abG.1 Om)
   have Vv:0<(aF c (s.take k)).length:=aba.2 hne;have hi:(aF c (s.take k)).length-1<(aF c (s.take k)).length:=Om
   have w1:IntKind.i64.wrap (((aF c (s.take k)).length:Int)-1)=(((aF c (s.take k)).length-1:Nat):Int):=by rw[aZ Om Om];omega
   have ix:=hF.aO.dA (kk:=.i64) hi;have gl:(aF c (s.take k)).getD ((aF c (s.take k)).length-1) []=(aF c (s.take k))[(aF c (s.take k)).length-1]:=by rw[aar,ZS hi];rfl
   rw[AK hc hne,gl]at Wt;have hwl:(aF c (s.take k))[(aF c (s.take k)).length-1].length<=s.length:=by
    have h1:=kM _ (ZZ hi);exact KN
   have ld:=λ{kk:ah}(e:Ext (h++g') kk)=>hF.aO.gR hi (x:=.str (aF c (s.take k))[(aF c (s.take k)).length-1]) rfl e
   obtain⟨j,hj⟩:∃j,j=(aF c (s.take k)).length-1:=⟨_,rfl⟩
   repeat (first|simp (config:={maxSteps:=1000000}) only[aQ,aR,aX,aY,reduceAdd,reduceMul,reduceLeDiff,reduceEqDiff,bd,hlen,Z3,Z7,u0,u1,u5,u6,e3,Z5,cM hlt,dc,hF.aO.aL,w1,ix,ld,wrapN (show k+1<2^63 by omega),GQ hlt,ep (show(aF c (s.take k))[(aF c (s.take k)).length-1].length+[s[k]].length<2^62 by simp;omega)]|simp (config:={maxSteps:=1000000}) (disch:=first|(simp only[ZL,ZP,ZT]<;>omega)|rfl|omega|fail) only[eD,aQ,aR,aX,aY,reduceAdd,reduceMul,reduceLeDiff,reduceEqDiff,bd,hlen,Z3,Z7,u0,u1,u5,u6,e3,Z5,cM hlt,dc,hF.aO.aL,w1,ix,ld,wrapN (show k+1<2^63 by omega),GQ hlt,ep (show(aF c (s.take k))[(aF c (s.take k)).length-1].length+[s[k]].length<2^62 by simp;omega)])
   refine WR.sW (h0:=h) (off:=0) (x':=(aF c (s.take k))[(aF c (s.take k)).length-1]++[s[k]]) hF hi De rfl (by simp[ak]) ?_;intro g2 hl2 ZH _;rw[<-Wt]at ZH;exact Q5
 ·have e3:¬(k:Int)<s.length:=Om
  have ek:k=s.length:=Om
  rw[ek,aaj]at hF;refine Rs (A6 @u0 @u1 @u5 @u6 e3 @aac) ?_;exact hF
set_option maxRecDepth 10000 in
def r191(s:By)(hs:s.length<=2^40):ay P 191 [.str s] h (λv _=>v=.bool (s.all cO&&decide (s.length=7))):=by
 refine .jd 23 T.mix T.c191 ?_;intro ts hlen t0;unfold fn191 gA;refine Rs t0 ?_;refine WL.inv T.mix (λn ts' h'=>∃k:Nat,k<=s.length/\n=s.length-k/\h' =h/\(s.take k).all cO=true/\ts'.length=23/\slot ts' 0=.str s/\slot ts' 3=.int .i64 k) s.length
  ⟨0,Om,rfl,rfl,rfl,(Sq t0),(Sq t0),gf⟩ ?_
 rintro _ ts' _ ⟨k,hk,rfl,rfl,hd,S3,u0,u3⟩;clear hlen t0;have hlen:=S3;by_cases hlt:k<s.length
 ·have e3:=eF hlt;have bad:cO s[k]=false->(false:Bool)=(s.all cO&&decide (s.length=7)):=λhx=>by
   have:s.all cO=false:=by rw[List.all_eq_false];exact⟨s[k],ZZ hlt,by simp[hx]⟩
   rw[this];rfl
  by_cases a5:(s[k].toNat:Int)<48
  ·have d1:decide ((s[k].toNat:Int)<48)=true:=ZR a5
   repeat (first|simp (config:={maxSteps:=1000000}) only[aQ,aR,aX,aY,reduceAdd,reduceMul,reduceLeDiff,reduceEqDiff,bd,hlen,Z3,Z7,u0,u3,e3,cM hlt,d1]|simp (config:={maxSteps:=1000000}) (disch:=first|(simp only[ZL,ZP,ZT]<;>omega)|rfl|omega|fail) only[eD,aQ,aR,aX,aY,reduceAdd,reduceMul,reduceLeDiff,reduceEqDiff,bd,hlen,Z3,Z7,u0,u3,e3,cM hlt,d1])
   exact KY
  have d1:decide ((s[k].toNat:Int)<48)=false:=ZN a5;by_cases a6:(57:Int)<(s[k].toNat:Int)
  ·have d2:decide ((57:Int)<(s[k].toNat:Int))=true:=ZR a6
   repeat (first|simp (config:={maxSteps:=1000000}) only[aQ,aR,aX,aY,reduceAdd,reduceMul,reduceLeDiff,reduceEqDiff,bd,hlen,Z3,Z7,u0,u3,e3,cM hlt,d1,d2]|simp (config:={maxSteps:=1000000}) (disch:=first|(simp only[ZL,ZP,ZT]<;>omega)|rfl|omega|fail) only[eD,aQ,aR,aX,aY,reduceAdd,reduceMul,reduceLeDiff,reduceEqDiff,bd,hlen,Z3,Z7,u0,u3,e3,cM hlt,d1,d2])
   exact KY
  have d2:decide ((57:Int)<(s[k].toNat:Int))=false:=ZN a6
  repeat (first|simp (config:={maxSteps:=1000000}) only[aQ,aR,aX,aY,reduceAdd,reduceMul,reduceLeDiff,reduceEqDiff,bd,hlen,Z3,Z7,u0,u3,e3,cM hlt,d1,d2,wrapN (show k+1<2^63 by omega)]|simp (config:={maxSteps:=1000000}) (disch:=first|(simp only[ZL,ZP,ZT]<;>omega)|rfl|omega|fail) only[eD,aQ,aR,aX,aY,reduceAdd,reduceMul,reduceLeDiff,reduceEqDiff,bd,hlen,Z3,Z7,u0,u3,e3,cM hlt,d1,d2,wrapN (show k+1<2^63 by omega)])
  refine⟨s.length-(k+1),Om,k+1,Om,rfl,?_,rfl⟩;rw[cY hlt,abS,hd];simp[eG.2 (show 48<=s[k].toNat/\s[k].toNat<=57 by omega)]
 ·have e3:=fq hlt;have ek:k=s.length:=Om
  rw[ek,aaj]at hd;have e7:decide ((s.length:Int)=7)=decide (s.length=7):=by congr 1;exact propext Om
  refine Rs (A4 @u0 @u3 e3 e7) ?_;rw[hd];rfl
set_option maxRecDepth 10000 in
def MO{s:By}{ts:TS}{W:ah}(hlen:ts.length=49)(t0:slot ts 0=.str s)(h9:s.length<=9)(he:Ext h W)(hh:cE s=s.all cO):
  WC P bL ((fn192).body.dr 2) [] ts W (FQ (fn192).rs λv h'=>Ext h h'/\v=.dz [.int .i64 (dM s),.bool (cE s)]):=by
 unfold fn192 gA;simp only[ai.j,ai.s,ai.r,ai.dr,ai.tl];refine Rs t0 ?_;refine WL.inv T.mix (λn ts' h'=>∃k:Nat,k<=s.length/\n=s.length-k/\h' =W/\(s.take k).all cO=true/\ts'.length=49/\slot ts' 0=.str s/\slot ts' 4=.int .i64 (js (s.take k))/\slot ts' 5=.int .i64 k) s.length
  ⟨0,Om,rfl,rfl,rfl,(Sq t0),(Sq t0),gf,gf⟩ ?_
 rintro _ ts' _ ⟨k,hk,rfl,rfl,hd,S3,u0,u4,u5⟩;clear hlen t0;have hlen:=S3;by_cases hlt:k<s.length
 ·have e3:=eF hlt;have hb:=Qw h9 hk hd;have bad:cO s[k]=false->AV.dz [.int .i64 0,.bool false]=AV.dz [.int .i64 (dM s),.bool (cE s)]:=λhx=>by
   have hf:cE s=false:=by rw[hh,List.all_eq_false];exact⟨s[k],ZZ hlt,by simp[hx]⟩
   rw[dM,hf];rfl
  by_cases a5:(s[k].toNat:Int)<48
  ·have d1:decide ((s[k].toNat:Int)<48)=true:=ZR a5
   repeat (first|simp (config:={maxSteps:=1000000}) only[aQ,aR,aX,aY,reduceAdd,reduceMul,reduceLeDiff,reduceEqDiff,bd,hlen,Z3,Z7,u0,u4,u5,e3,cM hlt,d1]|simp (config:={maxSteps:=1000000}) (disch:=first|(simp only[ZL,ZP,ZT]<;>omega)|rfl|omega|fail) only[eD,aQ,aR,aX,aY,reduceAdd,reduceMul,reduceLeDiff,reduceEqDiff,bd,hlen,Z3,Z7,u0,u4,u5,e3,cM hlt,d1])
   exact KQ
  have d1:decide ((s[k].toNat:Int)<48)=false:=ZN a5;by_cases a6:(57:Int)<(s[k].toNat:Int)
  ·have d2:decide ((57:Int)<(s[k].toNat:Int))=true:=ZR a6
   repeat (first|simp (config:={maxSteps:=1000000}) only[aQ,aR,aX,aY,reduceAdd,reduceMul,reduceLeDiff,reduceEqDiff,bd,hlen,Z3,Z7,u0,u4,u5,e3,cM hlt,d1,d2]|simp (config:={maxSteps:=1000000}) (disch:=first|(simp only[ZL,ZP,ZT]<;>omega)|rfl|omega|fail) only[eD,aQ,aR,aX,aY,reduceAdd,reduceMul,reduceLeDiff,reduceEqDiff,bd,hlen,Z3,Z7,u0,u4,u5,e3,cM hlt,d1,d2])
   exact KQ
  have d2:decide ((57:Int)<(s[k].toNat:Int))=false:=ZN a6;have w1:IntKind.i64.wrap (10*js (s.take k))=10*js (s.take k):=aZ Om Om;have w2:IntKind.u8.wrap ((s[k].toNat:Int)-48)=(s[k].toNat:Int)-48:=BN Om Om;have w3:IntKind.i64.wrap ((s[k].toNat:Int)-48)=(s[k].toNat:Int)-48:=aZ Om Om;have w4:IntKind.i64.wrap (10*js (s.take k)+((s[k].toNat:Int)-48))=js (s.take (k+1)):=by
   rw[cY hlt,xK];exact aZ Om Om
  repeat (first|simp (config:={maxSteps:=1000000}) only[aQ,aR,aX,aY,reduceAdd,reduceMul,reduceLeDiff,reduceEqDiff,bd,hlen,Z3,Z7,u0,u4,u5,e3,d1,d2,cM hlt,w1,w2,w3,w4,wrapN (show k+1<2^63 by omega)]|simp (config:={maxSteps:=1000000}) (disch:=first|(simp only[ZL,ZP,ZT]<;>omega)|rfl|omega|fail) only[eD,aQ,aR,aX,aY,reduceAdd,reduceMul,reduceLeDiff,reduceEqDiff,bd,hlen,Z3,Z7,u0,u4,u5,e3,d1,d2,cM hlt,w1,w2,w3,w4,wrapN (show k+1<2^63 by omega)])
  refine⟨s.length-(k+1),Om,k+1,Om,rfl,?_,rfl,rfl⟩;rw[cY hlt,abS,hd];simp[eG.2 (show 48<=s[k].toNat/\s[k].toNat<=57 by omega)]
 ·have e3:=fq hlt;have ek:k=s.length:=Om
  rw[ek,aaj]at hd u4;refine Rs (A4 @u0 @u4 @u5 e3) ?_;rw[dM,hh,hd];exact⟨he,rfl⟩
set_option maxRecDepth 10000 in
def r192(s:By):ay P 192 [.str s] h (λv _=>v=.dz [.int .i64 (dM s),.bool (cE s)]):=by
 refine .of T.mix T.c192 ?_;obtain⟨ts,Sv⟩:∃ts,ts=aU 49 [.str s]:=⟨_,rfl⟩;have hlen:ts.length=49:=by rw[Sv];rfl
 have t0:slot ts 0=.str s:=by rw[Sv];rfl
 obtain⟨R,hR⟩:∃R,R=(fn192).body.dr 2:=⟨_,rfl⟩;have hbody:(fn192).body=.seq (fn192).body.hd (.seq ((fn192).body.dr 1).hd R):=by rw[hR];rfl
 obtain⟨rs,hrs⟩:∃rs,rs=(fn192).rs:=⟨_,rfl⟩;show WC P bL (fn192).body [] (aU 49 [.str s]) h (FQ (fn192).rs _);rw[<-Sv,hbody,<-hrs];clear Sv;unfold fn192 gA;simp only[ai.j,ai.s,ai.r,ai.dr,ai.tl,ai.hd];have bad:cE s=false->AV.dz [.int .i64 0,.bool false]=AV.dz [.int .i64 (dM s),.bool (cE s)]:=λhb=>by rw[dM,hb];rfl
 have Zg:rs=[(2,none),(3,none)]:=hrs;have fin:∀{ts':TS}{k:ah},ts'.length=49->slot ts' 0=.str s->s.length<=9->cE s=s.all cO->Ext h k->WC P bL R [] ts' k (FQ rs λv h'=>Ext h h'/\v=.dz [.int .i64 (dM s),.bool (cE s)]):=by
  intro ts' k hl u0 h9 hh e;rw[hR,hrs];exact MO T hl u0 h9 e hh
 by_cases h0:s.length=0
 ·have d0:decide ((s.length:Int)=0)=true:=ZR Om;rw[Zg];refine Rs (A2 t0 @d0) ?_;exact bad (by simp[cE,h0])
 have d0:decide ((s.length:Int)=0)=false:=ZN Om;by_cases h9:9<s.length
 ·have d9:decide ((9:Int)<s.length)=true:=ZR Om;rw[Zg];refine Rs (A3 t0 @d0 @d9) ?_;exact bad (by simp[cE];intro _ _;omega)
 have d9:decide ((9:Int)<s.length)=false:=ZN Om;obtain⟨c,r,rfl⟩:∃c r,s=c::r:=by cases s with|nil=>simp at h0|cons c r=>exact⟨c,r,rfl⟩
 have hcn:=UInt8.toNat_lt c;have Xv:(c::r).length=r.length+1:=rfl;by_cases h1:0<r.length
 ·have d1:decide ((1:Int)<((c::r).length:Int))=true:=ZR Om;by_cases h2:c=48
  ·have d2:decide ((c.toNat:Int)=48)=true:=by rw[h2];rfl
   rw[Zg];refine Rs (A6 t0 @d0 @d9 @d1 @rV @d2) ?_;have q1:decide (1<(c::r).length)=true:=ZR Om;have q2:decide ((c::r).head? =some 48)=true:=by rw[h2];rfl
   exact bad (by simp only[cE,q1,q2,Bool.and_true,aad,Bool.and_false,Bool.false_and])
  ·have d2:decide ((c.toNat:Int)=48)=false:=ZN λe=>h2 (abG.1 (by simpa using (by omega:c.toNat=48)))
   refine Rs (A6 t0 @d0 @d9 @d1 @rV @d2) ?_;exact fin (Sq t0) (Sq t0) Om (by simp[cE,h2];intro _;omega) Xx
 ·have d1:decide ((1:Int)<((c::r).length:Int))=false:=ZN Om;refine Rs (A4 t0 @d0 @d9 @d1) ?_;exact fin (Sq t0) (Sq t0) Om (by simp[cE,h1];intro _;omega) Xx
end
def zd{ws}:(bI ws true).2.2=true:=by
 cases ws with
 |nil=>rfl
 |cons w r=>rw[bI];split<;>rfl
theorem rk:∀{n ws},(cA n ws true).2.2=true
 | 0,_=>rfl
 |n+1,ws=>by rw[cA,zd];exact rk
theorem oh:∀{n ws},(dC n ws true).2.2=true
 | 0,_=>rfl
 |n+1,ws=>by rw[dC,zd,aci];exact oh
theorem rl:∀{n ws},n<=ws.length->(∀x∈ws.take n,x≠[])->cA n ws false=(ws.take n,ws.drop n,false)
 | 0,_,_,_=>rfl
 |n+1,[],h,_=>by simp at h
 |n+1,w::r,h,hx=>by
  have hw:w≠[]:=hx w Si;have e:bI (w::r) false=(w,r,false):=by rw[bI,ZW hw]
  rw[cA,e,rl (by simpa using h) (λx hm=>hx x (by simp[hm]))];rfl
theorem tu:∀{n ws},(ws.length<n\/[]∈ws.take n)->(cA n ws false).2.2=true
 | 0,ws,h=>by simp at h
 |n+1,[],_=>by rw[cA];exact rk
 |n+1,w::r,h=>by
  rw[cA];by_cases hw:w=[]
  ·rw[show bI (w::r) false=([],[],true)from ZY hw];exact rk
  ·rw[show bI (w::r) false=(w,r,false)from ZW hw];refine tu (n:=n) (ws:=r) ?_;simp only[ZP,abq,aap]at h;rcases h with h|h|h
   ·exact .inl Om
   ·exact absurd h.symm hw
   ·exact .inr h
def Jq{x}(h:cE x=true):x≠[]:=λe=>by rw[e]at h;cases h
theorem uK:∀{n ws},n<=ws.length->(∀x∈ws.take n,cE x=true)->dC n ws false=((ws.take n).map dM,ws.drop n,false)
 | 0,_,_,_=>rfl
 |n+1,[],h,_=>by simp at h
 |n+1,w::r,h,hx=>by
  have hd:=hx w Si;have e:bI (w::r) false=(w,r,false):=by rw[bI,ZW (Jq hd)]
  rw[dC,e];show(dM w:: (dC n r (false || !cE w)).1,(dC n r (false || !cE w)).2)=_;rw[hd,show(false || !true)=false from rfl,uK (by simpa using h) (λx hm=>hx x (by simp[hm]))];rfl
theorem wC:∀{n ws},(ws.length<n\/∃x∈ws.take n,cE x=false)->(dC n ws false).2.2=true
 | 0,ws,h=>by simp at h
 |n+1,[],_=>by rw[dC];exact oh
 |n+1,w::r,h=>by
  rw[dC];by_cases hw:w=[]
  ·rw[show bI (w::r) false=([],[],true)from ZY hw];exact oh
  ·rw[show bI (w::r) false=(w,r,false)from ZW hw];cases hd:cE w with
   |false=>
    exact oh
   |true=>
    refine wC (n:=n) (ws:=r) ?_;simp only[ZP,abq,aap]at h;rcases h with h|⟨x,hx|hx,hf⟩
    ·exact .inl Om
    ·rw[hx,hd]at hf;cases hf
    ·exact .inr ⟨x,hx,hf⟩
def MI{w d}(h:ff w=some d):w≠[]:=λe=>by rw[e]at h;cases h
def wq{w rest d}(hd:ff w=some d):cp (w::rest)=(⟨0,bw d,(cA (aM d).length rest false).1,(dC (bK d) (cA (aM d).length rest false).2.1 (cA (aM d).length rest false).2.2).1,[]⟩,
  !(dC (bK d) (cA (aM d).length rest false).2.1 (cA (aM d).length rest false).2.2).2.2&&decide ((dC (bK d) (cA (aM d).length rest false).2.1 (cA (aM d).length rest false).2.2).2.1.length=0)):=by
 unfold cp;rw[show bI (w::rest) false=(w,rest,false)from ZW (MI hd),hd]
def uH{w rest d}(hd:ff w=some d)(hl:rest.length=(aM d).length+bK d)(hn:∀x∈rest,x≠[])(hv:∀x∈rest.drop (aM d).length,cE x=true):
  cp (w::rest)=(⟨0,bw d,rest.take (aM d).length,(rest.drop (aM d).length).map dM,[]⟩,true):=by
 have el:(rest.drop (aM d).length).length=bK d:=by rw[aa7];omega
 rw[wq hd,rl Om (λx hx=>hn x (aaP hx))];have e:(rest.drop (aM d).length).take (bK d)=rest.drop (aM d).length:=aau Om;have e2:(rest.drop (aM d).length).drop (bK d)=[]:=abI Om;have hN:dC (bK d) (rest.drop (aM d).length) false=((rest.drop (aM d).length).map dM,[],false):=by
  rw[uK (Nat.le_of_eq el.symm) (by rw[e];exact hv),e,e2]
 simp only[hN];rfl
def kO{w rest d}(hd:ff w=some d)(hb:rest.length≠(aM d).length+bK d\/[]∈rest\/∃x∈rest.drop (aM d).length,cE x=false):(cp (w::rest)).2=false:=by
 rw[wq hd];show(!(dC _ _ _).2.2&&_)=false;by_cases h1:rest.length<(aM d).length\/[]∈rest.take (aM d).length
 ·rw[tu h1,oh];rfl
 have h1a:(aM d).length<=rest.length:=Om
 have h1b:[]∉rest.take (aM d).length:=λz=>h1 (.inr z)
 rw[rl h1a (λx hx e=>h1b (e▸hx))];show(!(dC (bK d) (rest.drop _) false).2.2&&_)=false;have el:(rest.drop (aM d).length).length=rest.length-(aM d).length:=aa7;by_cases h2:(rest.drop (aM d).length).length<bK d\/∃x∈(rest.drop (aM d).length).take (bK d),cE x=false
 ·rw[wC h2];rfl
 have h2a:bK d<=(rest.drop (aM d).length).length:=Om
 have h2b:∀x∈(rest.drop (aM d).length).take (bK d),cE x=true:=λx hx=>by
  cases hz:cE x with
  |true=>rfl
  |false=>exact absurd (.inr ⟨x,hx,hz⟩) h2
 rw[uK h2a h2b];show(!false&&decide (((rest.drop (aM d).length).drop (bK d)).length=0))=false;rw[aa7,el];have hne:rest.length≠(aM d).length+bK d:=λhe=>by
  have e:(rest.drop (aM d).length).take (bK d)=rest.drop (aM d).length:=aau Om;rw[e]at h2b;rcases hb with hb|hb|⟨x,hx,hf⟩
  ·exact hb he
  ·rw[<-aaL (aM d).length rest]at hb;rcases ZX.1 hb with hb|hb
   ·exact h1b hb
   ·have:=h2b _ hb;cases this
  ·rw[h2b x hx]at hf;cases hf
 rw[ZN Om];rfl
def tK{w rest}(hd:ff w=none):(cp (w::rest)).2=false:=by
 unfold cp;have:ff (bI (w::rest) false).1=none:=by
  rw[bI];split
  ·rfl
  ·exact hd
 rw[this]
def tO(ws:List (By)):fi:=if(cp ws).2 then(cp ws).1 else fg
structure D7(A:ah)(kd:By)(sn sv:AV)(ns:List (By))(vs:List Int)(G:ah):Prop where
 m:(A++G)[A.length]? =some (xH kd sn sv)
 n:Fr A.length (A++G) sn 1 (ns.map ak)
 v:Fr A.length (A++G) sv 1 (vs.map aJ)
 dn:∀i,sB sn=some i->A.length<i
 dv:∀i,sB sv=some i->A.length<i
 dd:∀i,sB sn=some i->sB sv≠some i
section
variable {A G:ah}{kd:By}{sn sv:AV}{ns:List (By)}{vs:List Int}
theorem D7.app(o:D7 A kd sn sv ns vs G)(g:ah):D7 A kd sn sv ns vs (G++g):=by
 have e:A++(G++g)=A++G++g:=(ZO _ _ _).symm;exact⟨by rw[e];exact(Ext.app g (Ext.refl _)).some o.m,by rw[e];exact o.n.app g,by rw[e];exact o.v.app g,o.dn,o.dv,o.dd⟩
def yl{X}{g:ah}:(A++g).set A.length X=A++g.set 0 X:=by
 rw[aaE _ _ (Z0 _),aaR]
def D7.Im(o:D7 A kd sn sv ns vs G){U0 ns' g}(hF:Fr A.length (A++g) U0 1 (ns'.map ak))(hlo:∀i,sB U0=some i->(A++G).length<i)
  (hle:(A++G).length<=(A++g).length) (hk:∀i,i<(A++G).length->sB sn≠some i->(A++g)[i]? =(A++G)[i]?):D7 A kd U0 sv ns' vs (g.set 0 (xH kd U0 sv)):=by
 have l7:=(ZM.1 o.m).1;have ne:∀i,i≠A.length->((A++g).set A.length (xH kd U0 sv))[i]? =(A++g)[i]? :=λi hi=>Z4 (λe=>hi e.symm)
 refine⟨?_,?_,?_,λi hi=>?_,o.dv,λi hi e=>?_⟩
 ·rw[<-yl,Z8 Om]
 ·exact KH
 ·rw[<-yl];exact o.v.aB λj hj=>by rw[ne j (by have:=o.dv j hj;omega),hk j (o.v.bB hj).2 (λe=>o.dd j e hj)]
 ·have:=hlo i hi;omega
 ·have h1:=hlo i hi;have h2:=(o.v.bB e).2;omega
def D7.Il(o:D7 A kd sn sv ns vs G){UZ vs' g}(hF:Fr A.length (A++g) UZ 1 (vs'.map aJ))(hlo:∀i,sB UZ=some i->(A++G).length<i)
  (hle:(A++G).length<=(A++g).length) (hk:∀i,i<(A++G).length->sB sv≠some i->(A++g)[i]? =(A++G)[i]?):D7 A kd sn UZ ns vs' (g.set 0 (xH kd sn UZ)):=by
 have l7:=(ZM.1 o.m).1;have ne:∀i,i≠A.length->((A++g).set A.length (xH kd sn UZ))[i]? =(A++g)[i]? :=λi hi=>Z4 (λe=>hi e.symm)
 refine⟨?_,?_,?_,o.dn,λi hi=>?_,λi hi e=>?_⟩
 ·rw[<-yl,Z8 Om]
 ·rw[<-yl];exact o.n.aB λj hj=>by rw[ne j (by have:=o.dn j hj;omega),hk j (o.n.bB hj).2 (λe=>o.dd j hj e)]
 ·exact KH
 ·have:=hlo i hi;omega
 ·have h1:=hlo i e;have h2:=(o.n.bB hi).2;omega
end
def vK{α:Type}{l:List α}{r k:Nat}(h:k<=r):(l.take k).take r=l.take k:=aau (by rw[aaw];omega)
attribute [local irreducible] WQ
section
variable {P:Program}(T:fD P) {h:ah}
include T
def r107(s:By)(hsl:s.length<=2^40):ay P 107 [.str s] h (λv k=>∃x:EV,x.ev=tO (aF 32 s)/\v=.dz [.agg x.row,.bool (cp (aF 32 s)).2]/\Fr h.length k x.sn 1 (x.ev.names.map ak)/\Fr h.length k x.sv 1 (x.ev.bQ.map aJ)):=by
 refine .jd 81 T.mix T.c107 ?_;intro ts hlen t0;unfold fn107 gA;refine Rs t0 ?_;refine WF.res T.c105 (r105 T s 32 hsl) ?_;intro v g1 hv;obtain⟨w,rest,hws⟩:∃w rest,aF 32 s=w::rest:=by
  exact Ob
 have hlB:(aF 32 s).length<=s.length+1:=by rw[jS];have:=abO (a:=(32:UInt8)) (l:=s);omega
 have hxl:∀x∈aF 32 s,x.length<=2^40:=λx hx=>by have:=kM x hx;omega
 rw[hws]at hv hlB hxl ⊢;have SU:=hv.aO;have ix:=SU.lP (kk:=.i64) Si;have ld:∀{k:ah},Ext (h++[an.cells gJ true false]++g1) k->aq none (cF v 1 0) (λb=>k[b]?)=some (.str w,.ar):=λ{k} e=>SU.gR (i:=0) Si rfl e
 unfold gJ at ld;have s2:=@zx h;have l2:=@zA h;have sq:=@zy h;have bad:∀{k:ah},(cp (w::rest)).2=false->Ext h k->(Ext h k/\∃x:EV,x.ev=tO (w::rest)/\AV.dz [.agg [.int .i64 0,.str [],.af,.af,.str []],.bool false]=.dz [.agg x.row,.bool (cp (w::rest)).2]/\Fr h.length k x.sn 1 (x.ev.names.map ak)/\Fr h.length k x.sv 1 (x.ev.bQ.map aJ)):=
  λhe e=>⟨e,⟨fg,.af,.af⟩,by rw[tO,he];rfl,by rw[he];rfl,.nil,.nil⟩
 refine Rs (A3 t0 ix @ld) ?_;refine WF.ce T.c101 (r101 T w) λg2=>?_
 unfold ue;cases hd:ff w with
 |none=>
  refine Rs (A5 t0 @aai @s2 @l2 @sq) ?_;exact(bad (tK hd) Xx).2
 |some d=>
 have h3:(aM d).length<=3/\bK d<=3:=by cases d<;>decide
 have Tz:(tG d).length=(aM d).length:=by rw[tG,ZU]
 have w1:IntKind.i64.wrap (1+((aM d).length:Int))=1+((aM d).length:Int):=aZ Om Om;have w2:IntKind.i64.wrap (1+((aM d).length:Int)+(bK d:Int))=1+((aM d).length:Int)+(bK d:Int):=aZ Om Om;by_cases hl:rest.length=(aM d).length+bK d
 case neg=>
  have d1:decide (((w::rest).length:Int)≠1+((aM d).length:Int)+(bK d:Int))=true:=ZR (by rw[ZP];omega);refine Rs (kJ t0 @aad @Tz @w1 @w2 SU.aL @d1 @s2 @l2 @sq) ?_;exact(bad (kO hd (.inl hl)) Xx).2
 have w2:IntKind.i64.wrap (1+((aM d).length:Int)+(bK d:Int))=((rest.length+1:Nat):Int):=by rw[aZ Om Om];omega
 have d1:decide (((w::rest).length:Int)≠((rest.length+1:Nat):Int))=false:=ZN λz=>z (by rw[ZP])
 refine Rs (A9 t0 @aad @Tz @w1 @w2 SU.aL @d1 ix @ld) ?_;obtain⟨A,hA⟩:∃A,A=h++[an.cells [.int .i64 0,.str [],.af,.af,.str []] true false]++g1++g2++[an.cells [AV.str (tG d),.int .i64 (bK d:Int),.bool true] true false]:=⟨_,rfl⟩;obtain⟨fb,Ys⟩:∃fb,fb=(h++[an.cells [.int .i64 0,.str [],.af,.af,.str []] true false]++g1++g2).length:=⟨_,rfl⟩;have eA:Ext (h++[an.cells [.int .i64 0,.str [],.af,.af,.str []] true false]) A:=by rw[hA];exact Xx
 have eA1:Ext (h++[an.cells [.int .i64 0,.str [],.af,.af,.str []] true false]++g1) A:=by rw[hA];exact Xx
 have eh:Ext h A:=by rw[hA];exact Xx
 have mf:A[fb]? =some (.cells [AV.str (tG d),.int .i64 (bK d:Int),.bool true] true false):=by rw[hA,Ys];exact ba
 have hAh:h.length<A.length:=by rw[hA];simp only[ZL,Z6];omega
 rw[<-hA,<-Ys];clear hA Ys ld ix;have lf:∀{kk n a},Ext A kk->aq n (.ptr fb a) (λz=>kk[z]?)=dK n a (.cells [AV.str (tG d),.int .i64 (bK d:Int),.bool true] true false):=λ{_ _ _} e=>az (e.some mf)
 have s2A:=λ{k:ah}(e:Ext A k)=>@s2 k (eA.trans e)
 have l2A:=λ{k:ah}(e:Ext A k)=>@l2 k (eA.trans e)
 have sqA:=λ{k:ah}(e:Ext A k)=>@sq k (eA.trans e)
 clear s2 l2 sq;obtain⟨r,hr⟩:∃r,r=(aM d).length:=⟨_,rfl⟩;rw[<-hr]at hl Tz h3;refine WL.inv T.mix (λm ts h'=>∃(k:Nat) (sn sv:AV) (G:ah),k<=rest.length/\m=rest.length-k/\h' =A++G/\D7 A w sn sv ((rest.take k).take r) (((rest.take k).drop r).map dM) G/\(∀x∈rest.take k,x≠[])/\(∀x∈(rest.take k).drop r,cE x=true)/\
   ts.length=81/\slot ts 2=.ptr h.length 0/\slot ts 4=v/\slot ts 5=.ptr fb 0/\slot ts 6=.int .i64 ((rest.length+1:Nat):Int)/\slot ts 7=.ptr A.length 0/\slot ts 8=.int .i64 ((k+1:Nat):Int)) rest.length
  ⟨0,.af,.af,[xH w .af .af],Om,rfl,rfl,⟨ba,by simp only[abD,List.take_nil,abd];exact .nil,by simp only[abD,List.drop_nil,abd];exact .nil,λi hi=>(by cases hi),λi hi=>(by cases hi),λi hi=>(by cases hi)⟩,(λx hx=>by simp at hx),(λx hx=>by simp at hx),(Sq t0),(Sq t0),(Sq t0),(Sq t0),(Sq t0),(Sq t0),gf⟩ ?_
 clear hlen t0;rintro _ ts _ ⟨k,sn,sv,G,hk,rfl,rfl,o,hne,Vi,hlen,t2,t4,t5,t6,t7,t8⟩;by_cases hlt:k<rest.length
 ·have e3:decide (((k+1:Nat):Int)<((rest.length+1:Nat):Int))=true:=ZR Om;have hi:k+1<(w::rest).length:=by rw[ZP];omega
  have ix:=SU.dA (kk:=.i64) hi;have ld:∀{kk:ah},Ext A kk->aq none (cF v 1 (k+1)) (λb=>kk[b]?)=some (.str rest[k],.ar):=λ{kk} e=>SU.gR hi rfl (eA1.trans e)
  have hxy:rest[k]∈rest:=ZZ _;have SC:rest.take (k+1)=rest.take k++[rest[k]]:=cY hlt;have hdk:r<=k->rest[k]∈rest.drop r:=λhrk=>by
   have:rest[k]=(rest.drop r)[k-r]'(by rw[aa7];omega):=by rw[List.getElem_drop];congr 1;omega
   rw[this];exact ZZ _
  generalize rest[k]=y at ld hxy SC hdk;have eX:Ext h (A++G):=eh.trans ⟨_,rfl⟩;by_cases hy:y=[]
  ·have dy:decide (y=[])=true:=ZR hy;refine Rs (D5 t2 t4 t5 t6 t7 t8 e3 ix @ld @dy @s2A @l2A @sqA) ?_;exact bad (kO hd (.inr (.inl (hy▸hxy)))) eX
  have dy:decide (y=[])=false:=ZN hy;have l7:∀{kk:ah}{n:Option Nat}{a:Nat},Ext (A++G) kk->aq n (.ptr A.length a) (λz=>kk[z]?)=dK n a (.cells [.int .i64 0,.str w,sn,sv,.str []] true false):=λe=>az (e.some o.m)
  have hne':∀x∈rest.take (k+1),x≠[]:=λx hx=>by
   rw[SC]at hx;rcases ZX.1 hx with hx|hx
   ·exact hne x hx
   ·rw[Z9.1 hx];exact hy
  by_cases hkr:k<r
  ·have d3:decide (((k+1:Nat):Int)<=(r:Int))=true:=ZR Om;refine Rs (za t2 t4 t5 t6 t7 t8 e3 ix @ld @dy @lf @Tz @d3 @l7) ?_;refine WR.ml (B:=A) (cs:=((rest.take k).take r).map ak) (z:=ak y) o.n rfl ⟨_,rfl⟩ De (by simp;omega) ?_;rintro _ s' ⟨g3,rfl⟩ hF hlo hone hle hkp;have er:((rest.take k).take r).map ak++[ak y]=((rest.take (k+1)).take r).map ak:=by
    rw[vK (show k<=r by omega),vK (show k+1<=r by omega),SC,ZV];rfl
   rw[er]at hF;have q7:=(ZM.1 o.m).1;have m7':(A++g3)[A.length]? =some (.cells [.int .i64 0,.str w,sn,sv,.str []] true false):=by
    rw[hkp _ q7 (λe=>by have:=o.dn _ e;omega)];exact o.m
   have s7:a8 1 (.ptr A.length 2) s' (λz=>(A++g3)[z]?)=some (aA,.set A.length (.cells [.int .i64 0,.str w,s',sv,.str []] true false)):=by
    exact z124
   have o3:=o.Im hF hlo hle hkp;have ev:(rest.take (k+1)).drop r=(rest.take k).drop r:=by
    rw[abI (by rw[aaw];omega),abI (by rw[aaw];omega)]
   rw[<-ev]at o3 Vi;refine Rs (A8 t2 t4 t5 t6 t7 t8 @s7 (wrapN (show k+1+1<2^63 by omega))) ?_;exact⟨rest.length-(k+1),Om,k+1,s',sv,_,Om,rfl,yl,o3,hne',Vi,rfl⟩
  ·have d3:decide (((k+1:Nat):Int)<=(r:Int))=false:=ZN Om;refine Rs (D5 t2 t4 t5 t6 t7 t8 e3 ix @ld @dy @lf @Tz @d3) ?_;refine WF.ce T.c192 (r192 T y) λg3=>?_
   rw[ZO A G g3];have o2:=o.app g3;cases hdy:cE y with
   |false=>
    refine Rs (kJ t2 t4 t5 t6 t7 t8 @aai @s2A @l2A @sqA) ?_;refine bad (kO hd (.inr (.inr ⟨y,?_,hdy⟩))) (eh.trans ⟨_,rfl⟩);rw[<-hr];exact hdk Om
   |true=>
   have l7:∀{kk:ah}{n:Option Nat}{a:Nat},Ext (A++(G++g3)) kk->aq n (.ptr A.length a) (λz=>kk[z]?)=dK n a (.cells [.int .i64 0,.str w,sn,sv,.str []] true false):=λe=>az (e.some o2.m)
   refine Rs (A8 t2 t4 t5 t6 t7 t8 @aad @l7) ?_;refine WR.ml (B:=A) (cs:=(((rest.take k).drop r).map dM).map aJ) (z:=aJ (dM y)) o2.v rfl ⟨_,rfl⟩ De (by simp;omega) ?_;rintro _ s' ⟨g4,rfl⟩ hF hlo hone hle hkp;have edr:(rest.take (k+1)).drop r=(rest.take k).drop r++[y]:=by
    rw[SC,List.drop_append_of_le_length (by rw[aaw];omega)]
   have er:(((rest.take k).drop r).map dM).map aJ++[aJ (dM y)]=(((rest.take (k+1)).drop r).map dM).map aJ:=by
    rw[edr,ZV,ZV];rfl
   rw[er]at hF;have q7:=(ZM.1 o2.m).1;have m7':(A++g4)[A.length]? =some (.cells [.int .i64 0,.str w,sn,sv,.str []] true false):=by
    rw[hkp _ q7 (λe=>by have:=o2.dv _ e;omega)];exact o2.m
   have s7:a8 1 (.ptr A.length 3) s' (λz=>(A++g4)[z]?)=some (aA,.set A.length (.cells [.int .i64 0,.str w,sn,s',.str []] true false)):=by
    exact z124
   have o3:=o2.Il hF hlo hle hkp;have en:(rest.take (k+1)).take r=(rest.take k).take r:=by
    rw[SC,List.take_append_of_le_length (by rw[aaw];omega)]
   rw[<-en]at o3;have hdg':∀x∈(rest.take (k+1)).drop r,cE x=true:=λx hx=>by
    rw[edr]at hx;rcases ZX.1 hx with hx|hx
    ·exact Vi x hx
    ·rw[Z9.1 hx];exact hdy
   refine Rs (A8 t2 t4 t5 t6 t7 t8 @s7 (wrapN (show k+1+1<2^63 by omega))) ?_;exact⟨rest.length-(k+1),Om,k+1,sn,s',_,Om,rfl,yl,o3,hne',hdg',rfl⟩
 ·have e3:decide (((k+1:Nat):Int)<((rest.length+1:Nat):Int))=false:=ZN Om;have ek:k=rest.length:=Om
  subst ek;rw[aaj]at o hne Vi;have TH:=uH hd (by rw[<-hr];exact hl) hne (by rw[<-hr];exact Vi);rw[<-hr]at TH;obtain⟨x,hx⟩:∃x:EV,x=⟨⟨0,w,rest.take r,(rest.drop r).map dM,[]⟩,sn,sv⟩:=⟨_,rfl⟩;have SE:bw d=w:=(bZ hd).symm;have hrow:x.row=[.int .i64 0,.str w,sn,sv,.str []]:=by rw[hx];rfl
  have ln:=o.n;have lv:=o.v;have lm:=o.m;have eR:Ext (h++[an.cells [.int .i64 0,.str [],.af,.af,.str []] true false]) (A++G):=eA.trans ⟨_,rfl⟩;generalize A++G=Y at ln lv lm eR ⊢;have ox:bj Y x:=by rw[hx];exact⟨ln.aO,lv.aO⟩
  have l7:aq (some 5) (.ptr A.length 0) (λz=>Y[z]?)=some (.agg x.row,.ar):=by rw[az lm,hrow];rfl
  have sx:=zw ox eR;have ly:=@zv h Y x eR;refine Rs (kJ t2 t4 t5 t6 t7 t8 e3 @l7 @sx @ly) ?_;have bP:Ext h (Y.set h.length (.cells x.row true false)):=by
   obtain⟨Z,hZ⟩:=eR;exact KV
  refine⟨bP,x,by rw[tO,TH,hx,SE];rfl,by rw[TH],?_,?_⟩
  ·rw[hx];exact(ln.aB λj hj=>Z4 (by have:=o.dn j hj;omega)).low Om
  ·rw[hx];exact(lv.aB λj hj=>Z4 (by have:=o.dv j hj;omega)).low Om
end
theorem tB{c}:∀{s:By},aF c s=(cK c s).1:: (if(cK c s).2.2=true then aF c (cK c s).2.1 else [])
 |[]=>rfl
 |x::r=>by
  have ih:=tB (c:=c) (s:=r);rw[aF,cK];by_cases h:x=c
  ·rw[ZY h,ZY h];rfl
  ·rw[ZW h,ZW h,ih]
theorem yT{c}:∀{s:By},(cK c s).2.2=false->(cK c s).2.1=[]
 |[],_=>rfl
 |x::r,h=>by
  rw[cK]at h ⊢;split at h
  ·cases h
  ·rename_i hc;rw[ZW hc];exact yT (s:=r) h
theorem oX{c}:∀{s:By},(cK c s).2.2=true->(cK c s).1.length+1<=s.length/\s.drop ((cK c s).1.length+1)=(cK c s).2.1
 |[],h=>by cases h
 |x::r,h=>by
  rw[cK]at h ⊢;split at h
  ·rename_i hc;rw[ZY hc];exact⟨Si,rfl⟩
  ·rename_i hc;rw[ZW hc];have:=oX (s:=r) h;exact⟨by simp only[ZP];omega,this.2⟩
def wo{ws}(h:(cp ws).2=true):∃w rest d,ws=w::rest/\ff w=some d/\rest.length=(aM d).length+bK d/\(∀x∈rest,x≠[])/\(∀x∈rest.drop (aM d).length,cE x=true):=by
 cases ws with
 |nil=>cases h
 |cons w rest=>
  cases hd:ff w with
  |none=>rw[tK hd]at h;cases h
  |some d=>
   refine⟨w,rest,d,rfl,hd,?_,?_,?_⟩
   ·exact Decidable.byContradiction λz=>by rw[kO hd (.inl z)]at h;cases h
   ·intro x hx e;rw[kO hd (.inr (.inl (e▸hx)))]at h;cases h
   ·intro x hx;cases hz:cE x with
    |true=>rfl
    |false=>rw[kO hd (.inr (.inr ⟨x,hx,hz⟩))]at h;cases h
def yD{ws}(h:(cp ws).2=true):∀x∈(cp ws).1.names,x∈ws:=by
 obtain⟨w,rest,d,rfl,hd,hl,hn,hv⟩:=wo h;rw[uH hd hl hn hv];intro x hx;exact aao _ (aaP hx)
def ga(s:By):fi×Int:=
 if s.length<8 then(fg,25)else
 if s.getD (s.length-8) 0≠35\/¬lB (s.drop (s.length-7))=true then(fg,25)else
 if jo (s.take (s.length-8))≠s.drop (s.length-7)then(fg,27)else
 let h:=cK 32 (s.take (s.length-8))
 let e:=cp (aF 32 h.2.1)
 if !cE h.1 || !e.2||decide (dB {e.1 with num:=dM h.1}≠0)then(fg,25)else
 ({e.1 with num:=dM h.1},0)
def CJ{C:Bool}{E:fi}{n:Int}:(if C=true then(fg,(25:Int))else(E,bW (decide (E.num≠n)) 11))=((if C=true then(fg,(25:Int))else(E,0)).1,if(if C=true then(fg,(25:Int))else(E,0)).2=0 then bW (decide ((if C=true then(fg,(25:Int))else(E,0)).1.num≠n)) 11 else(if C=true then(fg,(25:Int))else(E,0)).2):=by cases C<;>rfl
def Ba{s n}:cZ s n=((ga s).1,if(ga s).2=0 then bW (decide ((ga s).1.num≠n)) 11 else(ga s).2):=by
 unfold cZ ga;by_cases h1:s.length<8
 ·rw[ZY h1,ZY h1];rfl
 rw[ZW h1,ZW h1];by_cases h2:s.getD (s.length-8) 0≠35\/¬lB (s.drop (s.length-7))=true
 ·rw[ZY h2,ZY h2];rfl
 rw[ZW h2,ZW h2];by_cases h3:jo (s.take (s.length-8))≠s.drop (s.length-7)
 ·rw[ZY h3,ZY h3];rfl
 rw[ZW h3,ZW h3];exact CJ
section
variable {P:Program}(T:fD P) {h:ah}
include T
def r100(s:By)(hsl:s.length<=2^38):ay P 100 [.str s] h (λv k=>∃x:EV,x.ev=(ga s).1/\v=.dz [.agg x.row,.int .i64 (ga s).2]/\Fr h.length k x.sn 1 (x.ev.names.map ak)/\Fr h.length k x.sv 1 (x.ev.bQ.map aJ)):=by
 refine .jd 81 T.mix T.c100 ?_;intro ts hlen t0;unfold fn100 gA;have w1:IntKind.i64.wrap ((s.length:Int)-8)=(s.length:Int)-8:=aZ Om Om;have s2:=@zx h;have l2:=@zA h;have sq:=@zy h;have bad:∀{c:Int}{k:ah},ga s=(fg,c)->Ext h k->(Ext h k/\∃x:EV,x.ev=(ga s).1/\AV.dz [.agg [.int .i64 0,.str [],.af,.af,.str []],.int .i64 c]=.dz [.agg x.row,.int .i64 (ga s).2]/\Fr h.length k x.sn 1 (x.ev.names.map ak)/\Fr h.length k x.sv 1 (x.ev.bQ.map aJ)):=
  λhe e=>⟨e,⟨fg,.af,.af⟩,by rw[he],by rw[he];rfl,.nil,.nil⟩
 by_cases h8:s.length<8
 ·have d1:decide ((s.length:Int)-8<0)=true:=ZR Om;refine Rs (A6 t0 @w1 @d1 @s2 @l2 @sq) ?_;exact(bad (by rw[ga,ZY h8]) Xx).2
 have d1:decide ((s.length:Int)-8<0)=false:=ZN Om;have ea:(s.length:Int)-8=((s.length-8:Nat):Int):=Om
 have w1:IntKind.i64.wrap ((s.length:Int)-8)=((s.length-8:Nat):Int):=by rw[w1,ea]
 rw[ea]at d1;have hlt:s.length-8<s.length:=Om
 have w3:IntKind.i64.wrap (((s.length-8:Nat):Int)+1)=((s.length-7:Nat):Int):=by rw[aZ Om Om];omega
 have gd:s.getD (s.length-8) 0=s[s.length-8]:=by rw[aar,ZS hlt];rfl
 by_cases hh:s[s.length-8]=35
 case neg=>
  have d2:decide ((s[s.length-8].toNat:Int)≠35)=true:=ZR λe=>hh (abG.1 (by simpa using (by omega:s[s.length-8].toNat=35)))
  repeat (first|simp (config:={maxSteps:=1000000}) only[aQ,aR,aX,aY,reduceAdd,reduceMul,reduceLeDiff,reduceEqDiff,bd,hlen,Z3,Z7,t0,w1,d1,cM hlt,d2,s2,l2,sq]|simp (config:={maxSteps:=1000000}) (disch:=first|(simp only[ZL,ZP,ZT]<;>omega)|rfl|omega|fail) only[eD,aQ,aR,aX,aY,reduceAdd,reduceMul,reduceLeDiff,reduceEqDiff,bd,hlen,Z3,Z7,t0,w1,d1,cM hlt,d2,s2,l2,sq])
  exact(bad (by rw[ga,ZW h8,ZY (.inl (by rw[gd];exact hh))]) Xx).2
 have d2:decide ((s[s.length-8].toNat:Int)≠35)=false:=ZN (by rw[hh];decide);have hl7:(s.drop (s.length-7)).length=7:=by rw[aa7];omega
 have hdc:(((s.drop (s.length-7)).all cO)&&decide ((s.drop (s.length-7)).length=7))=lB (s.drop (s.length-7)):=by
  rw[lB,ZR hl7,ZN (λe=>by rw[e]at hl7;cases hl7)];simp
 repeat (first|simp (config:={maxSteps:=1000000}) only[aQ,aR,aX,aY,reduceAdd,reduceMul,reduceLeDiff,reduceEqDiff,bd,hlen,Z3,Z7,t0,w1,d1,cM hlt,d2,w3,gP (show s.length-7<=s.length by omega)]|simp (config:={maxSteps:=1000000}) (disch:=first|(simp only[ZL,ZP,ZT]<;>omega)|rfl|omega|fail) only[eD,aQ,aR,aX,aY,reduceAdd,reduceMul,reduceLeDiff,reduceEqDiff,bd,hlen,Z3,Z7,t0,w1,d1,cM hlt,d2,w3,gP (show s.length-7<=s.length by omega)])
 refine WF.ce T.c191 (r191 T _ Om) λg1=>?_
 rw[hdc];cases hd:lB (s.drop (s.length-7))with
 |false=>
  refine Rs (A6 t0 @hd @aai @s2 @l2 @sq) ?_;exact(bad (by rw[ga,ZW h8,ZY (.inr (by rw[hd];simp))]) Xx).2
 |true=>
 repeat (first|simp (config:={maxSteps:=1000000}) only[aQ,aR,aX,aY,reduceAdd,reduceMul,reduceLeDiff,reduceEqDiff,bd,hlen,Z3,Z7,t0,w3,hd,aad,nw (show s.length-8<=s.length by omega),gP (show s.length-7<=s.length by omega)]|simp (config:={maxSteps:=1000000}) (disch:=first|(simp only[ZL,ZP,ZT]<;>omega)|rfl|omega|fail) only[eD,aQ,aR,aX,aY,reduceAdd,reduceMul,reduceLeDiff,reduceEqDiff,bd,hlen,Z3,Z7,t0,w3,hd,aad,nw (show s.length-8<=s.length by omega),gP (show s.length-7<=s.length by omega)])
 have U1:∀{α:Type}{a b:α},(if s.getD (s.length-8) 0≠35\/¬lB (s.drop (s.length-7))=true then a else b)=b:=λ{_ _ _}=>ZW (by rw[gd,hd];simp[hh])
 refine WF.ce T.c72 (r72 T _ (by rw[aaw];omega)) λg2=>?_
 by_cases hc:jo (s.take (s.length-8))=s.drop (s.length-7)
 case neg=>
  have d3:decide (s.drop (s.length-7)≠jo (s.take (s.length-8)))=true:=ZR λe=>hc e.symm
  refine Rs (A5 t0 @d3 @s2 @l2 @sq) ?_;exact(bad (by rw[ga,ZW h8,U1,ZY hc]) Xx).2
 have d3:decide (s.drop (s.length-7)≠jo (s.take (s.length-8)))=false:=ZN (λz=>z hc.symm);have hes:ga s=if !cE (cK 32 (s.take (s.length-8))).1 || !(cp (aF 32 (cK 32 (s.take (s.length-8))).2.1)).2||decide (dB { (cp (aF 32 (cK 32 (s.take (s.length-8))).2.1)).1 with num:=dM (cK 32 (s.take (s.length-8))).1}≠0)then(fg,25)else({ (cp (aF 32 (cK 32 (s.take (s.length-8))).2.1)).1 with num:=dM (cK 32 (s.take (s.length-8))).1},0):=(ZW h8).trans (U1.trans (ZW (λz=>z hc)))
 have htl:(s.take (s.length-8)).length<=2^38:=by rw[aaw];omega
 refine Rs (A2 t0 @d3) ?_;obtain⟨B,hB⟩:∃B,B=s.take (s.length-8):=⟨_,rfl⟩;rw[<-hB]at hes htl ⊢;have hcl:=oZ (c:=32) (s:=B);have Yf:=tB (c:=32) (s:=B);have hno:=yT (c:=32) (s:=B);have Yu:=oX (c:=32) (s:=B);refine WF.res T.c105 (r105 T B 32 Om) ?_;intro v g3 hv;have SU:=hv.aO;rw[Yf]at SU;generalize (cK 32 B).1=a1 at hes hcl SU Yu;generalize (cK 32 B).2.1=a2 at hes hcl SU Yu hno;generalize (cK 32 B).2.2=fd at hes SU Yu hno;obtain⟨rest,Tb⟩:∃rest,rest=if fd=true then aF 32 a2 else []:=⟨_,rfl⟩
 rw[<-Tb]at SU;have ix:=SU.lP (kk:=.i64) Si;have ld:=λ{k:ah} e=>SU.gR (i:=0) (k:=k) Si rfl e
 have hld:(a1::rest)[0]=a1:=rfl;refine Rs (A4 t0 ix @ld @hld) ?_;refine WF.ce T.c192 (r192 T a1) λg4=>?_
 cases Vi:cE a1 with
 |false=>
  rw[Vi]at hes;refine Rs (A5 t0 @aai @s2 @l2 @sq) ?_;exact HE
 |true=>
 rw[Vi]at hes;cases fd with
 |false=>
  have Vu:rest=[]:=Tb;subst Vu;have d5:decide ((([a1] :List (By)).length:Int)<2)=true:=rfl;refine Rs (A7 t0 @aad SU.aL @d5 @s2 @l2 @sq) ?_;have ha2:=hno rfl;rw[ha2]at hes;exact HE
 |true=>
 have hr1:rest=aF 32 a2:=Tb;have Tz:0<rest.length:=by rw[hr1];exact aba.2 fJ
 have d5:decide (((a1::rest).length:Int)<2)=false:=ZN (by rw[ZP];omega);obtain⟨hle,hdq⟩:=Yu rfl;have w5:IntKind.i64.wrap ((a1.length:Int)+1)=((a1.length+1:Nat):Int):=by rw[aZ Om Om];omega
 repeat (first|simp (config:={maxSteps:=1000000}) only[aQ,aR,aX,aY,reduceAdd,reduceMul,reduceLeDiff,reduceEqDiff,bd,hlen,Z3,Z7,t0,aad,SU.aL,d5,ix,ld,hld,w5,gP hle,hdq]|simp (config:={maxSteps:=1000000}) (disch:=first|(simp only[ZL,ZP,ZT]<;>omega)|rfl|omega|fail) only[eD,aQ,aR,aX,aY,reduceAdd,reduceMul,reduceLeDiff,reduceEqDiff,bd,hlen,Z3,Z7,t0,aad,SU.aL,d5,ix,ld,hld,w5,gP hle,hdq])
 have Wr:=n8 (aF 32 a2);refine WF.res T.c107 (r107 T a2 Om) ?_;rintro _ g5 ⟨x,hx,rfl,fn,fv⟩;have ox:bj _ x:=⟨fn.aO,fv.aO⟩;have st:∀{b':Nat}{a0 a1 a2 a3 a4:AV},kG 5 0 (.agg x.row) b' (.cells [a0,a1,a2,a3,a4] true false)=some (aA,.set b' (.cells x.row true false)):=λ{_ _ _ _ _ _}=>ox.st
 obtain⟨x',SA⟩:∃x':EV,x' =⟨{x.ev with num:=dM a1},x.sn,x.sv⟩:=⟨_,rfl⟩;have SY:x'.sn=x.sn:=by rw[SA]
 have Zb:x'.sv=x.sv:=by rw[SA]
 have UM:x'.ev.names=x.ev.names:=by rw[SA]
 have Tf:x'.ev.bQ=x.ev.bQ:=by rw[SA]
 have hrow:x'.row=x.row.set 0 (.int .i64 (dM a1)):=by rw[SA];rfl
 have hev:({x.ev with num:=dM a1}:fi)=x'.ev:=by rw[SA]
 have jd:∀{b':Nat},kG 1 0 (.int .i64 (dM a1)) b' (.cells x.row true false)=some (aA,.set b' (.cells x'.row true false)):=λ{b'}=>by
  exact z105
 cases hok:(cp (aF 32 a2)).2 with
 |false=>
  rw[hok]at hes;refine Rs (A8 t0 @st @jd @bS @aai @s2 @l2 @sq) ?_;exact HE
 |true=>
 have hxe:x.ev=(cp (aF 32 a2)).1:=by rw[hx,tO,ZY hok]
 have hnl:∀n∈x'.ev.names,n.length<2^63:=λn hn=>by
  exact z203
 rw[hok,<-hxe,hev]at hes;rw[<-hxe]at Wr;rw[<-SY,<-UM]at fn;rw[<-Zb,<-Tf]at fv;have Vr:bj _ x':=⟨fn.aO,fv.aO⟩;have Tk:ga s=if decide (dB x'.ev≠0)then(fg,25)else(x'.ev,0):=hes
 refine Rs (A5 t0 @st @jd @bS @aad) ?_;refine WF.ce T.c39 (r39 T (Vr.ext Xx) ⟨by rw[UM];omega,by rw[Tf];omega⟩ hnl) λg7=>?_
 by_cases Tp:dB x'.ev=0
 case neg=>
  have d4:decide (dB x'.ev≠0)=true:=ZR Tp;rw[d4]at Tk;refine Rs (A5 t0 @d4 @s2 @l2 @sq) ?_;exact z154
 have d4:decide (dB x'.ev≠0)=false:=ZN (λz=>z Tp);rw[d4]at Tk;have key:∀{k:ah}{W:ah},bj W x'->Ext (h++[an.cells [.int .i64 0,.str [],.af,.af,.str []] true false]) W->Ext W k->a8 5 (.ptr h.length 0) (.agg x'.row) (λz=>k[z]?)=some (aA,.set h.length (.cells x'.row true false)):=λo e1 e2=>zw (o.ext e2) (e1.trans e2)
 have sx:=λ{k:ah}=>@key k _ Vr Xx
 have ly:=@zv h;have fn3:=(fn.app [an.cells x'.row true false]).app g7;have YC:=(fv.app [an.cells x'.row true false]).app g7;refine Rs (A5 t0 @d4 @bS @sx @ly) ?_;refine⟨x',by rw[Tk];rfl,by rw[Tk];rfl,(fn3.aB λj hj=>?_).low ?_,(YC.aB λj hj=>?_).low ?_⟩
 ·exact z109
 ·exact NN
 ·exact Lk
 ·exact NN
end
theorem Dl{c:UInt8}{q}:∀{p:By},c∉p->cK c (p++c::q)=(p,q,true)
 |[],_=>by rw[abg,cK,ZY rfl]
 |x::r,h=>by
  rw[aaX,cK,ZW (λe=>h (by simp[e])),Dl (λhr=>h (aao _ hr))]
theorem xN{c:UInt8}:∀{p:By},c∉p->cK c p=(p,[],false)
 |[],_=>rfl
 |x::r,h=>by
  rw[cK,ZW (λe=>h (by simp[e])),xN (λhr=>h (aao _ hr))]
def LM{s:By}{k m:Nat}{kk k2:IntKind}(h1:k<=m)(h2:m<=s.length):qM (.str s) (some (.int kk (k:Int))) (some (.int k2 (m:Int)))=some (.str ((s.drop k).take (m-k))):=by
 simp only[qM,uk h1 h2]
section
variable {P:Program}(T:fD P) {h:ah}
include T
def r38(s:By)(hsl:s.length<=2^37):ay P 38 [.str s] h (λv k=>∃(L':List EV) (s':AV),L'.map EV.ev=(cj s).1/\v=.dz [s',.int .i64 (cj s).2.1,.int .i64 (cj s).2.2]/\Fr h.length k s' 5 (L'.map EV.row)/\∀x∈L',As h.length k s' x):=by
 refine .jd 60 T.mix T.c38 ?_;intro ts hlen t0;unfold fn38 gA;by_cases h6:1000000<s.length
 ·exact Rg
 have d1:decide ((1000000:Int)<s.length)=false:=ZN Om;have hrs:cj s=jf (s.length+1) s [] 0:=ZW h6;refine Rs (A2 t0 @d1) ?_;refine WL.inv T.mix (λn ts h'=>∃(a i f:Nat) (out:AV) (L':List EV) (g:ah),a<=i/\i<=s.length/\n=s.length-i/\h' =h++g/\L'.length<=a/\(10:UInt8)∉(s.drop a).take (i-a)/\cj s=jf (f+1) (s.drop a) (L'.map EV.ev) a/\s.length-a<=f/\Fr h.length (h++g) out 5 (L'.map EV.row)/\(∀x∈L',As h.length (h++g) out x)/\
   ts.length=60/\slot ts 0=.str s/\slot ts 5=out/\slot ts 6=.int .i64 a/\slot ts 7=.int .i64 i) s.length
  ⟨0,0,s.length,.af,[],[],Om,Om,rfl,Si,Z0 _,Si,hrs,Om,.nil,(λx hx=>by cases hx),Sn,(Sq t0),Sw,gf,gf⟩ ?_
 rintro _ ts _ ⟨a,i,f,out,L',g,hai,hi,rfl,rfl,hLa,hno,SD,hf,hfr,hin,hlen,t0,t5,t6,t7⟩;have hdl:(s.drop a).length=s.length-a:=aa7;by_cases hlt:i<s.length
 ·have e3:=eF hlt;have hgi:(s.drop a)[i-a]'Om=s[i]:=by rw[List.getElem_drop];congr 1;omega
  have SC:(s.drop a).take (i+1-a)=(s.drop a).take (i-a)++[s[i]]:=by
   rw[show i+1-a=(i-a)+1 by omega,cY (show i-a<(s.drop a).length by omega),hgi]
  by_cases hc:s[i]=10
  case neg=>
   have d2:decide ((s[i].toNat:Int)≠10)=true:=ZR λe=>hc (abG.1 (by simpa using (by omega:s[i].toNat=10)))
   repeat (first|simp (config:={maxSteps:=1000000}) only[aQ,aR,aX,aY,reduceAdd,reduceMul,reduceLeDiff,reduceEqDiff,bd,hlen,Z3,Z7,t0,t5,t6,t7,e3,cM hlt,d2,wrapN (show i+1<2^63 by omega)]|simp (config:={maxSteps:=1000000}) (disch:=first|(simp only[ZL,ZP,ZT]<;>omega)|rfl|omega|fail) only[eD,aQ,aR,aX,aY,reduceAdd,reduceMul,reduceLeDiff,reduceEqDiff,bd,hlen,Z3,Z7,t0,t5,t6,t7,e3,cM hlt,d2,wrapN (show i+1<2^63 by omega)])
   refine⟨s.length-(i+1),Om,a,i+1,f,out,L',g,Om,Om,rfl,rfl,hLa,?_,SD,hf,hfr,hin,rfl,rfl,rfl⟩;rw[SC];intro hm;rcases ZX.1 hm with hm|hm
   ·exact hno hm
   ·exact hc (Z9.1 hm).symm
  have d2:decide ((s[i].toNat:Int)≠10)=false:=ZN (by rw[hc];decide);have hne:s.drop a≠[]:=λe=>by have:=aan List.length e;rw[hdl]at this;simp at this;omega
  obtain⟨f',rfl⟩:∃f',f=f'+1:=⟨f-1,Om⟩;have hsp:s.drop a=(s.drop a).take (i-a)++10::s.drop (i+1):=by
   have h1:=aaL (i-a) (s.drop a);rw[abk,show a+(i-a)=i by omega,abb hlt,hc]at h1;exact h1.symm
  have TF:((s.drop a).take (i-a)).length=i-a:=by rw[aaw];omega
  have Ze:=LM (s:=s) (kk:=.i64) (k2:=.i64) hai hi;have ZB:cK 10 (s.drop a)=((s.drop a).take (i-a),s.drop (i+1),true):=by rw[hsp];rw[<-hsp];exact(aan (cK 10) hsp).trans (Dl hno)
  rw[jf,ZW hne,ZB]at SD;clear hsp ZB hgi SC;generalize (s.drop a).take (i-a)=ln at SD TF Ze hno ⊢;have w1:IntKind.i64.wrap (((L'.map EV.row).length:Int)+1)=(L'.length:Int)+1:=by rw[ZU];exact aZ Om Om
  have w1':IntKind.i64.wrap ((L'.length:Int)+1)=(L'.length:Int)+1:=aZ Om Om
  repeat (first|simp (config:={maxSteps:=1000000}) only[aQ,aR,aX,aY,reduceAdd,reduceMul,reduceLeDiff,reduceEqDiff,bd,hlen,Z3,Z7,t0,t5,t6,t7,e3,cM hlt,d2,Ze]|simp (config:={maxSteps:=1000000}) (disch:=first|(simp only[ZL,ZP,ZT]<;>omega)|rfl|omega|fail) only[eD,aQ,aR,aX,aY,reduceAdd,reduceMul,reduceLeDiff,reduceEqDiff,bd,hlen,Z3,Z7,t0,t5,t6,t7,e3,cM hlt,d2,Ze])
  refine WF.res T.c100 (r100 T ln Om) ?_;rintro _ g2 ⟨x,hx,rfl,fn,fv⟩;have hml:(L'.map EV.ev).length=L'.length:=ZU _;have SD:cj s=if(cZ ln ((L'.length:Int)+1)).2≠0 then(L'.map EV.ev,(a:Int),(cZ ln ((L'.length:Int)+1)).2)else jf (f'+1) (s.drop (i+1)) (L'.map EV.ev++[(cZ ln ((L'.length:Int)+1)).1]) (a+ln.length+1):=by rw[SD,hml];rfl
  rw[Ba,<-hx,TF,show a+(i-a)+1=i+1 by omega]at SD;generalize (ga ln).2=er at SD ⊢;have ox:bj (h++g++g2) x:=⟨fn.aO,fv.aO⟩;have st:∀{b':Nat}{a0 a1 a2 a3 a4:AV},kG 5 0 (.agg x.row) b' (.cells [a0,a1,a2,a3,a4] true false)=some (aA,.set b' (.cells x.row true false)):=λ{_ _ _ _ _ _}=>ox.st
  by_cases he:er=0
  case neg=>
   have d3:decide (er=0)=false:=ZN he;have d4:decide (er≠0)=true:=ZR he;simp only[ZW he]at SD;rw[ZY he]at SD;refine Rs (A7 t0 t5 t6 t7 @st @d3 @d4) ?_;exact K3
  have d3:decide (er=0)=true:=ZR he;simp only[ZY he]at SD;by_cases TA:x.ev.num=(L'.length:Int)+1
  case neg=>
   have d5:decide (x.ev.num≠(L'.length:Int)+1)=true:=ZR TA;rw[d5,ZY (show bW true 11≠0 by decide)]at SD;have d6:decide ((11:Int)≠0)=true:=rfl;refine Rs (pG t0 t5 t6 t7 @st @d3 @jY hfr.aO.aL @w1 @w1' @d5 @d6) ?_;exact K3
  have d5:decide (x.ev.num≠(L'.length:Int)+1)=false:=ZN λz=>z TA
  have d4:decide (er≠0)=false:=ZN λz=>z he
  rw[d5,ZW (show ¬bW false 11≠0 by decide)]at SD;have ox2:bj (h++g++g2++[an.cells x.row true false]) x:=ox.ext ⟨_,rfl⟩;have bs:=@bj.Du _ _ ox2;refine Rs (za t0 t5 t6 t7 @st @d3 @d4 @jY hfr.aO.aL @w1 @w1' @d5 @bS @bs) ?_;refine WR.fP (h0:=h) (cs:=L'.map EV.row) (ys:=[x.row]) (((hfr.app _).app _).app _) (Fr.push (N:=0) (aam _) [x.row] (by intro y hy;rw[Z9]at hy;rw[hy];rfl)).aO De Si (by simp only[ZU,ZP,ZT];omega) Xx ?_;intro g' SI hff hkp;have hrow:L'.map EV.row++[x.row]=(L'++[x]).map EV.row:=by rw[ZV];rfl
  rw[hrow]at hff;rw[hrow];obtain⟨sn,SY⟩:∃sn,sn=AV.slice (h++g++g2++[an.cells x.row true false]++[an.cells x.row true true]).length 0 ((L'++[x]).map EV.row).length 5:=⟨_,rfl⟩;rw[<-SY]at hff ⊢;have Um:∀i,sB sn=some i->(h++g++g2).length+2=i:=λi hi=>by rw[SY]at hi;cases hi;simp only[ZL,Z6]<;>omega
  have hout:∀b,sB out=some b->b<(h++g).length:=λb hb=>(hfr.bB hb).2
  have kp:∀i,i<(h++g++g2).length->sB out≠some i->(h++g')[i]? =(h++g++g2)[i]? :=λi hi hne=>by
   rw[hkp i (by simp only[ZL,Z6]at hi ⊢;omega) (λb0 o n e he zz=>hne (by rw[he,zz];rfl)),ZO (h++g++g2),ZQ hi]
  refine Rs (A5 t0 t5 t6 t7 (wrapN (show i+1<2^63 by omega))) ?_;refine⟨s.length-(i+1),Om,i+1,i+1,f',sn,L'++[x],g',Om,Om,rfl,rfl,by simp;omega,Si,?_,Om,hff,λy hy=>?_,rfl,rfl,rfl⟩
  ·rw[SD,ZV];rfl
  ·have lg:∀{i},i<(h++g).length->i<(h++g++g2).length:=λ{i} hi=>by simp only[ZL]at hi ⊢;omega
   rcases ZX.1 hy with hy|hy
   ·have oy:=hin y hy;have ln:=λj (hj:sB y.sn=some j)=>(oy.n.bB hj).2
    have lv:=λj (hj:sB y.sv=some j)=>(oy.v.bB hj).2
    refine⟨(oy.n.app g2).aB λj hj=>kp j (lg (ln j hj)) (oy.dn j hj),(oy.v.app g2).aB λj hj=>kp j (lg (lv j hj)) (oy.dv j hj),λj hj e=>?_,λj hj e=>?_⟩
    ·have h1:=lg (ln j hj);have h2:=Um j e;omega
    ·have h1:=lg (lv j hj);have h2:=Um j e;omega
   ·rw[Z9]at hy;subst hy;have ln:=λj (hj:sB y.sn=some j)=>fn.bB hj
    have lv:=λj (hj:sB y.sv=some j)=>fv.bB hj
    exact Oo
 ·have e3:=fq hlt;have ei:i=s.length:=Om
  have Yq:(s.drop a).take (i-a)=s.drop a:=aau Om;rw[Yq]at hno;by_cases Xc:a<s.length
  ·have e4:=eF Xc;have hne:s.drop a≠[]:=λe=>by have:=aan List.length e;rw[hdl]at this;simp at this;omega
   rw[jf,ZW hne,xN hno]at SD;exact z156
  ·have e4:=fq Xc;have Zl:s.drop a=[]:=abI Om;rw[jf,ZY Zl]at SD;exact z156
end
def zB{l:List fi}(h:(bF l).2.2=0):l.length<=1000:=by
 unfold bF at h;split at h
 ·exact absurd h De
 ·omega
theorem zt:∀(l:List fi) (H:ju) (i:Nat),(ia H l i).2.2=0->(ia H l i).1.cN=H.cN++l
 |[],H,i,_=>by simp[ia]
 |e::l,H,i,h=>by
  rw[ia]at h ⊢;by_cases hb:ez H e=0
  ·rw[ZW (λz=>z hb)]at h ⊢;rw[zt l _ _ h];have:(ka H e).cN=H.cN++[e]:=by unfold ka;split<;>rfl
   rw[this,ZO];rfl
  ·rw[ZY hb]at h;exact absurd h hb
def EM{l:List fi}(h:(bF l).2.2=0):(bF l).1.cN=l:=by
 have hl:=zB h;have e:bF l=ia ju.zero l 0:=by rw[bF,ZW Om]
 rw[e]at h ⊢;rw[zt l _ _ h];rfl
structure Sj(n:By)(R A:hO):Prop where
 tk:A.tick<=R.tick
 ln:A.lines=R.lines.filter λx=>decide (x.name=n)
 tp:A.aH=R.aH
 sh:A.aj=R.aj.filter λx=>decide (x.line=n)
 md:A.aD=R.aD.filter λx=>decide (x.line=n)
section
variable {n:By}{R A:hO}(s:Sj n R A) (w:fQ R) {e:fi}{d:Kd}
include s
include w
end
def tQ{c:UInt8}(h:cO c=true):UInt8.ofNat (48+(c.toNat-48))=c:=by
 have:=eG.1 h;rw[show 48+(c.toNat-48)=c.toNat by omega];simp
theorem xL:∀k (s:By),s.length=k->s.all cO=true->s≠[]->s.head?≠some 48->1<=js s/\Lib.decDigits (js s).toNat=s
 | 0,s,hl,_,hne,_=>absurd (aaO.1 hl) hne
 |k+1,s,hl,hd,hne,hh=>by
  obtain⟨z,c,rfl⟩:∃z c,s=z++[c]:=⟨s.dropLast,s.getLast hne,(List.dropLast_concat_getLast hne).symm⟩;rw[abS,aaq]at hd;have hc:cO c=true:=by simpa using hd.2
  have Yv:=eG.1 hc;rw[xK];by_cases hz:z=[]
  ·subst hz;have:c≠48:=by simpa using hh
   have hc3:c.toNat≠48:=λe=>this (abG.1 (by simpa using e))
   have e0:js []=0:=rfl;rw[e0];refine⟨Om,?_⟩;rw[Lib.decDigits,dif_pos Om];rw[show(10*(0:Int)+((c.toNat:Int)-48)).toNat=c.toNat-48 by omega,tQ hc];rfl
  ·have hh':z.head?≠some 48:=by
    cases z with
    |nil=>exact absurd rfl hz
    |cons a b=>simpa using hh
   obtain⟨i1,i2⟩:=xL k z (by simpa using hl) hd.1 hz hh';refine⟨Om,?_⟩;rw[Lib.decDigits,dif_neg Om];rw[show(10*js z+((c.toNat:Int)-48)).toNat / 10=(js z).toNat by omega,show(10*js z+((c.toNat:Int)-48)).toNat%10=c.toNat-48 by omega,i2,tQ hc]
def xM{s:By}(h:cE s=true):ee (js s)=s:=by
 simp only[cE,aaq,aa2,abv,Bool.and_eq_false_iff,aaA]at h;obtain⟨⟨⟨h1,h2⟩,h3⟩,h4⟩:=h;have hne:s≠[]:=λe=>h1 (by rw[e];rfl)
 by_cases hh:s.head? =some 48
 ·have hl:s.length=1:=by
   rcases h3 with h3|h3
   ·have:=aba.2 hne;omega
   ·exact absurd hh h3
  match s,hl with
  |[c],_=>
   have:c=48:=by simpa using hh
   subst this;rw[jt];have:js [48]=0:=rfl;rw[this,show(0:Int).toNat=0 from rfl,Lib.decDigits,dif_pos De];rfl
 ·rw[jt];exact(xL _ s rfl h4 hne hh).2
def dL(l:List (By)):By:=(l.map λw=>32::w).flatten
def mI{a b}:dL (a++b)=dL a++dL b:=by rw[dL,ZV,abj];rfl
def ub{w}:dL [w]=32::w:=by simp[dL]
theorem uR:∀{r p},iv 32 (p::r)=p++dL r
 |[],p=>by rw[iv];simp[dL]
 |q::r,p=>by
  rw[jV Si,uR (r:=r) (p:=q)];simp[dL]
def Dy{e:fi}:dX e=ee e.num++dL ([e.kind]++e.names++e.bQ.map ee):=by
 rw[dX,sD];show iv 32 (ee e.num:: ([e.kind]++e.names++e.bQ.map ee))=_;exact uR
def Dx{e:fi}{A B:List (By)}(h:[e.kind]++e.names++e.bQ.map ee=A++B):(ee e.num++dL A).length<=(dX e).length:=by
 rw[Dy,h,mI];simp only[ZL];omega
def Fx{n:Int}(h:n<=999999999):(ee n).length<=9:=by rw[jt];exact lA (k:=8) Om
def I8(p q:By):fi:={ (cp (aF 32 q)).1 with num:=dM p}
def zF(p q:By)(n:Int):fi×Int:=
 if(!cE p || !(cp (aF 32 q)).2||decide (dB (I8 p q)≠0))=true then(fg,25)else(I8 p q,bW (decide (dM p≠n)) 11)
def Ir{p q n}(h:(zF p q n).2=0):cE p=true/\(cp (aF 32 q)).2=true/\dB (I8 p q)=0/\(zF p q n).1=I8 p q:=by
 unfold zF at h ⊢;split at h
 ·cases h
 ·rename_i hc;rw[ZW hc];simp only[abw,not_or,aa2,Bool.not_eq_false,aaA,ne_eq,abl]at hc;exact⟨hc.1.1,hc.1.2,hc.2,rfl⟩
def yS{s n}(h1:¬s.length<8)(h2:¬(s.getD (s.length-8) 0≠35\/¬lB (s.drop (s.length-7))=true))(h3:¬jo (s.take (s.length-8))≠s.drop (s.length-7)):cZ s n=zF (cK 32 (s.take (s.length-8))).1 (cK 32 (s.take (s.length-8))).2.1 n:=(ZW h1).trans ((ZW h2).trans (ZW h3))
def CV{l:List (By)}(h:∀x∈l,cE x=true):(l.map dM).map ee=l:=by
 rw[abt]
 conv=>rhs;rw[<-List.map_id l]
 refine List.map_congr_left λx hx=>?_
 show ee (dM x)=x;rw[dM,ZY (h x hx)];exact xM (h x hx)
def yR{s n}(h:(cZ s n).2=0):dB (cZ s n).1=0/\lU (cZ s n).1=s++[10]:=by
 by_cases h1:s.length<8
 ·rw[cZ,ZY h1]at h;cases h
 by_cases h2:s.getD (s.length-8) 0≠35\/¬lB (s.drop (s.length-7))=true
 ·rw[cZ,ZW h1,ZY h2]at h;cases h
 by_cases h3:jo (s.take (s.length-8))≠s.drop (s.length-7)
 ·rw[cZ,ZW h1,ZW h2,ZY h3]at h;cases h
 rw[yS h1 h2 h3]at h ⊢;have h2:s.getD (s.length-8) 0=35:=abl.1 λz=>h2 (.inl z)
 have h3:=abl.1 h3;obtain⟨B,hB⟩:∃B,B=s.take (s.length-8):=⟨_,rfl⟩;have hs:s=B++[35]++jo B:=by
  rw[hB,h3];have e1:=aaL (s.length-8) s;rw[abb (show s.length-8<s.length by omega)]at e1;have e2:s[s.length-8]=35:=by rw[<-h2,aar,ZS (show s.length-8<s.length by omega)];rfl
  rw[e2,show s.length-8+1=s.length-7 by omega]at e1;rw[ZO];exact e1.symm
 rw[<-hB]at h ⊢;clear hB h3 h2 h1;have hno:=yT (c:=32) (s:=B);have hsp:=pW (c:=32) (s:=B);generalize (cK 32 B).1=p at *;generalize (cK 32 B).2.1=q at *;generalize (cK 32 B).2.2=fd at *;obtain⟨hd,hr,hc,he⟩:=Ir h;rw[he];have hfd:fd=true:=by
  cases hf:fd with
  |true=>rfl
  |false=>rw[hno hf]at hr;cases hr
 have hBp:=hsp hfd;obtain⟨w,rest,d,hws,hk,hl,hne,Vi⟩:=wo hr;have hre:=uH hk hl hne Vi;refine⟨hc,?_⟩;have hb:dX (I8 p q)=B:=by
  have hdn:ee (dM p)=p:=by rw[dM,ZY hd];exact xM hd
  have hw2:sD (I8 p q)=p::aF 32 q:=by
   unfold I8;rw[hws,hre];show [ee (dM p),bw d]++rest.take (aM d).length++((rest.drop (aM d).length).map dM).map ee=_;rw[hdn,CV Vi,<-bZ hk,ZO,aaL];rfl
  rw[dX,hw2,jV fJ,jk,<-hBp]
 rw[lU,hb,hs]
def rQ{a b}:iL (a++b)=iL a++iL b:=by rw[iL,ZV,abj];rfl
def wL{e}:iL [e]=lU e:=by simp[iL]
def Bb{s n}(h:(cZ s n).2=0):dB (cZ s n).1=0:=(yR h).1
theorem zC:∀{f s l a},(∀e∈l,dB e=0)->∀e∈(jf f s l a).1,dB e=0
 | 0,s,l,a,hl=>hl
 |f+1,s,l,a,hl=>by
  rw[jf];split
  ·exact hl
  ·split
   ·exact hl
   ·by_cases h2:(cZ (cK 10 s).1 ((l.length:Int)+1)).2=0
    ·simp only[];rw[ZW (λz=>z h2)];refine zC λe he=>?_
     rcases ZX.1 he with he|he
     ·exact hl e he
     ·rw[Z9.1 he];exact Bb h2
    ·simp only[];rw[ZY h2];exact hl
def CA{s}:∀e∈(cj s).1,dB e=0:=by
 unfold cj;split
 ·intro e he;cases he
 ·exact zC (λe he=>by cases he)
structure Q3(e:fi):Prop where
 num:0<=e.num/\e.num<10^15
 bQ:∀x∈e.bQ,0<=x/\x<10^15
 nl:e.names.length<=2^30
 vl:e.bQ.length<=2^30
def CC{e}:(lU e).length=(dX e).length+9:=by
 have:=nP (dX e);unfold lU;simp;omega
theorem wm:∀{f s l a},(jf f s l a).1.length<=l.length+s.length
 | 0,s,l,a=>Nat.le_add_right _ _
 |f+1,s,l,a=>by
  rw[jf];split
  ·exact Nat.le_add_right _ _
  ·split
   ·exact Nat.le_add_right _ _
   ·rename_i hc;have hf:(cK 10 s).2.2=true:=by simpa using hc
    have:=(oX hf).1;have h2:=aan List.length (oX hf).2;rw[aa7]at h2;simp only[];split
    ·exact Nat.le_add_right _ _
    ·refine aaz wm ?_;rw[ZL,Z6];omega
def AG{s}:(cj s).1.length<=s.length:=by
 unfold cj;split
 ·exact aam _
 ·have:=wm (f:=s.length+1) (s:=s) (l:=[]) (a:=0)
  simpa using this
structure BJ(h:ah)(s:By)(L:List EV)(sl:AV):Prop where
 o:eJ h L sl
 e:L.map EV.ev=(cj s).1
theorem BJ.ext{h k s L sl}(o:BJ h s L sl)(e:Ext h k):BJ k s L sl:=⟨o.o.ext e,o.e⟩
def BJ.len{h s L sl}(o:BJ h s L sl):L.length<=s.length:=by
 have:=AG (s:=s);rw[<-o.e,ZU]at this;exact this
def BJ.wf{h s L sl}(o:BJ h s L sl):∀x∈L,∃d,kH x.ev d:=λx hx=>uY (CA x.ev (by rw[<-o.e];exact aah hx))
def vG{e:fi}{d}(w:kH e d):e.names.length<=3/\e.bQ.length<=3:=by
 have h3:(aM d).length<=3/\bK d<=3:=by cases d<;>decide
 have:=w.nl;have:=w.vl;omega
def Lt{e:fi}{d}(w:kH e d):Q3 e:=by
 have h:=vG w;have hn:=w.nu;exact⟨Om,λx hx=>by have:=w.vr x hx;omega,Om,Om⟩
section
variable {P:Program}(T:fD P) {h:ah}
include T
def r103{x}(ox:bj h x)(b:Q3 x.ev)(hl:(dX x.ev).length<=2^40):ay P 103 [.agg x.row] h (λv _=>v=.str (dX x.ev)):=by
 refine .jd 45 T.mix T.c103 ?_;intro ts hlen t0;unfold fn103 gA;have Su:=@bj.box _ _ ox;have hnl:=b.nl;have Tf:=b.vl;obtain⟨W,hW⟩:∃W,W=[x.ev.kind]++x.ev.names++x.ev.bQ.map ee:=⟨_,rfl⟩;have pre:∀A B:List (By),W=A++B->(ee x.ev.num++dL A).length<=2^40:=λA B e=>aaz (Dx (hW.symm.trans e)) hl
 have bc:∀{A:List (By)},(ee x.ev.num++dL A).length<=2^40->fe .add (.str (ee x.ev.num++dL A)) (.str [32])=some (.str (ee x.ev.num++dL A++[32])):=λhA=>ep (by rw[Z6];omega)
 have bc2:∀{A:List (By)}{w:By},(ee x.ev.num++dL (A++[w])).length<=2^40->fe .add (.str (ee x.ev.num++dL A++[32])) (.str w)=some (.str (ee x.ev.num++dL (A++[w]))):=λ{A w} hA=>by
  have e:ee x.ev.num++dL A++[32]++w=ee x.ev.num++dL (A++[w]):=by rw[mI,ub];simp
  rw[<-e]at hA ⊢;exact ep (by rw[ZL]at hA;omega)
 have pk:=pre [x.ev.kind] (x.ev.names++x.ev.bQ.map ee) (by rw[hW];rfl);have p0:=pre [] W rfl;have b0:=bc (A:=[]) p0;have b1:=bc2 (A:=[]) (w:=x.ev.kind) pk;rw[show dL []=[]from rfl,aaf]at b0 b1;rw[abg]at b1;refine Rs (A3 t0 @Su @jY) ?_;refine WF.ce T.c108 (r108 T (k:=14) b.num.1 b.num.2 Om) λg1=>?_
 refine Rs (A4 t0 @b0 @bC @b1) ?_;obtain⟨H,hH⟩:∃H,H=h++[an.cells x.row true false]++g1:=⟨_,rfl⟩;have m1:H[h.length]? =some (.cells x.row true false):=by rw[hH];exact(show Ext (h++[an.cells x.row true false]) _ from Xx).some ba
 have eH:Ext h H:=by rw[hH];exact Xx
 rw[<-hH];clear hH Su;have l1:=@fw _ _ _ m1;refine WL.inv T.mix (λn ts h'=>∃k:Nat,k<=x.ev.names.length/\n=x.ev.names.length-k/\h' =H/\ts.length=45/\slot ts 1=.ptr h.length 0/\slot ts 3=.str (ee x.ev.num++dL ([x.ev.kind]++x.ev.names.take k))/\slot ts 4=.int .i64 k) x.ev.names.length
  ⟨0,Om,rfl,rfl,(Sq t0),(Sq t0),(by simp only[aQ,aR,aX,aY,reduceAdd,reduceMul,reduceLeDiff,reduceEqDiff,bd,hlen,Z3,Z7,abD,aaf]),gf⟩ ?_
 clear hlen t0;rintro _ ts h2 ⟨k,hk,rfl,hh,hlen,t1,t3,t4⟩;rw[hh];clear hh h2;by_cases hlt:k<x.ev.names.length
 ·have e3:=eF hlt;have ix:=ox.n.dA (kk:=.i64) hlt;have ld:∀{kk:ah},Ext H kk->aq none (cF x.sn 1 k) (λb=>kk[b]?)=some (.str x.ev.names[k],.ar):=λ{kk} e=>ox.n.gR hlt rfl (eH.trans e)
  have SC:[x.ev.kind]++x.ev.names.take (k+1)=([x.ev.kind]++x.ev.names.take k)++[x.ev.names[k]]:=by rw[cY hlt,ZO]
  have hsp:∀j,W=([x.ev.kind]++x.ev.names.take j)++(x.ev.names.drop j++x.ev.bQ.map ee):=λj=>by
   rw[hW]
   conv=>lhs;rw[<-aaL j x.ev.names]
   simp only[ZO]
  have c1:=bc (pre _ _ (hsp k));have c2:=bc2 (A:=[x.ev.kind]++x.ev.names.take k) (w:=x.ev.names[k]) (by rw[<-SC];exact pre _ _ (hsp (k+1)));rw[<-SC]at c2;refine Rs (pG t1 t3 t4 @l1 @aP ox.n.aL e3 @c1 ix @ld @c2 (wrapN (show k+1<2^63 by omega))) ?_;exact⟨x.ev.names.length-(k+1),Om,k+1,Om,rfl,rfl,rfl⟩
 have e3:=fq hlt;have ek:k=x.ev.names.length:=Om
 rw[ek,aaj]at t3;refine Rs (A7 t1 t3 t4 @l1 @aP ox.n.aL e3) ?_;refine WL.inv T.mix (λn ts h'=>∃(k:Nat),k<=x.ev.bQ.length/\n=x.ev.bQ.length-k/\Ext H h'/\ts.length=45/\slot ts 1=.ptr h.length 0/\slot ts 3=.str (ee x.ev.num++dL ([x.ev.kind]++x.ev.names++(x.ev.bQ.take k).map ee))/\slot ts 5=.int .i64 k) x.ev.bQ.length
  ⟨0,Om,rfl,.refl _,(Sq t1),(Sq t1),(by simp only[aQ,aR,aX,aY,reduceAdd,reduceMul,reduceLeDiff,reduceEqDiff,bd,hlen,Z3,Z7,t3,abD,abd,aaf]),gf⟩ ?_
 clear hlen t1 t3 t4 e3 hlt hk ek;rintro _ ts h' ⟨k,hk,rfl,eh,hlen,t1,t3,t5⟩;have l1:∀{kk:ah}{n:Option Nat}{a:Nat},Ext h' kk->aq n (.ptr h.length a) (λz=>kk[z]?)=dK n a (.cells x.row true false):=λe=>az ((eh.trans e).some m1)
 by_cases hlt:k<x.ev.bQ.length
 ·have e3:=eF hlt;have ix:=ox.v.dA (kk:=.i64) hlt;have ld:∀{kk:ah},Ext h' kk->aq none (cF x.sv 1 k) (λb=>kk[b]?)=some (.int .i64 x.ev.bQ[k],.ar):=λ{kk} e=>ox.v.gR hlt rfl ((eH.trans eh).trans e)
  have hv:=b.bQ x.ev.bQ[k] (ZZ _);have SC:[x.ev.kind]++x.ev.names++(x.ev.bQ.take (k+1)).map ee=([x.ev.kind]++x.ev.names++(x.ev.bQ.take k).map ee)++[ee x.ev.bQ[k]]:=by rw[cY hlt,ZV];simp only[ZO];rfl
  have hsp:∀j,W=([x.ev.kind]++x.ev.names++(x.ev.bQ.take j).map ee)++(x.ev.bQ.drop j).map ee:=λj=>by rw[hW,ZO ([x.ev.kind]++x.ev.names),<-ZV,aaL]
  have c1:=bc (pre _ _ (hsp k));have c2:=bc2 (A:=[x.ev.kind]++x.ev.names++(x.ev.bQ.take k).map ee) (w:=ee x.ev.bQ[k]) (by rw[<-SC];exact pre _ _ (hsp (k+1)));rw[<-SC]at c2;generalize x.ev.bQ[k]=y at ld hv c2;refine Rs (kJ t1 t3 t5 @l1 @bg ox.v.aL e3 @c1 ix @ld) ?_;refine WF.ce T.c108 (r108 T (k:=14) hv.1 hv.2 Om) λg2=>?_
  refine Rs (A5 t1 t3 t5 @c2 (wrapN (show k+1<2^63 by omega))) ?_;exact⟨x.ev.bQ.length-(k+1),Om,k+1,Om,rfl,eh.trans ⟨_,rfl⟩,rfl,rfl⟩
 ·have e3:=fq hlt;have ek:k=x.ev.bQ.length:=Om
  rw[ek,aaj,<-Dy]at t3;refine Rs (A7 t1 t3 t5 @l1 @bg ox.v.aL e3) ?_;exact⟨eH.trans eh,trivial⟩
def r40{L:List EV}{s:AV}(o:eJ h L s)(b:∀x∈L,Q3 x.ev)(hl:(iL (L.map EV.ev)).length<=2^38)(hL:L.length<=2^40):ay P 40 [s] h (λv _=>v=.str (iL (L.map EV.ev))):=by
 refine .jd 28 T.mix T.c40 ?_;intro ts hlen t0;unfold fn40;refine Rs t0 ?_;refine WL.inv T.mix (λn ts h'=>∃k:Nat,k<=L.length/\n=L.length-k/\Ext h h'/\ts.length=28/\slot ts 0=s/\slot ts 3=.str (iL ((L.take k).map EV.ev))/\slot ts 4=.int .i64 k) L.length
  ⟨0,Om,rfl,.refl _,(Sq t0),(Sq t0),gf,gf⟩ ?_
 clear hlen t0;rintro _ ts h' ⟨k,hk,rfl,eh,hlen,t0,t3,t4⟩;by_cases hlt:k<L.length
 ·have e3:=eF hlt;have ix:=o.sl.dA (kk:=.i64) hlt;have ld:∀{kk:ah},Ext h' kk->aq (some 5) (cF s 5 k) (λb=>kk[b]?)=some (.agg L[k].row,.ar):=λ{kk} e=>o.sl.kR hlt (eh.trans e)
  have hm:=ZZ hlt;have SC:(L.take (k+1)).map EV.ev=(L.take k).map EV.ev++[L[k].ev]:=by rw[cY hlt,ZV];rfl
  have Uf:(iL ((L.take (k+1)).map EV.ev)).length<=2^38:=by
   have:L.map EV.ev=(L.take (k+1)).map EV.ev++(L.drop (k+1)).map EV.ev:=by rw[<-ZV,aaL]
   rw[this,rQ,ZL]at hl;omega
  rw[SC,rQ,wL]at Uf;have hnew:iL ((L.take (k+1)).map EV.ev)=iL ((L.take k).map EV.ev)++lU L[k].ev:=by rw[SC,rQ,wL]
  have ox:=o.all _ hm;have hb:=b _ hm;generalize L[k]=x at ld Uf hnew ox hb;generalize iL ((L.take k).map EV.ev)=S at t3 Uf hnew;have h7:=nP (dX x.ev);rw[ZL,CC]at Uf;have b1:=ep (x:=S) (y:=dX x.ev) Om;have b2:=ep (x:=S++dX x.ev) (y:=[35]) (by rw[ZL,Z6];omega);have b3:=ep (x:=S++dX x.ev++[35]) (y:=jo (dX x.ev)) (by rw[ZL,ZL,Z6];omega);have b4:=ep (x:=S++dX x.ev++[35]++jo (dX x.ev)) (y:=[10]) (by rw[ZL,ZL,ZL,Z6,Z6];omega);have hS:S++dX x.ev++[35]++jo (dX x.ev)++[10]=iL ((L.take (k+1)).map EV.ev):=by rw[hnew,lU];simp only[ZO]
  rw[hS]at b4;refine Rs (A7 t0 t3 t4 o.sl.aL e3 ix @ld) ?_;refine WF.ce T.c103 (r103 T (ox.ext (eh.trans Xx)) hb Om) λg1=>?_
  refine Rs (A7 t0 t3 t4 @b1 @b2 ix @ld) ?_;refine WF.ce T.c103 (r103 T (ox.ext (eh.trans Xx)) hb Om) λg2=>?_
  refine Rs (A3 t0 t3 t4) ?_;refine WF.ce T.c72 (r72 T _ Om) λg3=>?_
  refine Rs (A6 t0 t3 t4 @b3 @b4 (wrapN (show k+1<2^63 by omega))) ?_;exact⟨L.length-(k+1),Om,k+1,Om,rfl,eh.trans Xx,rfl,rfl⟩
 ·have e3:=fq hlt;have ek:k=L.length:=Om
  rw[ek,aaj]at t3;refine Rs (A5 t0 t3 t4 o.sl.aL e3) ?_;exact⟨eh,trivial⟩
end
section
variable {P:Program}(T:fD P) {h:ah}
include T
def r196{s ws}(hs:aI h s 1 (ws.map ak))(hl:(iv 32 ws).length<=2^40)(hn:ws.length<=2^40):ay P 196 [s] h (λv _=>v=.str (p8 ws)):=by
 refine .jd 25 T.mix T.c196 ?_;intro ts hlen t0;unfold fn196 gA;cases ws with
 |nil=>
  have d0:decide ((([] :List (By)).length:Int)=0)=true:=rfl;refine Rs (A3 t0 hs.aL @d0) ?_;rfl
 |cons w rest=>
 have d0:decide (((w::rest).length:Int)=0)=false:=ZN (by rw[ZP];omega);have ix:=hs.lP (kk:=.i64) Si;have ld:∀{k:ah},Ext h k->aq none (cF s 1 0) (λb=>k[b]?)=some (.str w,.ar):=λ{k} e=>hs.gR (i:=0) Si rfl e
 have hA:p8 (w::rest)=w++dL rest:=by rw[p8,ZW Si,uR]
 rw[uR]at hl;refine Rs (A5 t0 hs.aL @d0 ix @ld) ?_;refine WL.inv T.mix (λn ts h'=>∃k:Nat,k<=rest.length/\n=rest.length-k/\h' =h/\ts.length=25/\slot ts 0=s/\slot ts 3=.str (w++dL (rest.take k))/\slot ts 4=.int .i64 ((k+1:Nat):Int)) rest.length
  ⟨0,Om,rfl,rfl,(Sq t0),(Sq t0),(by simp only[aQ,aR,aX,aY,reduceAdd,reduceMul,reduceLeDiff,reduceEqDiff,bd,hlen,Z3,Z7,abD,dL,abd,List.flatten_nil,aaf]),gf⟩ ?_
 clear hlen t0 ix ld;rintro _ ts h2 ⟨k,hk,rfl,hh,hlen,t0,t3,t4⟩;rw[hh];clear hh h2;have TF:(w::rest).length=rest.length+1:=ZP;by_cases hlt:k<rest.length
 ·have e3:decide (((k+1:Nat):Int)<((w::rest).length:Int))=true:=eF Om;have hi:k+1<(w::rest).length:=Om
  have ix:=hs.dA (kk:=.i64) hi;have ld:∀{kk:ah},Ext h kk->aq none (cF s 1 (k+1)) (λb=>kk[b]?)=some (.str rest[k],.ar):=λ{kk} e=>hs.gR hi rfl e
  have SC:dL (rest.take (k+1))=dL (rest.take k)++32::rest[k]:=by rw[cY hlt,mI,ub]
  have hpre:(w++dL (rest.take (k+1))).length<=2^40:=by
   have e:dL rest=dL (rest.take (k+1))++dL (rest.drop (k+1)):=by rw[<-mI,aaL]
   rw[e]at hl;simp only[ZL]at hl ⊢;omega
  rw[SC]at hpre;generalize rest[k]=y at ld SC hpre;simp only[ZL,ZP]at hpre;have b1:=ep (x:=w++dL (rest.take k)) (y:=[32]) (by simp only[ZL,Z6];omega);have b2:=ep (x:=w++dL (rest.take k)++[32]) (y:=y) (by simp only[ZL,Z6];omega);have e2:w++dL (rest.take k)++[32]++y=w++dL (rest.take (k+1)):=by rw[SC];simp
  rw[e2]at b2;refine Rs (kJ t0 t3 t4 hs.aL e3 ix @ld @b1 @b2 (wrapN (show k+1+1<2^63 by omega))) ?_;exact⟨rest.length-(k+1),Om,k+1,Om,rfl,rfl,rfl⟩
 ·have e3:decide (((k+1:Nat):Int)<((w::rest).length:Int))=false:=fq Om;have ek:k=rest.length:=Om
  rw[ek,aaj]at t3;refine Rs (A5 t0 t3 t4 hs.aL e3) ?_;rw[hA]
end
def pf(k:Nat):ai:=(fn106).body.dr k
def sP(k:Nat):ai:=((fn106).body.dr k).hd
def y3:pf 7=.seq (sP 7) (pf 8):=rfl
def QL:fn106=⟨172,2,[(4,none),(5,none)],.seq (sP 0) (.seq (sP 1) (.seq (sP 2) (.seq (sP 3) (pf 4))))⟩:=rfl
def D8(h:ah)(L:List (By)):AV->ah->Prop:=λv k=>Ext h k/\v=.dz [.str (p8 L),.int .i64 0]
structure GJ(h W:ah)(V:RV)(b:Nat)(sl:AV)(ws:List (By))(ts:TS):Prop where
 e:Ext h W
 o:aC W V
 w:fQ V.ao
 mb:W[b]? =some (.cells V.row true false)
 hs:aI W sl 1 (ws.map ak)
 hlen:ts.length=172
 t2:slot ts 2=.ptr b 0
 t6:slot ts 6=sl
 t9:slot ts 9=.af
abbrev Hz(L:List (By)):Prop:=(∀x∈L,x.length<=64)/\L.length<=64
section
variable {P:Program}(T:fD P) {h W:ah}{V:RV}{b:Nat}{sl:AV}{ts:TS}{n:By}
include T
def pZ{K:ah}{ts:TS}{s:AV}{L:List (By)}(eK:Ext h K)(hv:aI K s 1 (L.map ak))(hb:Hz L)(hlen:ts.length=172)(t9:slot ts 9=s):WC P bL (pf 8) [] ts K (FQ [(4,none),(5,none)] (D8 h L)):=by
 unfold pf fn106;simp only[ai.j,ai.s,ai.r,ai.dr,ai.tl];have hj:=mJ (c:=32) (l:=L) hb.1;have hl:=hb.2;refine Rs t9 ?_;refine WF.ce T.c196 (r196 T hv Om Om) λg=>?_
 refine Rs t9 ?_;exact⟨eK.trans ⟨g,rfl⟩,rfl⟩
def Bp(S:GJ h W V b sl [[117,110,115,97,102,101]] ts)(hb:Hz (fu V.ao [] 3)):WC P bL (pf 7) [] ts W (FQ [(4,none),(5,none)] (D8 h (fu V.ao [] 3))):=by
 obtain⟨eW,o,w,mb,hs,hlen,t2,t6,t9⟩:=S;have lb:=@fw _ _ _ mb;have i0:=hs.lP (kk:=.i64) Si;have l0:∀{kk:ah},Ext W kk->aq none (cF sl 1 0) (λb=>kk[b]?)=some (.str [117,110,115,97,102,101],.ar):=λ{kk} e=>hs.gR (i:=0) Si rfl e
 have q0:decide (([117,110,115,97,102,101] :By)=[117,110,115,97,102,101])=true:=De
 rw[y3];generalize hR:pf 8=R;unfold sP fn106;simp only[ai.j,ai.s,ai.r,ai.dr,ai.tl,ai.hd];refine Rs (mQ t2 t6 t9 @lb @i0 @l0 q0 @Z5 @aac @aE @rG) ?_;refine WF.res T.c24 (r24 T o w.len w.yL _) ?_;intro v g hv;exact HL
def Ga(S:GJ h W V b sl [[102,114,111,109],n] ts)(hb:Hz (fu V.ao n 1))(hn:n∈j8 V.ao):WC P bL (pf 7) [] ts W (FQ [(4,none),(5,none)] (D8 h (fu V.ao n 1))):=by
 obtain⟨eW,o,w,mb,hs,hlen,t2,t6,t9⟩:=S;have lb:=@fw _ _ _ mb;have i0:=hs.lP (kk:=.i64) Si;have l0:∀{kk:ah},Ext W kk->aq none (cF sl 1 0) (λb=>kk[b]?)=some (.str [102,114,111,109],.ar):=λ{kk} e=>hs.gR (i:=0) Si rfl e
 have i1:aV 1 sl (.int .i64 1)=some (cF sl 1 1,.ar):=hs.dA (i:=1) Si;have l1:∀{kk:ah},Ext W kk->aq none (cF sl 1 1) (λb=>kk[b]?)=some (.str n,.ar):=λ{kk} e=>hs.gR (i:=1) Si rfl e
 have q0:decide (([102,114,111,109] :By)=[117,110,115,97,102,101])=false:=De
 have q1:decide (([102,114,111,109] :By)=[114,101,108,101,97,115,101,100])=false:=De
 have q2:decide (([102,114,111,109] :By)=[108,101,102,116])=false:=De
 have q3:decide (([102,114,111,109] :By)=[102,114,111,109])=true:=De
 rw[y3];generalize hR:pf 8=R;unfold sP fn106;simp only[ai.j,ai.s,ai.r,ai.dr,ai.tl,ai.hd];refine Rs (BD t2 t6 t9 @lb @i0 @l0 @i1 @l1 q0 q1 q2 q3 @Z5 @aac @aE) ?_;refine WF.res T.c61 (r61 T o w hn) ?_;intro v g hv;exact HL
def DL(S:GJ h W V b sl [[108,105,110,101,115],n] ts)(hb:Hz (fu V.ao n 2))(hn:n∈iS V.ao):WC P bL (pf 7) [] ts W (FQ [(4,none),(5,none)] (D8 h (fu V.ao n 2))):=by
 obtain⟨eW,o,w,mb,hs,hlen,t2,t6,t9⟩:=S;have lb:=@fw _ _ _ mb;have i0:=hs.lP (kk:=.i64) Si;have l0:∀{kk:ah},Ext W kk->aq none (cF sl 1 0) (λb=>kk[b]?)=some (.str [108,105,110,101,115],.ar):=λ{kk} e=>hs.gR (i:=0) Si rfl e
 have i1:aV 1 sl (.int .i64 1)=some (cF sl 1 1,.ar):=hs.dA (i:=1) Si;have l1:∀{kk:ah},Ext W kk->aq none (cF sl 1 1) (λb=>kk[b]?)=some (.str n,.ar):=λ{kk} e=>hs.gR (i:=1) Si rfl e
 have q0:decide (([108,105,110,101,115] :By)=[117,110,115,97,102,101])=false:=De
 have q1:decide (([108,105,110,101,115] :By)=[114,101,108,101,97,115,101,100])=false:=De
 have q2:decide (([108,105,110,101,115] :By)=[108,101,102,116])=false:=De
 have q3:decide (([108,105,110,101,115] :By)=[102,114,111,109])=false:=De
 have q4:decide (([108,105,110,101,115] :By)=[108,105,110,101,115])=true:=De
 rw[y3];generalize hR:pf 8=R;unfold sP fn106;simp only[ai.j,ai.s,ai.r,ai.dr,ai.tl,ai.hd];refine Rs (GM t2 t6 t9 @lb @i0 @l0 @i1 @l1 q0 q1 q2 q3 q4 @Z5 @aac @aE) ?_;refine WF.res T.c59 (r59 T o w n) ?_;intro v g hv;exact HL
def DJ(S:GJ h W V b sl [[116,97,112,101,115],n] ts)(hb:Hz (fu V.ao n 4))(hn:n∈k5 V.ao):WC P bL (pf 7) [] ts W (FQ [(4,none),(5,none)] (D8 h (fu V.ao n 4))):=by
 obtain⟨eW,o,w,mb,hs,hlen,t2,t6,t9⟩:=S;have lb:=@fw _ _ _ mb;have i0:=hs.lP (kk:=.i64) Si;have l0:∀{kk:ah},Ext W kk->aq none (cF sl 1 0) (λb=>kk[b]?)=some (.str [116,97,112,101,115],.ar):=λ{kk} e=>hs.gR (i:=0) Si rfl e
 have i1:aV 1 sl (.int .i64 1)=some (cF sl 1 1,.ar):=hs.dA (i:=1) Si;have l1:∀{kk:ah},Ext W kk->aq none (cF sl 1 1) (λb=>kk[b]?)=some (.str n,.ar):=λ{kk} e=>hs.gR (i:=1) Si rfl e
 have q0:decide (([116,97,112,101,115] :By)=[117,110,115,97,102,101])=false:=De
 have q1:decide (([116,97,112,101,115] :By)=[114,101,108,101,97,115,101,100])=false:=De
 have q2:decide (([116,97,112,101,115] :By)=[108,101,102,116])=false:=De
 have q3:decide (([116,97,112,101,115] :By)=[102,114,111,109])=false:=De
 have q4:decide (([116,97,112,101,115] :By)=[108,105,110,101,115])=false:=De
 have q5:decide (([116,97,112,101,115] :By)=[116,97,112,101,115])=true:=De
 rw[y3];generalize hR:pf 8=R;unfold sP fn106;simp only[ai.j,ai.s,ai.r,ai.dr,ai.tl,ai.hd];have hps:aW (k5 V.ao) n<V.aj.length:=by have:=cL hn;simpa [k5,RV.ao]using this
 have ix:aV 3 V.s2 (.int .i64 ((aW (k5 V.ao) n:Nat):Int))=some (cF V.s2 3 (aW (k5 V.ao) n),.ar):=o.i2.dA hps;obtain⟨y,hy⟩:∃y,y=V.aj[aW (k5 V.ao) n]:=⟨_,rfl⟩;have UO:y∈V.aj:=by rw[hy];exact ZZ _
 have VF:y.1=nW V.ao n:=by
  rw[nW,cS (f:=j7.name) (l:=V.ao.aj) (d:=CP) hn,hy];exact z72
 have ly:∀{kk:ah},Ext W kk->aq none (j6 V.s2 3 (aW (k5 V.ao) n) 2) (λb=>kk[b]?)=some (y.2,.ar):=λ{kk} e=>by rw[hy];exact o.i2.lO hps rfl e
 have oy:=o.e2 y UO;refine Rs (GL t2 t6 t9 @lb @i0 @l0 @i1 @l1 q0 q1 q2 q3 q4 q5 @Z5 @aac @fG @aE) ?_;refine WF.ce T.c22 (r22 T o w.len n) λg1=>?_
 have ei:de (λy:j7×AV=>decide (y.1.name=n)) V.aj=(aW (k5 V.ao) n:Int):=by
  rw[jh];exact eS (f:=λy:j7×AV=>y.1.name) (by rw[<-jh];exact hn)
 rw[ei];refine Rs (A4 t2 t6 ix @ly) ?_;rw[VF]at oy;rw[<-hR];exact pZ T (eW.trans Xx) (oy.ext Xx) hb Sn Sw
def F9(S:GJ h W V b sl [[108,101,102,116],n] ts)(hb:Hz (fu V.ao n 0))(hn:n∈gD V.ao):WC P bL (pf 7) [] ts W (FQ [(4,none),(5,none)] (D8 h (fu V.ao n 0))):=by
 obtain⟨eW,o,w,mb,hs,hlen,t2,t6,t9⟩:=S;have lb:=@fw _ _ _ mb;have i0:=hs.lP (kk:=.i64) Si;have l0:∀{kk:ah},Ext W kk->aq none (cF sl 1 0) (λb=>kk[b]?)=some (.str [108,101,102,116],.ar):=λ{kk} e=>hs.gR (i:=0) Si rfl e
 have i1:aV 1 sl (.int .i64 1)=some (cF sl 1 1,.ar):=hs.dA (i:=1) Si;have l1:∀{kk:ah},Ext W kk->aq none (cF sl 1 1) (λb=>kk[b]?)=some (.str n,.ar):=λ{kk} e=>hs.gR (i:=1) Si rfl e
 have q0:decide (([108,101,102,116] :By)=[117,110,115,97,102,101])=false:=De
 have q1:decide (([108,101,102,116] :By)=[114,101,108,101,97,115,101,100])=false:=De
 have q2:decide (([108,101,102,116] :By)=[108,101,102,116])=true:=De
 rw[y3];generalize hR:pf 8=R;unfold sP fn106;simp only[ai.j,ai.s,ai.r,ai.dr,ai.tl,ai.hd];have hps:aW (gD V.ao) n<V.aG.length:=by have:=cL hn;simpa [gD,RV.ao]using this
 have ix:aV 3 V.s4 (.int .i64 ((aW (gD V.ao) n:Nat):Int))=some (cF V.s4 3 (aW (gD V.ao) n),.ar):=o.i4.dA hps;obtain⟨y,hy⟩:∃y,y=V.aG[aW (gD V.ao) n]:=⟨_,rfl⟩;have UO:y∈V.aG:=by rw[hy];exact ZZ _
 have VF:y.1=gj V.ao n:=by
  rw[gj,cS (f:=kI.name) (l:=V.ao.aG) (d:=wD) hn,hy];exact z72
 have ly:∀{kk:ah},Ext W kk->aq (some 3) (cF V.s4 3 (aW (gD V.ao) n)) (λb=>kk[b]?)=some (.agg (bO y),.ar):=λ{kk} e=>by rw[hy];exact o.i4.kR hps e
 have oy:=o.e4 y UO;have Uk:=w.jb y.1 (aah UO);refine Rs (BD t2 t6 t9 @lb @i0 @l0 @i1 @l1 q0 q1 q2 @Z5 @aac @gq @aE) ?_;refine WF.ce T.c56 (r56 T o w.len n) λg1=>?_
 have ei:de (λy:kI×AV=>decide (y.1.name=n)) V.aG=(aW (gD V.ao) n:Int):=by
  exact z141
 rw[ei];refine Rs (A5 t2 t6 t9 ix @ly) ?_;refine WF.res T.c60 (r60 T (oy.ext Xx) Om) ?_;intro lf g2 hl;have hyl2:y.1.bz.length<=32:=Uk.2.2.1;have TF:=jN (l:=y.1.bz) (i:=0);have VB:=oG (l:=y.1.bz) (i:=0);rw[VF]at hl TF VB hyl2;obtain⟨L,hL⟩:∃L,L=db (gj V.ao n).bz 0:=⟨_,rfl⟩;have TW:fu V.ao n 0=L.map ee:=by rw[hL];rfl
 rw[<-hL]at hl TF VB;rw[TW]at hb ⊢;obtain⟨K,hK⟩:∃Z,Z=W++g1++g2:=⟨_,rfl⟩;have eK:Ext W K:=by rw[hK];exact Xx
 rw[<-hK]at hl ⊢;refine Rs (A3 t2 t6 t9) ?_;refine WL.inv T.mix (λm ts h'=>∃(k:Nat) (s':AV),k<=L.length/\m=L.length-k/\Ext K h'/\Fr K.length h' s' 1 (((L.take k).map ee).map ak)/\ts.length=172/\slot ts 9=s'/\slot ts 11=lf/\slot ts 12=.int .i64 k) L.length
  ⟨0,.af,Om,rfl,.refl _,.nil,Sn,(Sq t9),Sw,gf⟩ ?_
 clear hlen t2 t6 t9 ix ly;rintro _ ts h' ⟨k,s',hk,rfl,eh,hf,hlen,t9,t11,t12⟩;by_cases hlt:k<L.length
 ·have e3:=eF hlt;have ix:=hl.dA (kk:=.i64) hlt;have ld:∀{kk:ah},Ext h' kk->aq none (cF lf 1 k) (λb=>kk[b]?)=some (.int .i64 L[k],.ar):=λ{kk} e=>hl.gR hlt rfl (eh.trans e)
  have SC:(L.take (k+1)).map ee=(L.take k).map ee++[ee L[k]]:=by rw[cY hlt,ZV];rfl
  have hv:=VB L[k] (ZZ _);generalize L[k]=z at ld SC hv;refine Rs (A7 t9 t11 t12 hl.aL e3 ix @ld) ?_;refine WF.ce T.c108 (r108 T (k:=14) Om Om Om) λg3=>?_
  refine Rs (A3 t9 t11 t12) ?_;refine WR.ml (B:=K) (cs:=((L.take k).map ee).map ak) (z:=ak (ee z)) (hf.app g3) rfl (eh.trans ⟨_,rfl⟩) De (by simp only[ZU,aaw];omega) ?_;intro W5 s5 x5 Xy _ _ _ _;have er:((L.take k).map ee).map ak++[ak (ee z)]=((L.take (k+1)).map ee).map ak:=by rw[SC,ZV];rfl
  rw[er]at Xy;refine Rs (A4 t9 t11 t12 (wrapN (show k+1<2^63 by omega))) ?_;exact⟨L.length-(k+1),Om,k+1,s5,Om,rfl,x5,Xy,rfl,rfl⟩
 ·have e3:=fq hlt;have ek:k=L.length:=Om
  rw[ek,aaj]at hf;refine Rs (A5 t9 t11 t12 hl.aL e3) ?_;rw[<-hR];exact pZ T ((eW.trans eK).trans eh) hf.aO hb Sn (Sq t9)
def xV(S:GJ h W V b sl [[114,101,108,101,97,115,101,100]] ts)(hb:Hz (fu V.ao [] 5)):WC P bL (pf 7) [] ts W (FQ [(4,none),(5,none)] (D8 h (fu V.ao [] 5))):=by
 obtain⟨eW,o,w,mb,hs,hlen,t2,t6,t9⟩:=S;have lb:=@fw _ _ _ mb;have i0:=hs.lP (kk:=.i64) Si;have l0:∀{kk:ah},Ext W kk->aq none (cF sl 1 0) (λb=>kk[b]?)=some (.str [114,101,108,101,97,115,101,100],.ar):=λ{kk} e=>hs.gR (i:=0) Si rfl e
 have q0:decide (([114,101,108,101,97,115,101,100] :By)=[117,110,115,97,102,101])=false:=De
 have q1:decide (([114,101,108,101,97,115,101,100] :By)=[114,101,108,101,97,115,101,100])=true:=De
 rw[y3];generalize hR:pf 8=R;unfold sP fn106;simp only[ai.j,ai.s,ai.r,ai.dr,ai.tl,ai.hd];have l5:V.aK.length<=16:=w.l5;have TW:fu V.ao [] 5=pO V.aK:=rfl;rw[TW]at hb ⊢;refine Rs (kJ t2 t6 t9 @lb @i0 @l0 q0 q1 @Z5 @aac) ?_;refine WL.inv T.mix (λm ts h'=>∃(k:Nat) (s':AV) (g:ah),k<=V.aK.length/\m=V.aK.length-k/\h' =W++g/\Fr W.length (W++g) s' 1 ((pO (V.aK.take k)).map ak)/\ts.length=172/\slot ts 2=.ptr b 0/\slot ts 9=s'/\slot ts 10=.int .i64 k) V.aK.length
  ⟨0,.af,[],Om,rfl,(aaf _).symm,.nil,Sn,(Sq t2),(Sq t9),gf⟩ ?_
 clear hlen t2 t6 t9;rintro _ ts _ ⟨k,s',g,hk,rfl,rfl,hf,hlen,t2,t9,t10⟩;by_cases hlt:k<V.aK.length
 ·have e3:=eF hlt;have e5:=wrapN (n:=k) Om;have ix:=o.i5.dA (kk:=.i64) hlt;have f0:∀{kk:ah},Ext W kk->aq none (j6 V.s5 4 k 0) (λb=>kk[b]?)=some (.str V.aK[k].name,.ar):=λ{kk} e=>o.i5.lO hlt rfl e
  have f2:∀{kk:ah},Ext W kk->aq none (j6 V.s5 4 k 2) (λb=>kk[b]?)=some (.int .i64 V.aK[k].kE,.ar):=λ{kk} e=>o.i5.lO hlt rfl e
  have f3:∀{kk:ah},Ext W kk->aq none (j6 V.s5 4 k 3) (λb=>kk[b]?)=some (.bool V.aK[k].rel,.ar):=λ{kk} e=>o.i5.lO hlt rfl e
  have Zj:=w.pc V.aK[k] (ZZ _);have SC:V.aK.take (k+1)=V.aK.take k++[V.aK[k]]:=cY hlt;generalize V.aK[k]=x at f0 f2 f3 Zj SC;have Tz:=n7 (l:=V.aK.take k);have htl:(V.aK.take k).length<=16:=by rw[aaw];omega
  have SY:=tJ (l:=V.aK.take k) (x:=x);cases Wq:x.rel with
  |false=>
   rw[Wq]at f3 SY;rw[ZW Si,aaf,<-SC]at SY;rw[<-SY]at hf;refine Rs (kJ t2 t9 t10 @lb @gE o.i5.aL e3 e5 ix @f3) ?_;exact⟨V.aK.length-(k+1),Om,k+1,s',g,Om,rfl,rfl,hf,rfl,rfl⟩
  |true=>
   rw[Wq]at f3 SY;rw[ZY rfl,<-SC]at SY;refine Rs (mQ t2 t9 t10 @lb @gE o.i5.aL e3 ix @f0 @f2 @f3) ?_;refine WF.ce T.c108 (r108 T (k:=14) Om Om Om) λg1=>?_
   refine Rs (A3 t2 t9 t10) ?_;refine WR.DM (h0:=W) (cs:=(pO (V.aK.take k)).map ak) (ys:=([x.name,ee x.kE] :List (By)).map ak) ((hf.app _).app _) (Fr.push (N:=0) (aam _) (([x.name,ee x.kE] :List (By)).map ak) (by simp[ak])).aO De (by simp;omega) Xx ?_;intro s5 g5 hff _ _;rw[<-ZV,<-SY]at hff;refine Rs (A4 t2 t9 t10 e5) ?_;exact⟨V.aK.length-(k+1),Om,k+1,s5,g5,Om,rfl,rfl,hff,rfl,rfl⟩
 ·have e3:=fq hlt;have ek:k=V.aK.length:=Om
  rw[ek,aaj]at hf;refine Rs (A7 t2 t9 t10 @lb @gE o.i5.aL e3) ?_;rw[<-hR];exact pZ T (eW.trans ⟨g,rfl⟩) hf.aO hb Sn (Sq t9)
def F8(S:GJ h W V b sl [[119,97,110,116],n] ts)(hb:Hz (fu V.ao n 6))(hn:n∈gC V.ao):WC P bL (pf 7) [] ts W (FQ [(4,none),(5,none)] (D8 h (fu V.ao n 6))):=by
 obtain⟨eW,o,w,mb,hs,hlen,t2,t6,t9⟩:=S;have lb:=@fw _ _ _ mb;have i0:=hs.lP (kk:=.i64) Si;have l0:∀{kk:ah},Ext W kk->aq none (cF sl 1 0) (λb=>kk[b]?)=some (.str [119,97,110,116],.ar):=λ{kk} e=>hs.gR (i:=0) Si rfl e
 have i1:aV 1 sl (.int .i64 1)=some (cF sl 1 1,.ar):=hs.dA (i:=1) Si;have l1:∀{kk:ah},Ext W kk->aq none (cF sl 1 1) (λb=>kk[b]?)=some (.str n,.ar):=λ{kk} e=>hs.gR (i:=1) Si rfl e
 have q0:decide (([119,97,110,116] :By)=[117,110,115,97,102,101])=false:=De
 have q1:decide (([119,97,110,116] :By)=[114,101,108,101,97,115,101,100])=false:=De
 have q2:decide (([119,97,110,116] :By)=[108,101,102,116])=false:=De
 have q3:decide (([119,97,110,116] :By)=[102,114,111,109])=false:=De
 have q4:decide (([119,97,110,116] :By)=[108,105,110,101,115])=false:=De
 have q5:decide (([119,97,110,116] :By)=[116,97,112,101,115])=false:=De
 rw[y3];generalize hR:pf 8=R;unfold sP fn106;simp only[ai.j,ai.s,ai.r,ai.dr,ai.tl,ai.hd];have hlt:aW (gC V.ao) n<V.lines.length:=by have:=cL hn;simpa [gC,RV.ao]using this
 have ei:de (λy:iH=>decide (y.name=n)) V.lines=(aW (gC V.ao) n:Int):=eS (f:=iH.name) hn;have sp:du V.ao n=V.lines[aW (gC V.ao) n]:=cS hn;have UP:1<=(du V.ao n).want/\(du V.ao n).want<=64:=w.ln _ (iC (f:=iH.name) (l:=V.ao.lines) (n:=n) (d:=AN) hn);have ix:aV 3 V.s0 (.int .i64 ((aW (gC V.ao) n:Nat):Int))=some (cF V.s0 3 (aW (gC V.ao) n),.ar):=o.i0.dA hlt;have ly:∀{kk:ah},Ext W kk->aq (some 3) (cF V.s0 3 (aW (gC V.ao) n)) (λb=>kk[b]?)=some (.agg (cC (du V.ao n)),.ar):=λ{kk} e=>by rw[sp];exact o.i0.kR hlt e
 have Us:ja (some (AV.int .i64 1)) none ([[119,97,110,116],n] :List (By)).length=some (1,2):=lD (k:=1) Si;obtain⟨s1,es1,T6⟩:=hs.Ej Us;have et:List.take (2-1) (List.drop 1 ([[119,97,110,116],n] :List (By)))=[n]:=rfl;rw[et]at T6;have hof:((V.ao.aj.filter λx=>decide (x.line∈[n])).map j7.name).length=(sO V.ao n).length:=by
  rw[ZU,sO];congr 1;refine List.filter_congr λy _=>?_
  simp
 have hol:(sO V.ao n).length<=64:=by
  have h1:(sO V.ao n).length<=V.ao.aj.length:=by rw[sO];exact aav _ _
  have:=w.l2;omega
 have TW:fu V.ao n 6=[ee (sO V.ao n).length,ee (du V.ao n).want,if(du V.ao n).acc then [97,99,99,101,112,116,101,100]else [111,112,101,110]]:=rfl;rw[TW]at hb ⊢;generalize du V.ao n=y at hb UP ly ⊢;unfold cC at ly;refine Rs (GL t2 t6 t9 @lb @i0 @l0 @i1 @l1 q0 q1 q2 q3 q4 q5 @Z5 @aac @gG @aE) ?_;refine WF.ce T.c28 (r28 T o w.len n) λg1=>?_
 rw[ei];refine Rs (A8 t2 t6 t9 ix @ly @lb @aE @es1) ?_;refine WF.res T.c127 (r127 T (o.ext Xx) w.len (T6.ext Xx) Si) ?_;intro v2 g2 h2;refine Rs (A5 t2 t6 t9 h2.aL @hof) ?_;refine WF.ce T.c108 (r108 T (k:=14) Om Om Om) λg3=>?_
 refine Rs (A3 t2 t6 t9) ?_;refine WF.ce T.c108 (r108 T (k:=14) Om Om Om) λg4=>?_
 refine Rs (A3 t2 t6 t9) ?_;obtain⟨K,hK⟩:∃Z,Z=W++g1++[an.cells [.str y.name,.int .i64 y.want,.bool y.acc] true false]++g2++g3++g4:=⟨_,rfl⟩;have eK:Ext W K:=by rw[hK];exact Xx
 obtain⟨s9,h9⟩:∃z,z=AV.slice K.length 0 3 1:=⟨_,rfl⟩;have fr:Fr K.length (K++[an.cells [.str (ee (sO V.ao n).length),.str (ee y.want),.str [111,112,101,110]] true true]) s9 1 (([ee (sO V.ao n).length,ee y.want,[111,112,101,110]] :List (By)).map ak):=by
  rw[h9];exact Fr.push (Z0 _) (([ee (sO V.ao n).length,ee y.want,[111,112,101,110]] :List (By)).map ak) (by simp[ak])
 rw[<-hK,<-h9];clear hK h9;have ix2:aV 1 s9 (.int .i64 2)=some (cF s9 1 2,.ar):=fr.aO.dA (i:=2) Si;cases TX:y.acc with
 |false=>
  rw[TX]at hb;refine Rs (A3 t2 t6 t9) ?_;rw[<-hR];exact pZ T (eW.trans (eK.trans ⟨_,rfl⟩)) fr.aO hb Sn Sw
 |true=>
  rw[TX]at hb;refine Rs (A4 t2 t6 t9 @ix2) ?_;refine WR.sW (h0:=K) (off:=0) (i:=2) (x':=[97,99,99,101,112,116,101,100]) fr Si De rfl (by simp[ak]) ?_;intro g5 hl5 hF5 _;refine Rs (A3 t2 t6 t9) ?_;rw[<-hR];exact pZ T (eW.trans (eK.trans ⟨g5,rfl⟩)) hF5.aO hb Sn Sw
def y0(R:hO)(ws:List (By)):By×Int:=
 match jE (ws.headD [])with
 |none=>([],13)
 |some q=>iP R ws q
def Q4(h:ah)(x:By×Int):AV->ah->Prop:=λv k=>Ext h k/\v=.dz [.str x.1,.int .i64 x.2]
omit T in
theorem Nt:pf 4=.seq (sP 4) (.seq (sP 5) (.seq (sP 6) (pf 7))):=rfl
def sG{lit:By}{rest:List (By)}{i r:Nat}(hlit:lit≠[])(hr:r<6)(eW:Ext h W)(o:aC W V)(w:fQ V.ao)(mb:W[b]? =some (.cells V.row true false))(hs:aI W sl 1 ((lit::rest).map ak))(hwl:rest.length<=2^41)(hlen:ts.length=172)(t2:slot ts 2=.ptr b 0)(t6:slot ts 6=sl)(t7:slot ts 7=.int .i64 2)(t8:slot ts 8=.int .u8 ((lL (r,true)).toNat:Int))
  (K:∀n W' ts',rest=[n]->eo V.ao r n=true->GJ h W' V b sl [lit,n] ts'->WC P bL (pf 7) [] ts' W' (FQ [(4,none),(5,none)] (D8 h (fu V.ao n i)))):
  WC P bL (pf 4) [] ts W (FQ [(4,none),(5,none)] (Q4 h (iP V.ao (lit::rest) (i,true,r)))):=by
 have lb:=@fw _ _ _ mb;have TF:(lit::rest).length=rest.length+1:=ZP;rw[Nt];generalize hR:pf 7=R at K ⊢;unfold sP fn106;simp only[ai.j,ai.s,ai.r,ai.dr,ai.tl,ai.hd];by_cases h2:rest.length=1
 case neg=>
  have ea:iP V.ao (lit::rest) (i,true,r)=([],25):=by
   unfold iP;rw[ZY (.inl ⟨rfl,λz=>h2 (by have:=z.1;omega)⟩)]
  have d1:decide (((lit::rest).length:Int)≠2)=true:=ZR Om;rw[ea];refine Rs (A6 t2 t6 t7 t8 hs.aL @d1) ?_;exact⟨eW,rfl⟩
 obtain⟨n,rfl⟩:∃n,rest=[n]:=by
  match rest,h2 with
  |[n],_=>exact⟨n,rfl⟩
 have d1:decide ((([lit,n] :List (By)).length:Int)≠2)=false:=rfl;have w1:IntKind.i64.wrap (2-1)=1:=rfl;have i1:aV 1 sl (.int .i64 1)=some (cF sl 1 1,.ar):=hs.dA (i:=1) Si;have l1:∀{kk:ah},Ext W kk->aq none (cF sl 1 1) (λb=>kk[b]?)=some (.str n,.ar):=λ{kk} e=>hs.gR (i:=1) Si rfl e
 by_cases hn:n=[]
 ·have ea:iP V.ao [lit,n] (i,true,r)=([],25):=by
   unfold iP;rw[ZY (.inl ⟨rfl,λz=>z.2 (by simpa using hn)⟩)]
  have d2:decide (n=[])=true:=ZR hn;rw[ea];refine Rs (kJ t2 t6 t7 t8 hs.aL @d1 @w1 @i1 @l1 @d2) ?_;exact⟨eW,rfl⟩
 have d2:decide (n=[])=false:=ZN hn;have ea:iP V.ao [lit,n] (i,true,r)=if eo V.ao r n=false then([],10)else(p8 (fu V.ao n i),0):=by
  unfold iP;simp[hn]
 have d3:decide ((2:Int)=2)=true:=rfl;refine Rs (za t2 t6 t7 t8 hs.aL @d1 @w1 @i1 @l1 @d2 @d3 @lb @aE @Z5) ?_;refine WF.res T.c195 (r195 T o w.len hr n) ?_;rintro _ g1 ⟨j,rfl,hj⟩;have V3:decide (j<0)= !eo V.ao r n:=by
  rw[<-hj];by_cases h0:0<=j
  ·rw[ZR h0,ZN Om];rfl
  ·rw[ZN h0,ZR Om];rfl
 cases hh:eo V.ao r n with
 |false=>
  rw[hh]at V3 ea;rw[ea];refine Rs (A6 t2 t6 t7 t8 @V3 @aai) ?_;exact⟨eW.trans ⟨_,rfl⟩,rfl⟩
 |true=>
  rw[hh]at V3 ea;rw[ea];refine Rs (A6 t2 t6 t7 t8 @V3 @aad) ?_;exact K n _ _ rfl hh ⟨eW.trans ⟨_,rfl⟩,o.ext ⟨_,rfl⟩,w,(show Ext W _ from⟨_,rfl⟩).some mb,hs.ext ⟨_,rfl⟩,Sn,(Sq t2),(Sq t6),Sw⟩
theorem DK{lit:By}{rest:List (By)}{i r:Nat}(hlit:lit≠[])(eW:Ext h W)(o:aC W V)(w:fQ V.ao)(mb:W[b]? =some (.cells V.row true false))(hs:aI W sl 1 ((lit::rest).map ak))(hwl:rest.length<=2^41)(hlen:ts.length=172)(t2:slot ts 2=.ptr b 0)(t6:slot ts 6=sl)(t7:slot ts 7=.int .i64 1)
  (K:∀W' ts',rest=[]->GJ h W' V b sl [lit] ts'->WC P bL (pf 7) [] ts' W' (FQ [(4,none),(5,none)] (D8 h (fu V.ao [] i)))):
  WC P bL (pf 4) [] ts W (FQ [(4,none),(5,none)] (Q4 h (iP V.ao (lit::rest) (i,false,r)))):=by
 have lb:=@fw _ _ _ mb;have TF:(lit::rest).length=rest.length+1:=ZP;rw[Nt];generalize hR:pf 7=R at K ⊢;unfold sP fn106;simp only[ai.j,ai.s,ai.r,ai.dr,ai.tl,ai.hd];by_cases h2:rest=[]
 case neg=>
  have h3:=aba.2 h2;have ea:iP V.ao (lit::rest) (i,false,r)=([],25):=by
   unfold iP;rw[ZY (.inr ⟨rfl,Om⟩)]
  have d1:decide (((lit::rest).length:Int)≠1)=true:=ZR Om;rw[ea];refine Rs (A5 t2 t6 t7 hs.aL @d1) ?_;exact⟨eW,rfl⟩
 subst h2;have d1:decide ((([lit] :List (By)).length:Int)≠1)=false:=rfl;have w1:IntKind.i64.wrap (1-1)=0:=rfl;have i0:=hs.lP (kk:=.i64) Si;have l0:∀{kk:ah},Ext W kk->aq none (cF sl 1 0) (λb=>kk[b]?)=some (.str lit,.ar):=λ{kk} e=>hs.gR (i:=0) Si rfl e
 have d2:decide (lit=[])=false:=ZN hlit;have d3:decide ((1:Int)=2)=false:=rfl;have ea:iP V.ao [lit] (i,false,r)=(p8 (fu V.ao [] i),0):=by
  unfold iP;simp
 rw[ea];refine Rs (kJ t2 t6 t7 hs.aL @d1 @w1 @i0 @l0 @d2 @d3) ?_;exact K _ _ rfl ⟨eW,o,w,mb,hs,Sn,(Sq t2),(Sq t6),Sw⟩
def r106(o:aC h V)(w:fQ V.ao)(s:By)(hsl:s.length<=2^40):ay P 106 [.agg V.row,.str s] h (λv _=>v=.dz [.str (y0 V.ao (aF 32 s)).1,.int .i64 (y0 V.ao (aF 32 s)).2]):=by
 refine .of T.mix (acb T.c106 (aan some QL)) ?_;obtain⟨ts,Sv⟩:∃ts,ts=aU 172 [.agg V.row,.str s]:=⟨_,rfl⟩;have hlen:ts.length=172:=by rw[Sv];rfl
 have t0:slot ts 0=.agg V.row:=by rw[Sv];rfl
 have t1:slot ts 1=.str s:=by rw[Sv];rfl
 show WC P bL (.seq (sP 0) (.seq (sP 1) (.seq (sP 2) (.seq (sP 3) (pf 4))))) [] (aU 172 [.agg V.row,.str s]) h (FQ [(4,none),(5,none)] (Q4 h (y0 V.ao (aF 32 s))));rw[<-Sv];clear Sv;generalize hR:pf 4=R;unfold sP fn106;simp only[ai.j,ai.s,ai.r,ai.dr,ai.tl,ai.hd];have Su:=@aC.box _ _ o;refine Rs (A3 t0 t1 @Su) ?_;refine WF.res T.c105 (r105 T s 32 hsl) ?_;intro v g1 hv;have hs:=hv.aO;have hlB:(aF 32 s).length<=s.length+1:=by rw[jS];have:=abO (a:=(32:UInt8)) (l:=s);omega
 obtain⟨w0,rest,hws⟩:∃w rest,aF 32 s=w::rest:=by
  exact Ob
 rw[hws]at hs hlB ⊢;rw[ZP]at hlB;obtain⟨W,hW⟩:∃Z,Z=h++[an.cells V.row true false]++g1:=⟨_,rfl⟩;have mb:W[h.length]? =some (.cells V.row true false):=by rw[hW];exact(show Ext (h++[an.cells V.row true false]) _ from Xx).some ba
 have eW:Ext h W:=by rw[hW];exact Xx
 rw[<-hW]at hs ⊢;clear hW hv;have oW:=o.ext eW;have i0:=hs.lP (kk:=.i64) Si;have l0:∀{kk:ah},Ext W kk->aq none (cF v 1 0) (λb=>kk[b]?)=some (.str w0,.ar):=λ{kk} e=>hs.gR (i:=0) Si rfl e
 by_cases c0:w0=[117,110,115,97,102,101]
 ·subst c0;have q0:decide (([117,110,115,97,102,101] :By)=[117,110,115,97,102,101])=true:=De
  refine Rs (A7 t0 t1 @i0 @l0 q0 @Z5 @aac) ?_;rw[<-hR];exact DK T (lit:=[117,110,115,97,102,101]) (i:=3) (r:=2) De eW oW w mb hs Om Sn Sw Sw Sw (λW' ts' _ S=>Bp T S (mq w (k:=[117,110,115,97,102,101]) (q:=(3,false,2)) rfl (λz=>by cases z)))
 by_cases c1:w0=[114,101,108,101,97,115,101,100]
 ·subst c1;have q0:decide (([114,101,108,101,97,115,101,100] :By)=[117,110,115,97,102,101])=false:=De
  have q1:decide (([114,101,108,101,97,115,101,100] :By)=[114,101,108,101,97,115,101,100])=true:=De
  refine Rs (A8 t0 t1 @i0 @l0 q0 q1 @Z5 @aac) ?_;rw[<-hR];exact DK T (lit:=[114,101,108,101,97,115,101,100]) (i:=5) (r:=5) De eW oW w mb hs Om Sn Sw Sw Sw (λW' ts' _ S=>xV T S (mq w (k:=[114,101,108,101,97,115,101,100]) (q:=(5,false,5)) rfl (λz=>by cases z)))
 by_cases c2:w0=[108,101,102,116]
 ·subst c2;have q0:decide (([108,101,102,116] :By)=[117,110,115,97,102,101])=false:=De
  have q1:decide (([108,101,102,116] :By)=[114,101,108,101,97,115,101,100])=false:=De
  have q2:decide (([108,101,102,116] :By)=[108,101,102,116])=true:=De
  refine Rs (A9 t0 t1 @i0 @l0 q0 q1 q2 @Z5 @aac) ?_;rw[<-hR];exact sG T (lit:=[108,101,102,116]) (i:=0) (r:=4) De De eW oW w mb hs Om Sn Sw Sw Sw gf (λn W' ts' _ hh S=>F9 T S (mq w (k:=[108,101,102,116]) (q:=(0,true,4)) rfl (λ_=>hh)) (aaQ hh))
 by_cases c3:w0=[102,114,111,109]
 ·subst c3;have q0:decide (([102,114,111,109] :By)=[117,110,115,97,102,101])=false:=De
  have q1:decide (([102,114,111,109] :By)=[114,101,108,101,97,115,101,100])=false:=De
  have q2:decide (([102,114,111,109] :By)=[108,101,102,116])=false:=De
  have q3:decide (([102,114,111,109] :By)=[102,114,111,109])=true:=De
  refine Rs (kJ t0 t1 @i0 @l0 q0 q1 q2 q3 @Z5 @aac) ?_;rw[<-hR];exact sG T (lit:=[102,114,111,109]) (i:=1) (r:=5) De De eW oW w mb hs Om Sn Sw Sw Sw gf (λn W' ts' _ hh S=>Ga T S (mq w (k:=[102,114,111,109]) (q:=(1,true,5)) rfl (λ_=>hh)) (aaQ hh))
 by_cases c4:w0=[108,105,110,101,115]
 ·subst c4;have q0:decide (([108,105,110,101,115] :By)=[117,110,115,97,102,101])=false:=De
  have q1:decide (([108,105,110,101,115] :By)=[114,101,108,101,97,115,101,100])=false:=De
  have q2:decide (([108,105,110,101,115] :By)=[108,101,102,116])=false:=De
  have q3:decide (([108,105,110,101,115] :By)=[102,114,111,109])=false:=De
  have q4:decide (([108,105,110,101,115] :By)=[108,105,110,101,115])=true:=De
  refine Rs (mQ t0 t1 @i0 @l0 q0 q1 q2 q3 q4 @Z5 @aac) ?_;rw[<-hR];exact sG T (lit:=[108,105,110,101,115]) (i:=2) (r:=3) De De eW oW w mb hs Om Sn Sw Sw Sw gf (λn W' ts' _ hh S=>DL T S (mq w (k:=[108,105,110,101,115]) (q:=(2,true,3)) rfl (λ_=>hh)) (aaQ hh))
 by_cases c5:w0=[116,97,112,101,115]
 ·subst c5;have q0:decide (([116,97,112,101,115] :By)=[117,110,115,97,102,101])=false:=De
  have q1:decide (([116,97,112,101,115] :By)=[114,101,108,101,97,115,101,100])=false:=De
  have q2:decide (([116,97,112,101,115] :By)=[108,101,102,116])=false:=De
  have q3:decide (([116,97,112,101,115] :By)=[102,114,111,109])=false:=De
  have q4:decide (([116,97,112,101,115] :By)=[108,105,110,101,115])=false:=De
  have q5:decide (([116,97,112,101,115] :By)=[116,97,112,101,115])=true:=De
  refine Rs (pG t0 t1 @i0 @l0 q0 q1 q2 q3 q4 q5 @Z5 @aac) ?_;rw[<-hR];exact sG T (lit:=[116,97,112,101,115]) (i:=4) (r:=2) De De eW oW w mb hs Om Sn Sw Sw Sw gf (λn W' ts' _ hh S=>DJ T S (mq w (k:=[116,97,112,101,115]) (q:=(4,true,2)) rfl (λ_=>hh)) (aaQ hh))
 by_cases c6:w0=[119,97,110,116]
 ·subst c6;have q0:decide (([119,97,110,116] :By)=[117,110,115,97,102,101])=false:=De
  have q1:decide (([119,97,110,116] :By)=[114,101,108,101,97,115,101,100])=false:=De
  have q2:decide (([119,97,110,116] :By)=[108,101,102,116])=false:=De
  have q3:decide (([119,97,110,116] :By)=[102,114,111,109])=false:=De
  have q4:decide (([119,97,110,116] :By)=[108,105,110,101,115])=false:=De
  have q5:decide (([119,97,110,116] :By)=[116,97,112,101,115])=false:=De
  have q6:decide (([119,97,110,116] :By)=[119,97,110,116])=true:=De
  refine Rs (D5 t0 t1 @i0 @l0 q0 q1 q2 q3 q4 q5 q6 @Z5 @aac) ?_;rw[<-hR];exact sG T (lit:=[119,97,110,116]) (i:=6) (r:=0) De De eW oW w mb hs Om Sn Sw Sw Sw gf (λn W' ts' _ hh S=>F8 T S (mq w (k:=[119,97,110,116]) (q:=(6,true,0)) rfl (λ_=>hh)) (aaQ hh))
 have q0:decide (w0=[117,110,115,97,102,101])=false:=ZN c0;have q1:decide (w0=[114,101,108,101,97,115,101,100])=false:=ZN c1;have q2:decide (w0=[108,101,102,116])=false:=ZN c2;have q3:decide (w0=[102,114,111,109])=false:=ZN c3;have q4:decide (w0=[108,105,110,101,115])=false:=ZN c4;have q5:decide (w0=[116,97,112,101,115])=false:=ZN c5;have q6:decide (w0=[119,97,110,116])=false:=ZN c6;have hq:y0 V.ao (w0::rest)=([],13):=by
  unfold y0;have:jE ((w0::rest).headD [])=none:=by
   show jE w0=none;unfold jE;rw[ZW c2,ZW c3,ZW c4,ZW c0,ZW c5,ZW c1,ZW c6]
  rw[this]
 rw[hq];refine Rs (mQ t0 t1 @i0 @l0 q0 q1 q2 q3 q4 q5 q6) ?_;exact⟨eW,rfl⟩
end
def fV:∀{ts}{h}{x y z u}{nx},cR [(x,some nx),(y,none),(z,none),(u,none)] ts h=HQ (lv (aq nx (slot ts x) (λb=>h[b]?))) (some (slot ts y)) (some (slot ts z)) (some (slot ts u)):=by
 intro ts h x y z u nx;rw[<-c9];simp only[cR,je,c8];cases dI ts h (x,some nx)<;>rfl
def DS{l:List fi}{e:fi}{H:ju}(h:bF l=(H,0,0))(hl:¬1000<=l.length):qK l e=ez H e:=by
 rw[DU,DT,h];have hw:bW (decide (1000<=l.length)) 5=0:=by rw[ZN hl];rfl
 rw[hw,ez];by_cases hc:dB e=0
 ·have:bn [0,dB e,0]=0:=by rw[hc];rfl
  rw[ZW (λz=>z this),ZW (λz=>z hc)]
 ·have:bn [0,dB e,0]=dB e:=by simp[bn,hc]
  rw[this]
def Ik{w d}(h:ff w=some d):jE w=none:=by
 rw[bZ h];cases d<;>rfl
def Jo{H:ju}{s:By}(h1:¬4096<s.length)(h2:s≠[])(hk:ff ((aF 32 s).headD [])=none):pV H s=(H,y0 H.now (aF 32 s)):=by
 rw[pV,ZW h1,ZW h2];unfold y0;cases jE ((aF 32 s).headD [])with
 |none=>simp only[hk]
 |some q=>rfl
def Ni{H:ju}{s:By}{d}(h1:¬4096<s.length)(h2:s≠[])(hk:ff ((aF 32 s).headD [])=some d):pV H s=
   if !(cp (aF 32 s)).2 then(H,[],25)else
   if 1000<=H.cN.length then(H,[],5)else
   if ez H { (cp (aF 32 s)).1 with num:=(H.cN.length:Int)+1}≠0 then(H,[],ez H { (cp (aF 32 s)).1 with num:=(H.cN.length:Int)+1})else(ka H { (cp (aF 32 s)).1 with num:=(H.cN.length:Int)+1},[100,111,110,101,32]++ee ((H.cN.length:Int)+1),0):=by
 rw[pV,ZW h1,ZW h2,Ik hk,hk]
def RT(h:ah)(H:ju)(s:By)(v:AV)(k:ah):Prop:=∃(x:EV) (is:Bool),v=.dz [.agg x.row,.bool is,.str (pV H s).2.1,.int .i64 (pV H s).2.2]/\Fr h.length k x.sn 1 (x.ev.names.map ak)/\Fr h.length k x.sv 1 (x.ev.bQ.map aJ)/\(is=false->(pV H s).1=H)/\(is=true->(pV H s).1=ka H x.ev/\ez H x.ev=0/\H.cN.length<1000)
section
variable {P:Program}(T:fD P) {h:ah}
include T
def r42{L:List EV}{sl:AV}(o:eJ h L sl)(sh:x6 L)(nl:Kc L){H:ju}(hH:bF (L.map EV.ev)=(H,0,0))(hev:H.cN.length=L.length)(s:By)(hs:s.length<=2^36):ay P 42 [sl,.str s] h (λv k=>RT h H s v k):=by
 refine .fo 72 T.mix T.c42 ?_;intro ts hlen t0 t1;unfold fn42 gA;have s2:=@zx h;have l2:=@zA h;have sq:=@zy h;have bad:∀{m:By}{c:Int}{k:ah},pV H s=(H,m,c)->Ext h k->(Ext h k/\RT h H s (.dz [.agg [.int .i64 0,.str [],.af,.af,.str []],.bool false,.str m,.int .i64 c]) k):=
  λhe e=>⟨e,⟨fg,.af,.af⟩,false,by rw[he];rfl,.nil,.nil,λ_=>by rw[he],λz=>by cases z⟩
 by_cases h1:4096<s.length
 ·have d1:decide ((4096:Int)<s.length)=true:=ZR Om;refine Rs (A8 t0 t1 @d1 @s2 @l2 @sq @fV @gN) ?_;exact(bad (by rw[pV,ZY h1]) Xx).2
 have d1:decide ((4096:Int)<s.length)=false:=ZN Om;by_cases h2:s=[]
 ·have d2:decide (s=[])=true:=ZR h2;refine Rs (A9 t0 t1 @d1 @d2 @s2 @l2 @sq @fV @gN) ?_;exact(bad (by rw[pV,ZW h1,ZY h2]) Xx).2
 have d2:decide (s=[])=false:=ZN h2;refine Rs (A4 t0 t1 @d1 @d2) ?_;refine WF.res T.c18 (r18 T (o.ext Xx) sh nl) ?_;rintro _ g1 ⟨V,rfl,oV,hV,wV,_⟩;rw[hH]at hV ⊢;have hV:V.ao=H.now:=hV;have jd:=@aC.st _ _ oV;refine Rs (A3 t0 t1 @jd) ?_;obtain⟨K,hK⟩:∃Z,Z=h++[an.cells [.int .i64 0,.str [],.af,.af,.str []] true false]++g1++[an.cells V.row true false]:=⟨_,rfl⟩;obtain⟨b8,ZE⟩:∃Z,Z=(h++[an.cells [.int .i64 0,.str [],.af,.af,.str []] true false]++g1).length:=⟨_,rfl⟩;have m8:K[b8]? =some (.cells V.row true false):=by rw[hK,ZE];exact ba
 have eR:Ext (h++[an.cells [.int .i64 0,.str [],.af,.af,.str []] true false]) K:=by rw[hK];exact Xx
 have eK:Ext h K:=by rw[hK];exact Xx
 have oK:aC K V:=by rw[hK];exact oV.ext Xx
 have hhK:h.length<K.length:=by rw[hK];simp only[ZL,Z6];omega
 rw[<-hK,<-ZE];clear hK ZE jd oV;have l8:=@fw _ _ _ m8;have s2:=λ{k:ah}(e:Ext K k)=>@s2 k (eR.trans e)
 have l2:=λ{k:ah}(e:Ext K k)=>@l2 k (eR.trans e)
 have sq:=λ{k:ah}(e:Ext K k)=>@sq k (eR.trans e)
 refine WF.res T.c105 (r105 T s 32 Om) ?_;intro v g2 hv;obtain⟨w0,rest,hws⟩:∃w rest,aF 32 s=w::rest:=by
  exact Ob
 have hhd:(aF 32 s).headD []=w0:=by rw[hws];rfl
 have SU:=hv.aO;rw[hws]at SU;have i0:=SU.lP (kk:=.i64) Si;have l0:∀{kk:ah},Ext (K++g2) kk->aq none (cF v 1 0) (λb=>kk[b]?)=some (.str w0,.ar):=λ{kk} e=>SU.gR (i:=0) Si rfl e
 refine Rs (A4 t0 t1 @i0 @l0) ?_;refine WF.ce T.c104 (r104 T w0) λg3=>?_
 cases hk:ff w0 with
 |none=>
  have ea:=Jo (H:=H) h1 h2 (by rw[hhd];exact hk)
  repeat (first|simp (config:={maxSteps:=1000000}) only[aQ,aR,aX,aY,reduceAdd,reduceMul,reduceLeDiff,reduceEqDiff,bd,hlen,Z3,Z7,t0,t1,l8,aE,Option.isSome_none,aai]|simp (config:={maxSteps:=1000000}) (disch:=first|(simp only[ZL,ZP,ZT]<;>omega)|rfl|omega|fail) only[eD,aQ,aR,aX,aY,reduceAdd,reduceMul,reduceLeDiff,reduceEqDiff,bd,hlen,Z3,Z7,t0,t1,l8,aE,Option.isSome_none,aai])
  refine WF.ce T.c106 (r106 T (oK.ext Xx) wV s Om) λg4=>?_
  rw[hV];refine Rs (A7 t0 t1 @s2 @l2 @sq @fV @gN) ?_;exact HF
 |some d=>
 have ea:=Ni (H:=H) h1 h2 (by rw[hhd];exact hk)
 repeat (first|simp (config:={maxSteps:=1000000}) only[aQ,aR,aX,aY,reduceAdd,reduceMul,reduceLeDiff,reduceEqDiff,bd,hlen,Z3,Z7,t0,t1,Option.isSome_some,aad]|simp (config:={maxSteps:=1000000}) (disch:=first|(simp only[ZL,ZP,ZT]<;>omega)|rfl|omega|fail) only[eD,aQ,aR,aX,aY,reduceAdd,reduceMul,reduceLeDiff,reduceEqDiff,bd,hlen,Z3,Z7,t0,t1,Option.isSome_some,aad])
 refine WF.res T.c107 (r107 T s Om) ?_;rintro _ g4 ⟨x,hx,rfl,fn,fv⟩;have ox:bj _ x:=⟨fn.aO,fv.aO⟩;have st:∀{b':Nat}{a0 a1 a2 a3 a4:AV},kG 5 0 (.agg x.row) b' (.cells [a0,a1,a2,a3,a4] true false)=some (aA,.set b' (.cells x.row true false)):=λ{_ _ _ _ _ _}=>ox.st
 have Wr:=n8 (aF 32 s);cases hok:(cp (aF 32 s)).2 with
 |false=>
  rw[hok]at ea;refine Rs (kJ t0 t1 @st @bS @aai @s2 @l2 @sq @fV @gN) ?_;exact bad (by rw[ea];rfl) (eK.trans Xx)
 |true=>
 have hxe:x.ev=(cp (aF 32 s)).1:=by rw[hx,tO,ZY hok]
 rw[hok,hev]at ea;by_cases hm:1000<=L.length
 ·have dm:decide ((1000:Int)<=(L.length:Int))=true:=ZR Om;rw[ZW Si,ZY hm]at ea;refine Rs (pG t0 t1 @st @bS @aad o.sl.aL @dm @s2 @l2 @sq @fV @gN) ?_;exact HF
 have dm:decide ((1000:Int)<=(L.length:Int))=false:=ZN Om;have w1:IntKind.i64.wrap ((L.length:Int)+1)=(L.length:Int)+1:=aZ Om Om;obtain⟨x',SA⟩:∃x':EV,x' =⟨{x.ev with num:=(L.length:Int)+1},x.sn,x.sv⟩:=⟨_,rfl⟩;have SY:x'.sn=x.sn:=by rw[SA]
 have Zb:x'.sv=x.sv:=by rw[SA]
 have UM:x'.ev.names=x.ev.names:=by rw[SA]
 have Tf:x'.ev.bQ=x.ev.bQ:=by rw[SA]
 have TA:x'.ev.num=(L.length:Int)+1:=by rw[SA]
 have hrow:x'.row=x.row.set 0 (.int .i64 ((L.length:Int)+1)):=by rw[SA];rfl
 have hev2:({ (cp (aF 32 s)).1 with num:=(L.length:Int)+1}:fi)=x'.ev:=by rw[SA,hxe]
 have jd:∀{b':Nat},kG 1 0 (.int .i64 ((L.length:Int)+1)) b' (.cells x.row true false)=some (aA,.set b' (.cells x'.row true false)):=λ{b'}=>by
  exact z105
 have hnl:∀n∈x'.ev.names,n.length<2^63:=λn hn=>by
  exact z203
 rw[ZW Si,ZW hm,hev2]at ea;rw[<-hxe]at Wr;rw[<-SY,<-UM]at fn;rw[<-Zb,<-Tf]at fv;have Vr:bj _ x':=⟨fn.aO,fv.aO⟩;refine Rs (A9 t0 t1 @st @jd @bS @aad o.sl.aL @dm @w1) ?_;refine WF.ce T.c49 (r49 T (o.ext (eK.trans Xx)) sh nl (Vr.ext Xx) ⟨by rw[UM];omega,by rw[Tf];omega⟩ hnl) λg7=>?_
 rw[DS hH (by rw[ZU];exact hm)];by_cases Tp:ez H x'.ev=0
 case neg=>
  have d4:decide (ez H x'.ev≠0)=true:=ZR Tp;rw[ZY Tp]at ea;refine Rs (A8 t0 t1 @d4 @s2 @l2 @sq @fV @gN) ?_;exact HF
 have d4:decide (ez H x'.ev≠0)=false:=ZN (λz=>z Tp);rw[ZW (λz=>z Tp)]at ea;refine Rs (A6 t0 t1 @d4 @bS @jY @TA) ?_;refine WF.ce T.c108 (r108 T (k:=14) Om Om Om) λg8=>?_
 have hdl:=Fx (n:=(L.length:Int)+1) Om;have bc:=ep (x:=[100,111,110,101,32]) (y:=ee ((L.length:Int)+1)) (by simp only[ZP,ZT];omega);have fn3:=((fn.app [an.cells x'.row true false]).app g7).app g8;have YC:=((fv.app [an.cells x'.row true false]).app g7).app g8;have oy:=((Vr.ext ⟨[an.cells x'.row true false],rfl⟩).ext ⟨g7,rfl⟩).ext ⟨g8,rfl⟩;have eY:Ext K (K++g2++g3++g4++[an.cells x'.row true false]++g7++g8):=Xx;have hN:h.length<(K++g2++g3).length:=by simp only[ZL];omega
 generalize K++g2++g3++g4++[an.cells x'.row true false]++g7++g8=Y at fn3 YC oy eY ⊢;have eRY:=eR.trans eY;have sx:=zw oy eRY;have ly:=@zv h Y x' eRY;refine Rs (A7 t0 t1 @bc @sx @ly @fV @gN) ?_;have bP:Ext h (Y.set h.length (.cells x'.row true false)):=by
  obtain⟨Z,hZ⟩:=eRY;exact KV
 have hne:∀j,(K++g2++g3).length<=j->(Y.set h.length (.cells x'.row true false))[j]? =Y[j]? :=λj hj=>Z4 Om
 refine⟨bP,x',true,by rw[ea],(fn3.aB λj hj=>hne j (fn3.bB hj).1).low Om,(YC.aB λj hj=>hne j (YC.bB hj).1).low Om,λz=>(by cases z),λ_=>⟨by rw[ea],Tp,by rw[hev];omega⟩⟩
end
end Go.Abs
