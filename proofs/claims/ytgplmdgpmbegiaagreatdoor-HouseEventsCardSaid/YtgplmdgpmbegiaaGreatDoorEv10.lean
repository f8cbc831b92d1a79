/- A part of the proof that HouseEvents holds. No condition. -/
import Derived.Test.YtgplmdgpmbegiaaGreatDoorEv9
import Derived.Test.YtgplmdgpmbegiaaGreatDoorEv8
import Derived.Test.YtgplmdgpmbegiaaGreatDoorEv7
import Derived.Test.YtgplmdgpmbegiaaGreatDoorEv0
set_option maxHeartbeats 4000000
set_option linter.all false
open Nat (reduceAdd reduceMul reduceLeDiff reduceEqDiff)
namespace Go.Abs
def xE(k:Nat):ai:=(fn81).body.dr k
def DP(k:Nat):ai:=((fn81).body.dr k).hd
def NL:fn81=⟨110,1,[(2,none),(3,some (some 7)),(4,none),(5,none)],.seq (DP 0) (xE 1)⟩:=rfl
def NK:xE 1=.seq (DP 1) (xE 2):=rfl
def NJ:xE 2=.seq (DP 2) (xE 3):=rfl
def NI:xE 3=.seq (DP 3) (xE 4):=rfl
def NH:xE 4=.seq (DP 4) (xE 5):=rfl
def QS(M:Nat)(l:List eD):AV->ah->Prop:=λv k=>
 ∃(sc:AV) (V:RV) (C:List EV),v=.dL [sc,.agg V.row,.i (bn l).2.1,.i (bn l).2.2]/\aB k V/\V.an=(bn l).1.now/\ee V.an/\dW k C sc/\C.map EV.ev=(bn l).1.fe/\C.length<=1000/\∀i,some i∈V.bl->M<i
def MU(h:ah)(l:List eD):AV->ah->Prop:=λv k=>Ext h k/\QS h.length l v k
structure ME(h W:ah)(L:List EV)(k:Nat)(C:List EV)(A:List RV)(sc sa:AV):Prop where
 x:Ext h W
 b:W[h.length]? =some (.b js)
 c:aK (fL [some h.length] W) sc 5 (C.map EV.row)
 ce:∀e∈C,bh (fL [some h.length] W) e
 a:aK (fL [some h.length] W) sa 7 ((RV.zero::A).map RV.row)
 ae:∀R∈A,aB (fL [some h.length] W) R
 al:∀R∈A,∀i,some i∈R.bl->h.length<i
 w:kN ⟨(L.take k).map EV.ev,C.map EV.ev,A.map RV.an⟩
 r:bn (L.map EV.ev)=gL ⟨(L.take k).map EV.ev,C.map EV.ev,A.map RV.an⟩ ((L.drop k).map EV.ev) k
def yE{W W2 b}(e:Ext W W2):jr (fL [some b] W) (fL [some b] W2):=nG (λi hi _=>e.get hi) λ_ _ h=>h
def Bn{W b X}:jr (fL [some b] W) (W.set b X):=λi c mu tl hb=>by
 obtain⟨h1,h2⟩:=rm hb;have:i≠b:=λe=>h1 (by rw[e];simp)
 rw[Zf (aai this)];exact h2
def ME.ext{h W W2 L k C A sc sa}(s:ME h W L k C A sc sa)(e:Ext W W2):ME h W2 L k C A sc sa:=
 ⟨s.x.trans e,e.some s.b,s.c.sub (yE e),λy hy=>(s.ce y hy).sub (yE e),s.a.sub (yE e),λy hy=>(s.ae y hy).sub (yE e),s.al,s.w,s.r⟩
def Ko{h W}(e:Ext h W):jr h (fL [some h.length] W):=λi c mu tl hb=>by
 have hl:=(YU.1 hb).1;rw[uc (by intro z;simp only[Zj,Zy]at z;omega)];exact e.some hb
def BL{h k l i e}(he:e≠0)(hr:bn l=(iH.zero,i,e))(hx:Ext h k):MU h l (.dL [.af,.agg RV.zero.row,.i i,.i e]) k:=by
 refine⟨hx,.af,RV.zero,[],by rw[hr],aB.zero,by rw[hr];rfl,ee.zero,⟨.nil,λ_ h=>by cases h⟩,by rw[hr];rfl,Si,λi hi=>by simp[RV.zero,RV.bl,sB]at hi⟩
def Kk:Option AV->Option AV->Option AV->Option AV->Option AV
 |some a,some b,some c,some d=>some (.dL [a,b,c,d])
 |_,_,_,_=>none
def la{a b c d}:Kk (some a) (some b) (some c) (some d)=some (.dL [a,b,c,d]):=rfl
def gk{ts h r s t u}:cQ [r,s,t,u] ts h=Kk (dz ts h r) (dz ts h s) (dz ts h t) (dz ts h u):=by
 simp only[cQ,iU];cases dz ts h r<;>cases dz ts h s<;>cases dz ts h t<;>cases dz ts h u<;>rfl
def LR{A n}(hn:n=A.length):(RV.zero::A)[n]? =some (A.getLastD RV.zero):=by
 subst hn;rcases jA A with rfl|⟨m,y,rfl⟩
 ·rfl
 ·simp
def zZ(A:List RV):(A.getLastD RV.zero).an=(A.map RV.an).getLastD dJ.zero:=by
 rcases jA A with rfl|⟨m,y,rfl⟩
 ·rfl
 ·simp
set_option maxRecDepth 10000
attribute [local irreducible] WP WC WE WB WR WF WL WG fR WM
section
variable {P:Program}(T:fA P) {h W:ah}{ts:TS}
include T
def DO{L s}(o:dW h L s)(sh:uJ L)(hnl:∀x∈L,∀n∈x.ev.names,n.length<2^63)(hl:L.length<=1000){sa}(st:ME h W L 0 [] [] .af sa)(hlen:ts.length=110)(t0:slot ts 0=s)(t3:slot ts 3=.ptr h.length 0)(t6:slot ts 6=.af)(t7:slot ts 7=sa):
  WC P bJ (xE 4) [] ts W (FQ [(2,none),(3,some (some 7)),(4,none),(5,none)] (MU h (L.map EV.ev))):=by
 rw[NH];generalize hE:xE 5=E;unfold DP fn81;simp only[ai.j,ai.s,ai.r,ai.dr,ai.tl,ai.hd];refine Rs (A4 t0 t3 t6 t7) ?_;refine WL.inv T.mix (λm ts W=>∃(k:Nat) (C:List EV) (A:List RV) (sc sa:AV),k<=L.length/\m=L.length-k/\ME h W L k C A sc sa/\ts.length=110/\slot ts 0=s/\slot ts 3=.ptr h.length 0/\slot ts 6=sc/\slot ts 7=sa/\slot ts 8=.i k) L.length
  ⟨0,[],[],.af,sa,Om,rfl,st,Sn,(Sq t0),(Sq t3),(Sq t6),(Sq t7),fV⟩ ?_
 clear t0 t3 t6 t7 hlen st;rintro _ ts W ⟨k,C,A,sc,sa,hk,rfl,st,hlen,t0,t3,t6,t7,t8⟩;have hAC:A.length=C.length:=by have:=st.w.ln;simpa using this
 have hCl:C.length<=L.length:=by have:=st.w.le;simp only[Y7,ZQ]at this;omega
 have oW:=o.ext st.x;have Wb:=st.c.sub (jr.fL _ _);have sta:=st.a.sub (jr.fL _ _);have stae:∀R∈A,aB W R:=λR hR=>(st.ae R hR).sub (jr.fL _ _)
 obtain⟨N,hN⟩:∃N,N=A.getLastD RV.zero:=⟨_,rfl⟩;have hgN:(RV.zero::A)[C.length]? =some N:=by rw[hN];exact LR hAC.symm
 have hCA:C.length<(RV.zero::A).length:=by simp only[YX];omega
 have hgN':(RV.zero::A)[C.length]=N:=by rw[YZ hCA]at hgN;exact ZZ hgN
 have ix:bf 7 sa (.i (C.length:Int))=some (cI sa 7 C.length,.ar):=sta.c8 hCA;have ld:∀{kk:ah},Ext W kk->ao (some 7) (cI sa 7 C.length) (λb=>kk[b]?)=some (.agg N.row,.ar):=λ{kk} e=>by rw[<-hgN'];exact sta.gS hCA e
 have oN:aB (fL [some h.length] W) N:=by
  rcases jA A with hA|⟨m,y,hA⟩
  ·rw[hN,hA];exact aB.zero
  ·have:N=y:=by rw[hN,hA];simp
   rw[this];exact st.ae y (by rw[hA];simp)
 have lN:∀i,some i∈N.bl->h.length<i:=by
  rcases jA A with hA|⟨m,y,hA⟩
  ·intro i hi;rw[hN,hA]at hi;simp[RV.zero,RV.bl,sB]at hi
  ·have:N=y:=by rw[hN,hA];simp
   rw[this];exact st.al y (by rw[hA];simp)
 have hNr:N.an=(A.map RV.an).getLastD dJ.zero:=by rw[hN];exact zZ A
 have wN:ee N.an:=by rw[hNr];exact st.w.now
 have hbl:=(YU.1 st.b).1;by_cases hlt:k<L.length
 case neg=>
  have e3:=eC hlt;have e4:k=L.length:=Om
  have hr:=st.r;rw[e4,Z2]at hr;have U7:bn (L.map EV.ev)=(⟨(L.take L.length).map EV.ev,C.map EV.ev,A.map RV.an⟩,0,0):=hr;have Sc:=oN.FO st.b;have gm:=ka (W:=W) (b:=h.length) (V:=N) hbl;refine Rs (A7 t0 t3 t6 t7 t8 oW.sl.aH e3) ?_;rw[<-hE];unfold xE fn81;simp only[ai.j,ai.s,ai.r,ai.dr,ai.tl];refine Rs (AY t0 t3 t6 t7 t8 Wb.aH ix @ld @Sc @aG @gm @gk @cW @cX @la) ?_;exact⟨st.x.fX (Zc _),sc,N,C,by rw[U7],oN.sub Bn,by rw[U7,hNr];rfl,wN,⟨st.c.sub Bn,λy hy=>(st.ce y hy).sub Bn⟩,by rw[U7],Om,lN⟩
 have e3:=dM hlt;have e5:=wrapN (n:=k) Om;have ik:=oW.sl.c8 (kk:=.i64) hlt;obtain⟨x,hx⟩:∃x,x=L[k]:=⟨_,rfl⟩;have R3:x∈L:=by rw[hx];exact Zb _
 have lx:∀{kk:ah},Ext W kk->ao (some 5) (cI s 5 k) (λb=>kk[b]?)=some (.agg x.row,.ar):=λ{kk} e=>by rw[hx];exact oW.sl.gS hlt e
 have lx0:∀{kk:ah},Ext W kk->ao none (lH s 5 k 0) (λb=>kk[b]?)=some (.i x.ev.num,.ar):=λ{kk} e=>oW.sl.p6 hlt (by rw[<-hx];rfl) e
 have lx1:∀{kk:ah},Ext W kk->ao none (lH s 5 k 1) (λb=>kk[b]?)=some (.str x.ev.kind,.ar):=λ{kk} e=>oW.sl.p6 hlt (by rw[<-hx];rfl) e
 have ox:bh W x:=oW.all x R3;have hd:L.drop k=x::L.drop (k+1):=by rw[hx];simp
 have RX:(L.take (k+1)).map EV.ev=(L.take k).map EV.ev++[x.ev]:=by rw[ZJ,YZ hlt,Y9,hx];rfl
 have RH:=st.r;rw[hd,ZX,gL]at RH;obtain⟨H,hH⟩:∃H:iH,H=⟨(L.take k).map EV.ev,C.map EV.ev,A.map RV.an⟩:=⟨_,rfl⟩;rw[<-hH]at RH;have hHe:H.dm.length=k:=by rw[hH];simp only[Y7,ZQ];omega
 have wH:kN H:=by rw[hH];exact st.w
 have hNow:N.an=H.now:=by rw[hNr,hH];rfl
 have sbz:∀{kk:ah},Ext W kk->aT 7 (.ptr h.length 0) (.agg [AV.i 0,.af,.af,.af,.af,.af,.af]) (λz=>kk[z]?)=some (ay,.set h.length (.b RV.zero.row)):=λ{kk} e=>(aB.zero (h:=W)).FO (e.some st.b)
 have fin:∀{W' G:ah}{c:Int},Ext h W'->eS H x.ev=c->c≠0->MU h (L.map EV.ev) (.dL [.af,.agg RV.zero.row,.i ((k+1:Nat):Int),.i c]) (W'.set h.length (.b RV.zero.row)++G):=by
  intro W' G c e hb h0;refine BL h0 ?_ ((e.fX (Zc _)).trans ⟨G,rfl⟩);rw[RH,Zh (by rw[hb];exact h0),hb];simp
 have gmz:∀{W' G:ah},h.length<W'.length->ao (some 7) (.ptr h.length 0) (λz=>(W'.set h.length (.b RV.zero.row)++G)[z]?)=some (.agg RV.zero.row,.ar):=λ{W' G} hb=>by
  rw[az (by rw[YY (by rw[ZI];exact hb)];exact Zg hb)];rfl
 have T3:=(sh.e x R3);refine Rs (A9 t0 t3 t6 t7 t8 oW.sl.aH e3 @ik @lx) ?_;refine WF.ce T.c39 (r39 T (ox.ext Xx) ⟨Om,Om⟩ (hnl x R3)) λg1=>?_
 obtain⟨W1,TB⟩:∃Z,Z=W++g1:=⟨_,rfl⟩;rw[<-TB];have e1:Ext W W1:=⟨g1,TB⟩;have lx0:∀{kk:ah},Ext W1 kk->ao none (lH s 5 k 0) (λb=>kk[b]?)=some (.i x.ev.num,.ar):=λ{kk} e=>lx0 (e1.trans e)
 have lx1:∀{kk:ah},Ext W1 kk->ao none (lH s 5 k 1) (λb=>kk[b]?)=some (.str x.ev.kind,.ar):=λ{kk} e=>lx1 (e1.trans e)
 have lx:∀{kk:ah},Ext W1 kk->ao (some 5) (cI s 5 k) (λb=>kk[b]?)=some (.agg x.row,.ar):=λ{kk} e=>lx (e1.trans e)
 have ld:∀{kk:ah},Ext W1 kk->ao (some 7) (cI sa 7 C.length) (λb=>kk[b]?)=some (.agg N.row,.ar):=λ{kk} e=>ld (e1.trans e)
 have sbz:∀{kk:ah},Ext W1 kk->aT 7 (.ptr h.length 0) (.agg [AV.i 0,.af,.af,.af,.af,.af,.af]) (λz=>kk[z]?)=some (ay,.set h.length (.b RV.zero.row)):=λ{kk} e=>sbz (e1.trans e)
 have W9:h.length<W1.length:=by have:=e1.len;omega
 have VX:=λ{G:ah}=>gmz (G:=G) W9
 have st:=st.ext e1;have stx:=st.x;have d11:decide ((11:Int)=0)=false:=rfl;have d11':decide ((11:Int)≠0)=true:=rfl;have d12:decide ((12:Int)=0)=false:=rfl;have d21:decide ((21:Int)=0)=false:=rfl;have d12':decide ((12:Int)≠0)=true:=rfl;have d21':decide ((21:Int)≠0)=true:=rfl;have d0:decide ((0:Int)=0)=true:=rfl;have d0':decide ((0:Int)≠0)=false:=rfl;by_cases h1:eG x.ev=0
 case neg=>
  have q1:decide (eG x.ev=0)=false:=YW h1;have q2:decide (eG x.ev≠0)=true:=Y5 h1;refine Rs (AY t0 t3 t6 t7 t8 Wb.aH q1 q2 e5 @sbz @gk @cW @cX @la @VX) ?_;exact fin stx (by rw[eS,Zh h1]) h1
 have q1:decide (eG x.ev=0)=true:=Y5 h1;have q1':decide (eG x.ev≠0)=false:=YW (λz=>z h1);obtain⟨d,we⟩:=rJ h1;have hkD:=we.ju;have RK:x.ev.kind=bA d:=cA we.kd;have Wq:eS H x.ev=jv H x.ev:=by rw[eS,Za (λz=>z h1)]
 by_cases h2:x.ev.num=((k+1:Nat):Int)
 case neg=>
  have q3:decide (x.ev.num≠((k+1:Nat):Int))=true:=Y5 h2;refine Rs (Ry t0 t3 t6 t7 t8 Wb.aH q1 @ik @lx0 e5 q3 @d11 @d11' @sbz @gk @cW @cX @la @VX) ?_;exact fin stx (by rw[Wq,jv,Zh (by rw[hHe];simpa using h2)]) De
 have q3:decide (x.ev.num≠((k+1:Nat):Int))=false:=YW (λz=>z h2);have TR:¬x.ev.num≠(H.dm.length:Int)+1:=by rw[hHe];simpa using h2
 by_cases hu:d=.eZ
 case pos=>
  have hK:ju x.ev=.eZ:=by rw[hkD,hu]
  have q4:decide (bA d=[117,110,100,111])=true:=by rw[nZ,hu];rfl
  rcases jA C with hC|⟨M,c,hC⟩
  ·have q5:decide ((C.length:Int)=0)=true:=by rw[hC];rfl
   refine Rs (QU t0 t3 t6 t7 t8 Wb.aH q1 @ik @lx0 @lx1 e5 q3 @RK q4 q5 @d12 @d12' @sbz @gk @cW @cX @la @VX) ?_;refine fin (c:=12) stx ?_ De;rw[Wq,jv,Za TR,Zh hK,hH,hC];rfl
  ·have hCl2:C.length=M.length+1:=by rw[hC];simp
   have q5:decide ((C.length:Int)=0)=false:=YW Om;have w1:IntKind.i64.wrap ((C.length:Int)-1)=(M.length:Int):=by rw[bz Om Om];omega
   have hMl:M.length<C.length:=Om
   have hcM:C[M.length]=c:=by simp[hC]
   have ic:bf 5 sc (.i (M.length:Int))=some (cI sc 5 M.length,.ar):=Wb.c8 hMl;have lc:∀{kk:ah},Ext W1 kk->ao none (lH sc 5 M.length 1) (λb=>kk[b]?)=some (.str c.ev.kind,.ar):=λ{kk} e=>Wb.p6 hMl (by rw[hcM];rfl) (e1.trans e)
   obtain⟨dc,wc⟩:=st.w.cn c.ev (Zu (by rw[hC];simp));have hkc:c.ev.kind=bA dc:=cA wc.kd;have hlast:H.fe.getLast? =some c.ev:=by rw[hH,hC];simp
   by_cases hr:dc=.rel
   ·have q6:decide (bA dc=[114,101,108,101,97,115,101])=true:=by rw[qy,hr];rfl
    repeat (first|simp (config:={maxSteps:=1000000}) only[aO,aQ,aY,aZ,reduceAdd,reduceMul,reduceLeDiff,reduceEqDiff,ba,hlen,Zi,Zk,t0,t3,t6,t7,t8,Wb.aH,q1,ik,lx0,lx1,e5,q3,RK,q4,q5,w1,ic,lc,hkc,q6,d21,d21',sbz,gk,cW,cX,la,VX]|simp (config:={maxSteps:=1000000}) (disch:=first|(simp only[YT,YX,Y6]<;>omega)|rfl|omega|fail) only[dP,aO,aQ,aY,aZ,reduceAdd,reduceMul,reduceLeDiff,reduceEqDiff,ba,hlen,Zi,Zk,t0,t3,t6,t7,t8,Wb.aH,q1,ik,lx0,lx1,e5,q3,RK,q4,q5,w1,ic,lc,hkc,q6,d21,d21',sbz,gk,cW,cX,la,VX])
    refine fin (c:=21) stx ?_ De;rw[Wq,jv,Za TR,Zh hK,hlast];simp only[wc.ju,hr,Zk]
   ·have q6:decide (bA dc=[114,101,108,101,97,115,101])=false:=by rw[qy];exact YW hr
    have SZ:eS H x.ev=0:=by
     rw[Wq,jv,Za TR,Zh hK,hlast];simp only[wc.ju,hr,Zi]
    obtain⟨Sa,ec,hsc⟩:=st.c.FP (lo:=none) (hi:=some (.i (M.length:Int))) (jI Om);obtain⟨sa',ea,hsa⟩:=st.a.FP (lo:=none) (hi:=some (.i (C.length:Int))) (jI (by simp;omega));refine Rs (MV t0 t3 t6 t7 t8 Wb.aH q1 @ik @lx0 @lx1 e5 q3 @RK q4 q5 @w1 @ic @lc @hkc q6 @ec @ea) ?_;rcases jA A with hA|⟨D,R,hA⟩
    ·rw[hA]at hAC;simp only[Y6]at hAC;omega
    have hCM:List.take (M.length-0) (List.drop 0 C)=M:=by rw[hC];simp
    have hDl:D.length=M.length:=by have:=hAC;rw[hA]at this;simp only[YT,Zt]at this;omega
    have hAD:List.take (C.length-0) (List.drop 0 (RV.zero::A))=RV.zero::D:=by
     rw[hCl2,hA,Nat.sub_zero,aao,aaR,<-hDl];simp
    rw[hCM]at hsc;rw[hAD]at hsa;have Uw:kM H x.ev=⟨(L.take (k+1)).map EV.ev,M.map EV.ev,D.map RV.an⟩:=by
     rw[kM,Zh hK,hH,RX,hC,hA];simp
    refine⟨_,Om,k+1,M,D,Sa,sa',Om,rfl,⟨stx,st.b,hsc,λy hy=>st.ce y (by rw[hC];simp[hy]),hsa,λy hy=>st.ae y (by rw[hA];simp[hy]),λy hy=>st.al y (by rw[hA];simp[hy]),?_,?_⟩,rfl,rfl,rfl⟩
    ·rw[<-Uw];exact wH.add SZ
    ·rw[RH,Za (λz=>z SZ),Uw]
 case neg=>
 have hK:ju x.ev≠.eZ:=by rw[hkD];exact hu
 have q4:decide (bA d=[117,110,100,111])=false:=by rw[nZ];exact YW hu
 have hacs:eS H x.ev=gQ N.an x.ev d:=by rw[Wq,jv,Za TR,Za hK,hkD,<-hNow]
 refine Rs (Jo t0 t3 t6 t7 t8 Wb.aH q1 @ik @lx0 @lx1 @lx e5 q3 @RK q4 ix @ld) ?_;have Tu:=ox.ext e1;have oN1:aB W1 N:=(oN.sub (jr.fL _ _)).ext e1;refine WF.res T.c129 (r129 T (d:=d) (oN1.ext Xx) wN (Tu.ext Xx) we hu) ?_;rintro _ g2 ⟨V',rfl,Ye,Xj⟩;obtain⟨W2,Se⟩:∃Z,Z=W1++[ak.b [AV.i 0,.af,.af,.af,.af,.af,.af]]++g2:=⟨_,rfl⟩;rw[<-Se]at Ye ⊢;have e2:Ext W1 W2:=by rw[Se,YV];exact⟨_,rfl⟩
 have m2:W2[W1.length]? =some (.b js):=by
  rw[Se];exact(show Ext (W1++[ak.b js]) _ from⟨g2,rfl⟩).some a8
 have hl2:W1.length<W2.length:=(YU.1 m2).1;have sbn:=Ye.FO m2;obtain⟨W3,R0⟩:∃Z,Z=W2.set W1.length (.b V'.row):=⟨_,rfl⟩;have e3':Ext W1 W3:=by rw[R0];exact e2.fX (Zc _)
 have x3:Ext h W3:=stx.trans e3';have m3:W3[W1.length]? =some (.b V'.row):=by rw[R0];exact Zg hl2
 have YB:W3.length=W2.length:=by rw[R0,ZI]
 have k3:∀i,i≠W1.length->W3[i]? =W2[i]? :=λi hi=>by rw[R0,Zf (aai hi)]
 have sbz3:=sbz e3';have gmz3:ao (some 7) (.ptr h.length 0) (λz=>(W3.set h.length (.b RV.zero.row))[z]?)=some (.agg RV.zero.row,.ar):=ka Om;have mS:=st.ext e3';by_cases h5:gQ N.an x.ev d=0
 case neg=>
  have q5:decide (gQ N.an x.ev d≠0)=true:=Y5 h5;have ef:=fin (W':=W3) (G:=[]) x3 hacs h5;rw[Zr]at ef;rw[R0]at sbz3 gmz3 ef;refine Rs (zt t0 t3 t6 t7 t8 @sbn q5 e5 @sbz3 @gk @cW @cX @la @gmz3) ?_;exact ef
 have q5:decide (gQ N.an x.ev d≠0)=false:=YW (λz=>z h5);have SZ:eS H x.ev=0:=by rw[hacs,h5]
 obtain⟨hVr,hVb⟩:=Xj h5;have hVb:∀i,some i∈V'.bl->W1.length<i:=λi hi=>by have:=hVb i hi;simp only[YT,Zt]at this;omega
 refine Rs (A7 t0 t3 t6 t7 t8 @sbn q5) ?_;rw[<-R0];have stc3:=mS.c.sub (jr.fL _ _);refine WR.pG (N:=W3.length) (w:=88) a8 (Zc _) (stc3.ext Xx) (by rw[Y7];omega) λa1 y1 f1=>?_
 have p1:=f1.aW.one;obtain⟨Y,hY⟩:∃Z,Z=W3++[ak.b []]++y1:=⟨_,rfl⟩;rw[<-hY]at f1 ⊢;have eY:Ext W3 Y:=by rw[hY,YV];exact⟨_,rfl⟩
 have lxY:∀{kk:ah},Ext Y kk->ao (some 5) (cI s 5 k) (λb=>kk[b]?)=some (.agg x.row,.ar):=λ{kk} e=>lx ((e3'.trans eY).trans e)
 have bs:=@bh.Di _ _ ox;refine Rs (A9 t0 t3 t6 t7 t8 @ik @lxY @bs @p1) ?_;refine WR.pI (B:=W3) (cs:=C.map EV.row) f1 rfl eY De (by rw[Y7];omega) ?_;intro W4 s4 x4 XK hn4 q4' l4 hk4;have hrow:C.map EV.row++[x.row]=(C++[x]).map EV.row:=by rw[Y9];rfl
 rw[hrow]at XK;have st4:=mS.ext x4;have sta4:=st4.a.sub (jr.fL _ _);refine Rs (A5 t0 t3 t6 t7 t8) ?_;refine WR.pG (N:=W4.length) (w:=152) a8 (Zc _) (sta4.ext Xx) (by simp only[Y7,YX];omega) λa2 y2 f2=>?_
 have p2:=f2.aW.one;obtain⟨Y2,Uf⟩:∃Z,Z=W4++[ak.b []]++y2:=⟨_,rfl⟩;rw[<-Uf]at f2 ⊢;have UA:Ext W4 Y2:=by rw[Uf,YV];exact⟨_,rfl⟩
 have lnx:∀{kk n a},Ext Y2 kk->ao n (.ptr W1.length a) (λz=>kk[z]?)=dC n a (.b V'.row):=λ{_ _ _} e=>az (((x4.trans UA).trans e).some m3)
 have bv:=@aB.Di _ _ Ye;refine Rs (A9 t0 t3 t6 t7 t8 @lnx @aG @bv @p2) ?_;refine WR.pI (B:=W4) (cs:=(RV.zero::A).map RV.row) f2 rfl UA De (by simp only[Y7,YX];omega) ?_;intro W5 s5 x5 YH hn5 q5' l5 hk5;have hrow2:(RV.zero::A).map RV.row++[V'.row]=(RV.zero:: (A++[V'])).map RV.row:=Si
 rw[hrow2]at YH;have st5:=st4.ext x5;have oV5:aB W5 V':=((Ye.ar λi hi=>k3 i (by have:=hVb i hi;omega)).ext x4).ext x5;have Uw:kM H x.ev=⟨(L.take (k+1)).map EV.ev,(C++[x]).map EV.ev,(A++[V']).map RV.an⟩:=by
  rw[kM,Za hK,hkD,hH,RX];simp only[Y9,ZX,aaC,hVr];rw[<-hNow,hH]at *
  first|rfl|simp[hNr,iH.now]
 have hlW3:h.length<W3.length:=Om
 have hl4:W3.length<=W4.length:=x4.len;refine Rs (A6 t0 t3 t6 t7 t8 e5) ?_;refine⟨_,Om,k+1,C++[x],A++[V'],s4,s5,Om,rfl,⟨x3.trans (x4.trans x5),st5.b,(XK.ext x5).aW.fL λb hb z=>?_,λy hy=>?_,YH.aW.fL λb hb z=>?_,λR hR=>?_,λR hR=>?_,?_,?_⟩,rfl,rfl,rfl⟩
 ·have:=(XK.bP hb).1;exact z93
 ·rcases Y8.1 hy with hy|hy
  ·exact st5.ce y hy
  ·rw[Zj]at hy;rw[hy];exact(o.all x R3).sub (Ko (x3.trans (x4.trans x5)))
 ·have:=(YH.bP hb).1;exact z93
 ·rcases Y8.1 hR with hR|hR
  ·exact st5.ae R hR
  ·rw[Zj]at hR;rw[hR];exact oV5.fL λi hi z=>by
    have:=hVb i hi;exact z93
 ·rcases Y8.1 hR with hR|hR
  ·exact st5.al R hR
  ·rw[Zj]at hR;rw[hR];intro i hi;have:=hVb i hi;omega
 ·rw[<-Uw];exact wH.add SZ
 ·rw[RH,Za (λz=>z SZ),Uw]
def r81{L s}(o:dW h L s)(sh:uJ L)(hnl:∀x∈L,∀n∈x.ev.names,n.length<2^63):aA P 81 [s] h (QS h.length (L.map EV.ev)):=by
 refine .of T.mix (abn T.c81 (Zv some NL)) ?_;obtain⟨ts,RD⟩:∃ts,ts=aV 110 [s]:=⟨_,rfl⟩;have hlen:ts.length=110:=by rw[RD];rfl
 have t0:slot ts 0=s:=by rw[RD];rfl
 show WC P bJ (.seq (DP 0) (xE 1)) [] (aV 110 [s]) h (FQ [(2,none),(3,some (some 7)),(4,none),(5,none)] (MU h (L.map EV.ev)));rw[<-RD];clear RD;have hsl:=sh.l;by_cases h1:1000<L.length
 ·have q1:decide ((1000:Int)<(L.length:Int))=true:=Y5 Om;have e:bn (L.map EV.ev)=(iH.zero,0,5):=by rw[bn,Zh (by simpa using h1)]
  have m0:(h++[ak.b js])[h.length]? =some (.b js):=a8;have sbz:aT 7 (.ptr h.length 0) (.agg [AV.i 0,.af,.af,.af,.af,.af,.af]) (λz=>(h++[ak.b js])[z]?)=some (ay,.set h.length (.b RV.zero.row)):=(aB.zero (h:=h)).FO m0;unfold js at sbz;have gmz:ao (some 7) (.ptr h.length 0) (λz=>(h++[ak.b RV.zero.row])[z]?)=some (.agg RV.zero.row,.ar):=by rw[az a8];rfl
  unfold xE DP fn81;simp only[ai.j,ai.s,ai.r,ai.dr,ai.tl,ai.hd];refine Rs (A9 t0 o.sl.aH q1 @sbz @gk @cW @cX @la @gmz) ?_;exact BL De e Xx
 have q1:decide ((1000:Int)<(L.length:Int))=false:=YW Om;rw[NK,NJ,NI];generalize hR:xE 4=R;unfold DP fn81;simp only[ai.j,ai.s,ai.r,ai.dr,ai.tl,ai.hd];refine Rs (A3 t0 o.sl.aH q1) ?_;rw[<-hR];have hx:Ext h (h++[ak.b js]++[ak.cells RV.zero.row true true]):=Xx;have fz:Fr (h.length+1) (h++[ak.b js]++[ak.cells RV.zero.row true true]) (.slice (h.length+1) 0 1 7) 7 [RV.zero.row]:=by
  have:=Fr.push (h:=h++[ak.b js]) (N:=h.length+1) (es:=7) Si [RV.zero.row] (λx hx=>by rw[Zj]at hx;rw[hx];rfl)
  simpa using this
 refine DO T (sa:=.slice (h.length+1) 0 1 7) (W:=h++[ak.b js]++[ak.cells RV.zero.row true true]) o sh hnl Om ⟨hx,Si,.nil,(λ_ h=>by cases h),fz.aW.fL λb hb z=>?_,(λ_ h=>by cases h),(λ_ h=>by cases h),kN.zero,?_⟩ Sn (Sq t0) Sw Sw (by simp only[aO,aQ,aY,aZ,reduceAdd,reduceMul,reduceLeDiff,reduceEqDiff,ba,hlen,Zi,Zk];simp)
 ·have:=(fz.bP hb).1;exact z93
 ·rw[bn,Za (by simpa using h1)];rfl
end
structure Jl(L:List EV):Prop where
 n:∀x∈L,∀n∈x.ev.names,n.length<2^63
section
variable {P:Program}(T:fA P) {h:ah}
include T
def r18{L s}(o:dW h L s)(sh:uJ L)(nl:Jl L):aA P 18 [s] h (λv k=>∃V:RV,v=.dL [.agg V.row,.i (bn (L.map EV.ev)).2.1,.i (bn (L.map EV.ev)).2.2]/\aB k V/\V.an=(bn (L.map EV.ev)).1.now/\ee V.an/\∀i,some i∈V.bl->h.length<i):=by
 refine .kr 19 T.mix T.c18 ?_;intro ts hlen t0;unfold fn18 gA;refine Rs t0 ?_;refine WF.res T.c81 (r81 T (o.ext Xx) sh nl.n) ?_;rintro _ g ⟨sc,V,C,rfl,oV,hV,wV,oC,hC,hCl,lo⟩;have lo:∀i,some i∈V.bl->h.length+1<i:=λi hi=>by have:=lo i hi;simpa using this
 have st:=@aB.st _ _ oV;refine Rs (A3 t0 @st @aG) ?_;refine⟨V,rfl,?_,hV,wV,λi hi=>by have:=lo i hi;omega⟩;have:=oV.ar (k:=h++[ak.b V.row]++g) λj hj=>ug (by have:=lo j hj;omega)
 exact this.ext Xx
def r49{L s}(o:dW h L s)(sh:uJ L)(nl:Jl L){x}(ox:bh h x)(hx:x.ev.names.length<=2^30/\x.ev.cB.length<=2^30)(hn:∀n∈x.ev.names,n.length<2^63):aA P 49 [s,.agg x.row] h (λv _=>v=.i (rR (L.map EV.ev) x.ev)):=by
 refine .eF 36 T.mix T.c49 ?_;intro ts hlen t0 t1;unfold fn49 gA;have Rz:=@bh.box _ _ ox;refine Rs (A3 t0 t1 @Rz) ?_;refine WF.res T.c18 (r18 T (o.ext Xx) sh nl) ?_;rintro _ g ⟨V,rfl,oV,hV,wV,lo⟩;have st:=@aB.st _ _ oV;by_cases h1:(bn (L.map EV.ev)).2.2=0
 case neg=>
  have q1:decide ((bn (L.map EV.ev)).2.2=0)=false:=YW h1;have q2:decide ((bn (L.map EV.ev)).2.2≠0)=true:=Y5 h1;refine Rs (A5 t0 t1 @st q1 q2) ?_;rw[rR,Zh h1]
 have q1:decide ((bn (L.map EV.ev)).2.2=0)=true:=Y5 h1;obtain⟨W,hW⟩:∃Z,Z=h++[ak.b x.row]++g++[ak.b V.row]:=⟨_,rfl⟩;refine Rs (A5 t0 t1 @st q1 @bR) ?_;rw[<-hW];have eW:Ext h W:=by rw[hW];exact Xx
 have me:W[h.length]? =some (.b x.row):=by
  rw[hW];exact(show Ext (h++[ak.b x.row]) _ from Xx).some a8
 refine WF.ce T.c39 (r39 T (ox.ext eW) ⟨Om,Om⟩ hn) λg1=>?_
 by_cases h2:eG x.ev=0
 case neg=>
  have q2:decide (eG x.ev≠0)=true:=Y5 h2;refine Rs (A3 t0 t1 q2) ?_;exact⟨eW.trans ⟨g1,rfl⟩,by rw[rR,Za (λz=>z h1),Zh h2]⟩
 have q2:decide (eG x.ev≠0)=false:=YW (λz=>z h2);have hsl:=sh.l;by_cases h3:1000<=L.length
 case pos=>
  have q3:decide ((1000:Int)<=(L.length:Int))=true:=Y5 Om;refine Rs (A5 t0 t1 q2 o.sl.aH q3) ?_;exact⟨eW.trans ⟨g1,rfl⟩,by rw[rR,Za (λz=>z h1),Za (λz=>z h2),Zh (by simpa using h3)]⟩
 have q3:decide ((1000:Int)<=(L.length:Int))=false:=YW Om;obtain⟨W1,TB⟩:∃Z,Z=W++g1:=⟨_,rfl⟩;rw[<-TB];have e1:Ext W W1:=⟨g1,TB⟩;have le:∀{k n a},Ext W1 k->ao n (.ptr h.length a) (λz=>k[z]?)=dC n a (.b x.row):=λ{_ _ _} e=>az ((e1.trans e).some me)
 have bs:=@bh.Di _ _ ox;have oW:=o.ext (eW.trans e1);refine Rs (A5 t0 t1 q2 o.sl.aH q3) ?_;refine WR.pG (N:=W1.length) (w:=88) a8 (Zc _) (oW.sl.ext Xx) (by rw[Y7];omega) λa1 y1 f1=>?_
 have p1:=f1.aW.one;obtain⟨Y,hY⟩:∃Z,Z=W1++[ak.b []]++y1:=⟨_,rfl⟩;rw[<-hY]at f1 ⊢;have eY:Ext W1 Y:=by rw[hY,YV];exact⟨_,rfl⟩
 have le:∀{k n a},Ext Y k->ao n (.ptr h.length a) (λz=>k[z]?)=dC n a (.b x.row):=λ{_ _ _} e=>le (eY.trans e)
 refine Rs (A6 t0 t1 @le @bR @bs @p1) ?_;refine WR.pI (B:=W1) (cs:=L.map EV.row) f1 rfl eY De (by rw[Y7];omega) ?_;intro W4 s4 x4 XK hn4 q4' l4 hk4;have hrow:L.map EV.row++[x.row]=(L++[x]).map EV.row:=by rw[Y9];rfl
 rw[hrow]at XK;have o4:dW W4 (L++[x]) s4:=⟨XK.aW,λy hy=>by
  rcases Y8.1 hy with hy|hy
  ·exact(oW.all y hy).ext x4
  ·rw[Zj]at hy;rw[hy];exact ox.ext ((eW.trans e1).trans x4)⟩
 have sh4:uJ (L++[x]):=⟨by simp;omega,λy hy=>by
  rcases Y8.1 hy with hy|hy
  ·exact sh.e y hy
  ·rw[Zj]at hy;rw[hy];exact hx⟩
 have nl4:Jl (L++[x]):=⟨λy hy=>by
  rcases Y8.1 hy with hy|hy
  ·exact nl.n y hy
  ·rw[Zj]at hy;rw[hy];exact hn⟩
 refine Rs (A2 t0 t1) ?_;refine WF.res T.c18 (r18 T o4 sh4 nl4) ?_;rintro _ g5 ⟨V5,rfl,_⟩;refine Rs (A2 t0 t1) ?_;refine⟨(eW.trans e1).trans (x4.trans ⟨g5,rfl⟩),?_⟩;rw[rR,Za (λz=>z h1),Za (λz=>z h2),Za (by simpa using h3)];simp only[Y9,ZX,aaC]
def r66{L s}(o:dW h L s)(sh:uJ L)(nl:Jl L)(t:Int):aA P 66 [s,.i t] h (λv k=>∃V:RV,v=.dL [.agg V.row,.i (kT (L.map EV.ev) t).2]/\aB k V/\V.an=(kT (L.map EV.ev) t).1/\ee V.an):=by
 refine .eF 52 T.mix T.c66 ?_;intro ts hlen t0 t1;unfold fn66 gA;refine Rs (A2 t0 t1) ?_;refine WF.res T.c81 (r81 T (o.ext Xx) sh nl.n) ?_;rintro _ g ⟨sc,V,C,rfl,oV,hV,wV,oC,hC,hCl,lo⟩;have st:=@aB.st _ _ oV;obtain⟨W,hW⟩:∃Z,Z=h++[ak.b js]++g++[ak.b V.row]:=⟨_,rfl⟩;have eW:Ext h W:=by rw[hW];exact Xx
 have mr:W[h.length]? =some (.b js):=by rw[hW];exact(show Ext (h++[ak.b js]) _ from Xx).some a8
 have hbl:=(YU.1 mr).1;have oC:dW W C sc:=oC.ext (by rw[hW];exact Ext.app _ (Ext.refl _));have sbz:∀{kk:ah},Ext W kk->aT 7 (.ptr h.length 0) (.agg [AV.i 0,.af,.af,.af,.af,.af,.af]) (λz=>kk[z]?)=some (ay,.set h.length (.b RV.zero.row)):=λ{kk} e=>(aB.zero (h:=W)).FO (e.some mr)
 have gmz:∀{G:ah},ao (some 7) (.ptr h.length 0) (λz=>(W.set h.length (.b RV.zero.row)++G)[z]?)=some (.agg RV.zero.row,.ar):=λ{G}=>by
  rw[az (by rw[YY (by rw[ZI];exact hbl)];exact Zg hbl)];rfl
 have gmz0:ao (some 7) (.ptr h.length 0) (λz=>(W.set h.length (.b RV.zero.row))[z]?)=some (.agg RV.zero.row,.ar):=ka hbl;unfold js at hW;refine Rs (A3 t0 t1 @st) ?_;rw[<-hW];by_cases h1:(bn (L.map EV.ev)).2.2=0
 case neg=>
  have q1:decide ((bn (L.map EV.ev)).2.2≠0)=true:=Y5 h1;refine Rs (A5 t0 t1 q1 @sbz @gmz0) ?_;have hq:kT (L.map EV.ev) t=(dJ.zero,(bn (L.map EV.ev)).2.2):=by
   have:aS [(bn (L.map EV.ev)).2.2,hO t]=(bn (L.map EV.ev)).2.2:=by rw[aS,Za h1]
   rw[kT,this,Zh h1]
  exact⟨eW.fX (Zc _),RV.zero,by rw[hq],aB.zero,by rw[hq];rfl,ee.zero⟩
 have q1:decide ((bn (L.map EV.ev)).2.2≠0)=false:=YW (λz=>z h1);refine Rs (A3 t0 t1 q1) ?_;refine WF.ce T.c20 (r20 T _ _ _) λg1=>?_
 by_cases h2:bu t 0 999999999=0
 case neg=>
  have q2:decide (bu t 0 999999999≠0)=true:=Y5 h2;refine Rs (A5 t0 t1 q2 @sbz @gmz) ?_;have hq:kT (L.map EV.ev) t=(dJ.zero,3):=by
   have h3:=tW h2;have:aS [(bn (L.map EV.ev)).2.2,hO t]=3:=by rw[aS,Zh h1,aS,hO,h3];rfl
   rw[kT,this,Zh De]
  exact⟨(eW.fX (Zc _)).trans ⟨g1,rfl⟩,RV.zero,by rw[hq],aB.zero,by rw[hq];rfl,ee.zero⟩
 have q2:decide (bu t 0 999999999≠0)=false:=YW (λz=>z h2);have hq:kT (L.map EV.ev) t=((C.map EV.ev).foldl (tK t) dJ.zero,0):=by
  have:aS [(bn (L.map EV.ev)).2.2,hO t]=0:=by rw[aS,Zh h1,aS,hO,Zh h2];rfl
  rw[kT,this,Za (λz=>z rfl),hC,CV h1]
 obtain⟨chn,wH⟩:=yM h1;have hok:=chn.ok;rw[<-hC]at hok;obtain⟨W1,TB⟩:∃Z,Z=W++g1:=⟨_,rfl⟩;rw[<-TB];have e1:Ext W W1:=⟨g1,TB⟩;have oC:=oC.ext e1;have mr1:=e1.some mr;obtain⟨b,hb⟩:∃b,b=W1.length:=⟨_,rfl⟩;have hhb:h.length<b:=by have:=e1.len;omega
 refine Rs (A3 t0 t1 q2) ?_;rw[<-hb];refine WL.inv T.mix (λm ts K=>∃(k:Nat) (U:RV),k<=C.length/\m=C.length-k/\Ext W1 K/\K[b]? =some (.b U.row)/\aB K U/\(∀i,some i∈U.bl->b<i)/\U.an=((C.take k).map EV.ev).foldl (tK t) dJ.zero/\ts.length=52/\slot ts 1=.i t/\slot ts 4=.ptr h.length 0/\slot ts 6=sc/\slot ts 10=.ptr b 0/\slot ts 11=.i k) C.length
  ⟨0,RV.zero,Om,rfl,⟨_,rfl⟩,by rw[hb];exact a8,aB.zero,(λi hi=>by simp[RV.zero,RV.bl,sB]at hi),rfl,Sn,(Sq t1),Sw,Sw,Sw,fV⟩ ?_
 clear t0 t1 hlen;rintro _ ts K ⟨k,U,hk,rfl,xK,mK,oU,hU,hUr,hlen,t1,t4,t6,t10,t11⟩;have oK:=oC.ext xK;have lr:=@dG _ _ _ mK;by_cases hlt:k<C.length
 ·have e3:=dM hlt;have e5:=wrapN (n:=k) Om;have ik:=oK.sl.c8 (kk:=.i64) hlt;obtain⟨x,hx⟩:∃x,x=C[k]:=⟨_,rfl⟩;have R3:x∈C:=by rw[hx];exact Zb _
  have ox:bh K x:=oK.all x R3;have lx:∀{kk:ah},Ext K kk->ao (some 5) (cI sc 5 k) (λb=>kk[b]?)=some (.agg x.row,.ar):=λ{kk} e=>by rw[hx];exact oK.sl.gS hlt e
  have lx3:∀{kk:ah},Ext K kk->ao none (lH sc 5 k 3) (λb=>kk[b]?)=some (x.sv,.ar):=λ{kk} e=>oK.sl.p6 hlt (by rw[<-hx];rfl) e
  have U6:C.map EV.ev=(C.take k).map EV.ev++x.ev:: (C.drop (k+1)).map EV.ev:=by
   have:C=C.take k++C[k]::C.drop (k+1):=by rw[<-aaI hlt,aal]
   conv=>lhs;rw[this]
   rw[Y9,ZX,hx]
  have RX:(C.take (k+1)).map EV.ev=(C.take k).map EV.ev++[x.ev]:=by rw[ZJ,YZ hlt,Y9,hx];rfl
  rw[U6]at hok;obtain⟨w1,⟨d,we,hd⟩,w3⟩:=rO _ _ dJ.zero x.ev t hok ee.zero;rw[<-hUr]at w1 w3;rw[we.ju]at w3;have Yn:0<cE d:=by cases d<;>first|exact absurd rfl hd|decide
  obtain⟨j0,f0,_⟩:=cR ox we 0 0 rfl Yn;by_cases h5:bF x.ev 0<=t
  ·have q5:decide (bF x.ev 0<=t)=true:=Y5 h5;have he:=w3 h5;refine Rs (AY t1 t4 t6 t10 t11 oK.sl.aH e3 @ik @lx3 @j0 @f0 q5 @lr @aG @lx) ?_;refine WF.res T.c129 (r129 T (d:=d) oU w1 ox we hd) ?_;rintro _ g2 ⟨V2,rfl,Wy,hV2⟩;obtain⟨SN,Sl⟩:=hV2 he;have hKb:b<K.length:=(YU.1 mK).1;have m2:(K++g2)[b]? =some (.b U.row):=(show Ext K (K++g2)from⟨_,rfl⟩).some mK;have sb2:=Wy.QO m2;refine Rs (A7 t1 t4 t6 t10 t11 @sb2 e5) ?_;have Tr:List.set K b (.b V2.row)++g2=(K++g2).set b (.b V2.row):=by rw[abl _ _ hKb]
   rw[Tr];refine⟨_,Om,k+1,V2,Om,rfl,(xK.trans ⟨g2,rfl⟩).fX Om,Zg (by simp;omega),Wy.ar λi hi=>by rw[Zf (by have:=Sl i hi;omega)],λi hi=>by have:=Sl i hi;omega,?_,rfl⟩;rw[RX,aaO,<-hUr,SN];show _=tK t U.an x.ev;rw[tK,Zh h5,we.ju]
  ·have q5:decide (bF x.ev 0<=t)=false:=YW h5;refine Rs (FK t1 t4 t6 t10 t11 oK.sl.aH e3 @ik @lx3 @j0 @f0 q5 e5) ?_;refine⟨_,Om,k+1,U,Om,rfl,xK,mK,oU,hU,?_,rfl⟩;rw[RX,aaO,<-hUr];show _=tK t U.an x.ev;rw[tK,Za h5]
 ·have e3:=eC hlt;have e4:k=C.length:=Om
  rw[e4,ZD]at hUr;have mrK:=xK.some mr1;have Sc:=oU.FO mrK;have hKh:h.length<K.length:=(YU.1 mrK).1;have gm:=ka (W:=K) (b:=h.length) (V:=U) hKh;refine Rs (mN t1 t4 t6 t10 t11 oK.sl.aH e3 @lr @aG @Sc @gm) ?_;refine⟨((eW.trans e1).trans xK).fX (Zc _),U,by rw[hq],oU.ar λi hi=>by rw[Zf (by have:=hU i hi;omega)],by rw[hq,hUr],?_⟩;rw[hUr];exact IF hok ee.zero
end
def yH(e:eD):Bool:=decide (e.kind.length<=40)&&decide (e.names.length<=6)&&decide (e.cB.length<=8)&&decide (e.text.length<=200)&&e.names.all λx=>decide (x.length<=40)
section
variable {P:Program}(T:fA P) {h:ah}
include T
def r14{L s}(o:dW h L s)(hl:L.length<2^63)(hn:∀x∈L,x.ev.names.length<2^63){n}(h0:n<=1000):aA P 14 [s,.i n] h (λv _=>v=.bool (lh (L.map EV.ev) n)):=by
 refine .eF 71 T.mix T.c14 ?_;intro ts hlen t0 t1;unfold fn14 gA;by_cases h1:n<L.length
 ·have q1:decide (n<(L.length:Int))=true:=Y5 h1;refine Rs (A4 t0 t1 o.sl.aH q1) ?_;rw[lh,YW (by simpa using h1)];rfl
 have q1:decide (n<(L.length:Int))=false:=YW h1;have hsh:lh (L.map EV.ev) n=L.all (λy=>yH y.ev):=by
  rw[lh,Y5 (by simp;omega),aav,List.all_map];rfl
 rw[hsh];refine Rs (A4 t0 t1 o.sl.aH q1) ?_;refine WL.inv T.mix (λm ts h'=>∃k:Nat,k<=L.length/\m=L.length-k/\h' =h/\L.all (λy=>yH y.ev)=(L.drop k).all (λy=>yH y.ev)/\ts.length=71/\slot ts 0=s/\slot ts 5=.i k) L.length
  ⟨0,Om,rfl,rfl,rfl,Sn,(Sq t0),fV⟩ ?_
 clear t0 t1 hlen;rintro _ ts h' ⟨k,hk,rfl,rfl,hi,hlen,t0,t5⟩;by_cases hlt:k<L.length
 case neg=>
  have e3:=eC hlt;have e4:k=L.length:=Om
  rw[e4,Z2]at hi;refine Rs (A4 t0 t5 o.sl.aH e3) ?_;rw[hi];rfl
 have e3:=dM hlt;have e5:=wrapN (n:=k) Om;have ik:=o.sl.c8 (kk:=.i64) hlt;obtain⟨x,hx⟩:∃x,x=L[k]:=⟨_,rfl⟩;have R3:x∈L:=by rw[hx];exact Zb _
 have ox:=o.all x R3;have hd:L.drop k=x::L.drop (k+1):=by rw[hx];simp
 rw[hd,aau]at hi;have l1:∀{kk:ah},Ext h' kk->ao none (lH s 5 k 1) (λb=>kk[b]?)=some (.str x.ev.kind,.ar):=λ{kk} e=>o.sl.p6 hlt (by rw[<-hx];rfl) e
 have l2:∀{kk:ah},Ext h' kk->ao none (lH s 5 k 2) (λb=>kk[b]?)=some (x.sn,.ar):=λ{kk} e=>o.sl.p6 hlt (by rw[<-hx];rfl) e
 have l3:∀{kk:ah},Ext h' kk->ao none (lH s 5 k 3) (λb=>kk[b]?)=some (x.sv,.ar):=λ{kk} e=>o.sl.p6 hlt (by rw[<-hx];rfl) e
 have l4:∀{kk:ah},Ext h' kk->ao none (lH s 5 k 4) (λb=>kk[b]?)=some (.str x.ev.text,.ar):=λ{kk} e=>o.sl.p6 hlt (by rw[<-hx];rfl) e
 have dc:∀a b:Nat,decide ((b:Int)<(a:Int))= !decide (a<=b):=λa b=>by
  by_cases hc:a<=b
  ·rw[Y5 hc,YW Om];rfl
  ·rw[YW hc,Y5 Om];rfl
 have c1:decide ((40:Int)<(x.ev.kind.length:Int))= !decide (x.ev.kind.length<=40):=dc _ 40;have c2:decide ((6:Int)<(x.ev.names.length:Int))= !decide (x.ev.names.length<=6):=dc _ 6;have c3:decide ((8:Int)<(x.ev.cB.length:Int))= !decide (x.ev.cB.length<=8):=dc _ 8;have c4:decide ((200:Int)<(x.ev.text.length:Int))= !decide (x.ev.text.length<=200):=dc _ 200;have bad:yH x.ev=false->L.all (λy=>yH y.ev)=false:=λhb=>by rw[hi,hb];rfl
 by_cases b1:x.ev.kind.length<=40
 case neg=>
  have d1:decide (x.ev.kind.length<=40)=false:=YW b1;refine Rs (A9 t0 t5 o.sl.aH e3 @ik @l1 @c1 @d1 @Zz) ?_;rw[bad (by simp only[yH,d1,abc])]
 have d1:decide (x.ev.kind.length<=40)=true:=Y5 b1;by_cases b2:x.ev.names.length<=6
 case neg=>
  have d2:decide (x.ev.names.length<=6)=false:=YW b2;refine Rs (zt t0 t5 o.sl.aH e3 @ik @l1 @l2 @c1 @d1 @c2 @d2 ox.n.aH @Zz @Zw) ?_;rw[bad (by simp only[yH,d2,Bool.and_false,abc])]
 have d2:decide (x.ev.names.length<=6)=true:=Y5 b2;by_cases b3:x.ev.cB.length<=8
 case neg=>
  have d3:decide (x.ev.cB.length<=8)=false:=YW b3;refine Rs (GG t0 t5 o.sl.aH e3 @ik @l1 @l2 @l3 @c1 @d1 @c2 @d2 @c3 @d3 ox.n.aH ox.v.aH @Zz @Zw) ?_;rw[bad (by simp only[yH,d3,Bool.and_false,abc])]
 have d3:decide (x.ev.cB.length<=8)=true:=Y5 b3;by_cases b4:x.ev.text.length<=200
 case neg=>
  have d4:decide (x.ev.text.length<=200)=false:=YW b4;refine Rs (QV t0 t5 o.sl.aH e3 @ik @l1 @l2 @l3 @l4 @c1 @d1 @c2 @d2 @c3 @d3 @c4 @d4 ox.n.aH ox.v.aH @Zz @Zw) ?_;rw[bad (by simp only[yH,d4,Bool.and_false,abc])]
 have d4:decide (x.ev.text.length<=200)=true:=Y5 b4;have Yr:yH x.ev=x.ev.names.all λz=>decide (z.length<=40):=by simp only[yH,d1,d2,d3,d4,aav]
 rw[Yr]at hi bad;refine Rs (P8 t0 t5 o.sl.aH e3 @ik @l1 @l2 @l3 @l4 @c1 @d1 @c2 @d2 @c3 @d3 @c4 @d4 ox.n.aH ox.v.aH @Zw) ?_;refine WL.inv T.mix (λm ts h1=>∃j:Nat,j<=x.ev.names.length/\m=x.ev.names.length-j/\h1=h'/\(x.ev.names.all λz=>decide (z.length<=40))=(x.ev.names.drop j).all (λz=>decide (z.length<=40))/\ts.length=71/\slot ts 0=s/\slot ts 5=.i k/\slot ts 6=.i j) x.ev.names.length
  ⟨0,Om,rfl,rfl,rfl,Sn,(Sq t0),(Sq t5),fV⟩ ?_
 clear t0 t5 hlen;rintro _ ts h1 ⟨j,hj,rfl,rfl,hij,hlen,t0,t5,t6⟩;by_cases T5:j<x.ev.names.length
 ·have f3:decide ((j:Int)<x.ev.names.length)=true:=Y5 Om;have f5:IntKind.i64.wrap ((j:Int)+1)=((j+1:Nat):Int):=wrapN Om;have ij:=ox.n.c8 (kk:=.i64) T5;have ln:=ox.n.kS (i:=j) (x:=.str x.ev.names[j]) T5 rfl (Ext.refl _);have c5:decide ((40:Int)<(x.ev.names[j].length:Int))= !decide (x.ev.names[j].length<=40):=dc _ 40;have Ut:x.ev.names.drop j=x.ev.names[j]::x.ev.names.drop (j+1):=Si
  rw[Ut,aau]at hij;cases hz:decide (x.ev.names[j].length<=40)with
  |true=>
   rw[hz,aav]at hij
   repeat (first|simp (config:={maxSteps:=1000000}) only[aO,aQ,aY,aZ,reduceAdd,reduceMul,reduceLeDiff,reduceEqDiff,ba,hlen,Zi,Zk,t0,t5,t6,ik,l2,ox.n.aH,f3,ij,ln,c5,hz,Zw,f5]|simp (config:={maxSteps:=1000000}) (disch:=first|(simp only[YT,YX,Y6]<;>omega)|rfl|omega|fail) only[dP,aO,aQ,aY,aZ,reduceAdd,reduceMul,reduceLeDiff,reduceEqDiff,ba,hlen,Zi,Zk,t0,t5,t6,ik,l2,ox.n.aH,f3,ij,ln,c5,hz,Zw,f5])
   exact⟨_,Om,j+1,Om,rfl,hij,rfl⟩
  |false=>
   rw[hz,abc]at hij
   repeat (first|simp (config:={maxSteps:=1000000}) only[aO,aQ,aY,aZ,reduceAdd,reduceMul,reduceLeDiff,reduceEqDiff,ba,hlen,Zi,Zk,t0,t5,t6,ik,l2,ox.n.aH,f3,ij,ln,c5,hz,Zz]|simp (config:={maxSteps:=1000000}) (disch:=first|(simp only[YT,YX,Y6]<;>omega)|rfl|omega|fail) only[dP,aO,aQ,aY,aZ,reduceAdd,reduceMul,reduceLeDiff,reduceEqDiff,ba,hlen,Zi,Zk,t0,t5,t6,ik,l2,ox.n.aH,f3,ij,ln,c5,hz,Zz])
   rw[bad hij]
 ·have f3:decide ((j:Int)<x.ev.names.length)=false:=YW Om;have f4:j=x.ev.names.length:=Om
  rw[f4,Z2]at hij;rw[hij,List.all_nil,aav]at hi;refine Rs (A8 t0 t5 t6 @ik @l2 ox.n.aH @f3 e5) ?_;exact⟨_,Om,k+1,Om,rfl,hi,rfl⟩
end
theorem qv{α:Type}{row:α->List AV}{Q:α->Prop}:∀{cs:List (List AV)},(∀c∈cs,∃x,c=row x/\Q x)->∃L:List α,cs=L.map row/\∀x∈L,Q x
 |[],_=>⟨[],rfl,λ_ h=>by cases h⟩
 |c::cs,h=>by
  obtain⟨x,rfl,hx⟩:=h c (ZU ..);obtain⟨L,rfl,hL⟩:=qv (cs:=cs) λc hc=>h c (ZH _ hc)
  exact⟨x::L,rfl,λy hy=>(ZG.1 hy).elim (λe=>e▸hx) (hL y)⟩
def jg{n}(h:n<=maxLen):n<2^63:=by unfold maxLen at h;omega
def wZ{h k a}(x:TY h (.int k) a):∃z,a=.int k z/\(Lit.int k z).wf=true:=by rw[TY]at x;exact x
def wY{h a}(x:TY h .str a):∃s:By,a=.str s/\s.length<=maxLen:=by rw[TY]at x;exact x
def Bi{h r a}(x:TY h (.sl r) a):∃cs:List (List AV),aK h a r.length cs/\cs.length<=maxLen/\∀c∈cs,jd h r c:=by rw[TY]at x;exact x
def tP{h l}(x:jd h [] l):l=[]:=by rw[jd]at x;exact x
def jj{h t ts l}(x:jd h (t::ts) l):∃a l',l=a::l'/\TY h t a/\jd h ts l':=by rw[jd]at x;exact x
def Bh{h l}(x:sH h [] l):l=[]:=by rw[sH]at x;exact x
def ph{h t ts l}(x:sH h (t::ts) l):∃a l',l=a::l'/\FG h t a/\sH h ts l':=by rw[sH]at x;exact x
def Dq{h k a}(x:FG h (.one (.int k)) a):∃z,a=.int k z/\(Lit.int k z).wf=true:=wZ (h:=h) x
def Ds{h:ah}{a:AV}(x:TY h (.sl [.str]) a):∃L:List (By),aK h a 1 (L.map aq)/\L.length<=maxLen/\∀s∈L,s.length<=maxLen:=by
 obtain⟨cs,hs,hl,hc⟩:=Bi x;obtain⟨L,rfl,hL⟩:=qv (row:=aq) (Q:=λs=>s.length<=maxLen) λc Wp=>by
  obtain⟨_,_,rfl,h1,x⟩:=jj (hc c Wp);obtain rfl:=tP x;obtain⟨s,rfl,hs⟩:=wY h1;exact⟨s,rfl,hs⟩
 exact⟨L,hs,by simpa using hl,hL⟩
def Dt{h:ah}{a:AV}(x:TY h (.sl [.int .i64]) a):∃L:List Int,aK h a 1 (L.map aL)/\L.length<=maxLen/\∀z∈L,(Lit.int .i64 z).wf=true:=by
 obtain⟨cs,hs,hl,hc⟩:=Bi x;obtain⟨L,rfl,hL⟩:=qv (row:=aL) (Q:=λz=>(Lit.int .i64 z).wf=true) λc Wp=>by
  obtain⟨_,_,rfl,h1,x⟩:=jj (hc c Wp);obtain rfl:=tP x;obtain⟨s,rfl,hs⟩:=wZ h1;exact⟨s,rfl,hs⟩
 exact⟨L,hs,by simpa using hl,hL⟩
def yh:List CT:=[.int .i64,.str,.sl [.str],.sl [.int .i64],.str]
structure Dd(x:EV):Prop where
 n:x.ev.names.length<2^63
 v:x.ev.cB.length<2^63
 nn:∀n∈x.ev.names,n.length<2^63
 i:(Lit.int .i64 x.ev.num).wf=true
 k:x.ev.kind.length<2^63
 t:x.ev.text.length<2^63
 iv:∀z∈x.ev.cB,(Lit.int .i64 z).wf=true
def Bg{h c}(x:jd h yh c):∃y:EV,c=y.row/\bh h y/\Dd y:=by
 obtain⟨_,_,rfl,h1,x⟩:=jj x;obtain⟨_,_,rfl,h2,x⟩:=jj x;obtain⟨sn,_,rfl,h3,x⟩:=jj x;obtain⟨sv,_,rfl,h4,x⟩:=jj x;obtain⟨_,_,rfl,h5,x⟩:=jj x;obtain rfl:=tP x;obtain⟨n,rfl,hn⟩:=wZ h1;obtain⟨k,rfl,hk⟩:=wY h2;obtain⟨N,hN,hNl,hNs⟩:=Ds h3;obtain⟨W,hW,hWl,hWs⟩:=Dt h4;obtain⟨t,rfl,ht⟩:=wY h5;exact⟨⟨⟨n,k,N,W,t⟩,sn,sv⟩,rfl,⟨hN,hW⟩,⟨jg hNl,jg hWl,λs hs=>jg (hNs s hs),hn,jg hk,jg ht,hWs⟩⟩
def G2{h a}(x:FG h (.agg yh) a):∃y:EV,a=.agg y.row/\bh h y/\Dd y:=by
 obtain⟨l,rfl,x⟩:=x;obtain⟨y,rfl,o⟩:=Bg x;exact⟨y,rfl,o⟩
structure GB(L:List EV):Prop where
 l:L.length<2^63
 e:∀x∈L,Dd x
def Dr{h:ah}{a:AV}(x:FG h (.one (.sl yh)) a):∃L:List EV,dW h L a/\GB L:=by
 obtain⟨cs,hs,hl,hc⟩:=Bi (h:=h) x;obtain⟨L,rfl,hL⟩:=qv (row:=EV.row) (Q:=λy=>bh h y/\Dd y) λc Wp=>Bg (hc c Wp)
 exact⟨L,⟨hs,λy hy=>(hL y hy).1⟩,⟨jg (by simpa using hl),λy hy=>(hL y hy).2⟩⟩
def vc{L n}(h:lh (L.map EV.ev) n=true)(hn:n<=1000):uJ L/\Jl L/\L.length<=1000/\∀x∈L,yH x.ev=true:=by
 rw[lh,ZE,ZO,Y7]at h;have ha:∀x∈L,yH x.ev=true:=λx hx=>ZC.1 h.2 _ (Zu hx)
 have key:∀x∈L,x.ev.names.length<=6/\x.ev.cB.length<=8/\∀n∈x.ev.names,n.length<=40:=λx hx=>by
  have:=ha x hx;simp only[yH,ZE,ZO,ZC]at this;exact⟨this.1.1.1.2,this.1.1.2,this.2⟩
 refine⟨⟨Om,λx hx=>?_⟩,⟨λx hx n hn=>?_⟩,Om,ha⟩
 ·have:=key x hx;omega
 ·have:=(key x hx).2.2 n hn;omega
section
variable {P:Program}(T:fA P) {h:ah}
include T
def QT(h:ah):AV->ah->Prop:=λv k=>Ext h k/\v=.bool true
end
section
variable {P:Program}(T:fA P) {h:ah}
include T
end
def o9(k:Nat):ai:=(fn46).body.dr k
def uY(k:Nat):ai:=((fn46).body.dr k).hd
def Ny:o9 2=.seq (uY 2) (o9 3):=rfl
def Nx:o9 3=.seq (uY 3) (o9 4):=rfl
def Nw:o9 4=.seq (uY 4) (o9 5):=rfl
def Nv:o9 5=.seq (uY 5) (o9 6):=rfl
def Nu:o9 6=.seq (uY 6) (o9 7):=rfl
def Nt:o9 7=.seq (uY 7) (o9 8):=rfl
def Nz:fn46=⟨248,2,[(4,none)],.seq (uY 0) (.seq (uY 1) (o9 2))⟩:=rfl
def Gv{x:gZ}:nv true (mz (.agg [.s,.i,.b]) (.agg (bG x)) (.agg (bG x)))=some (.bool false):=by
 rw[MR rfl rfl];simp[bG,c6,cT,nv]
def Gt{x:rX}:nv true (mz (.agg [.s,.i]) (.agg (cp x)) (.agg (cp x)))=some (.bool false):=by
 rw[MR rfl rfl];simp[cp,c6,cT,nv]
def Gu{x:qm}:nv true (mz (.agg [.s,.s,.i,.b]) (.agg (cw x)) (.agg (cw x)))=some (.bool false):=by
 rw[MR rfl rfl];simp[cw,c6,cT,nv]
def I4(h:ah):AV->ah->Prop:=λv k=>Ext h k/\v=.bool true
def x9{α β:Type}{l m:List (α×β)}(h:l.map Prod.fst=m.map Prod.fst){k:Nat}(a:k<l.length)(b:k<m.length):m[k].1=l[k].1:=by
 have h1:(l.map Prod.fst)[k]? =some l[k].1:=by rw[aaf,YZ a];rfl
 rw[h,aaf,YZ b]at h1;exact ZZ h1
def ne_self{α:Type}[DecidableEq α](a:α):decide (a≠a)=false:=Si
section
variable {P:Program}(T:fA P) {h K:ah}{ts:TS}{V U:RV}{b c:Nat}(o:aB K V) (p:aB K U) (e:V.an=U.an) (w:ee V.an) (eh:Ext h K) (mv:K[b]? =some (.cells V.row true false)) (mu:K[c]? =some (.cells U.row true false))
include T o p e w eh mv mu
def Q2{W:ah}(eW:Ext K W)(hlen:ts.length=248)(t2:slot ts 2=.ptr b 0)(t3:slot ts 3=.ptr c 0):WC P bJ (o9 7) [] ts W (FQ [(4,none)] (I4 h)):=by
 have hL:V.aI.length<=16:=by have:=w.l5;simpa [RV.an]using this
 have he:V.aI=U.aI:=Zv dJ.aI e;have hU:V.aI.length=U.aI.length:=Zv List.length he;rw[Nt];generalize hR:o9 8=R;unfold uY fn46;simp only[ai.j,ai.s,ai.r,ai.dr,ai.tl,ai.hd];refine Rs (A2 t2 t3) ?_;refine WL.inv T.mix (λm ts h'=>∃k:Nat,k<=V.aI.length/\m=V.aI.length-k/\Ext K h'/\ts.length=248/\slot ts 2=.ptr b 0/\slot ts 3=.ptr c 0/\slot ts 16=.int .i64 k) V.aI.length
  ⟨0,Om,rfl,eW,Sn,(Sq t2),(Sq t3),fV⟩ ?_
 clear t2 t3 hlen eW;rintro _ ts W ⟨k,hk,rfl,eW,hlen,t2,t3,t16⟩;have lv:=@dG _ _ _ (eW.some mv);have lu:=@dG _ _ _ (eW.some mu);have oW:=o.ext eW;have pW:=p.ext eW;by_cases hlt:k<V.aI.length
 ·have SK:k<U.aI.length:=Om
  have e3:=dM hlt;have e5:=wrapN (n:=k) Om;have ix:=oW.i5.c8 (kk:=.i64) hlt;have iy:=pW.i5.c8 (kk:=.i64) SK;obtain⟨x,hx⟩:∃x,x=V.aI[k]:=⟨_,rfl⟩;have dx:∀{k':ah},Ext W k'->ao (some 4) (cI V.s5 4 k) (λb=>k'[b]?)=some (.agg (cw x),.ar):=λ{k'} e=>by rw[hx];exact oW.i5.gS hlt e
  have dy:∀{k':ah},Ext W k'->ao (some 4) (cI U.s5 4 k) (λb=>k'[b]?)=some (.agg (cw x),.ar):=λ{k'} e=>by
   have:x=U.aI[k]:=by rw[hx];simp only[he]
   rw[this];exact pW.i5.gS SK e
  repeat (first|simp (config:={maxSteps:=1000000}) only[aO,aQ,aY,aZ,reduceAdd,reduceMul,reduceLeDiff,reduceEqDiff,ba,hlen,Zi,Zk,t2,t3,t16,e3,oW.i5.aH,lv,lu,fy,ix,iy,dx,dy,Gu,e5]|simp (config:={maxSteps:=1000000}) (disch:=first|(simp only[YT,YX,Y6]<;>omega)|rfl|omega|fail) only[dP,aO,aQ,aY,aZ,reduceAdd,reduceMul,reduceLeDiff,reduceEqDiff,ba,hlen,Zi,Zk,t2,t3,t16,e3,oW.i5.aH,lv,lu,fy,ix,iy,dx,dy,Gu,e5])
  exact GP
 ·have e3:=eC hlt
  repeat (first|simp (config:={maxSteps:=1000000}) only[aO,aQ,aY,aZ,reduceAdd,reduceMul,reduceLeDiff,reduceEqDiff,ba,hlen,Zi,Zk,t2,t3,t16,e3,oW.i5.aH,lv,fy]|simp (config:={maxSteps:=1000000}) (disch:=first|(simp only[YT,YX,Y6]<;>omega)|rfl|omega|fail) only[dP,aO,aQ,aY,aZ,reduceAdd,reduceMul,reduceLeDiff,reduceEqDiff,ba,hlen,Zi,Zk,t2,t3,t16,e3,oW.i5.aH,lv,fy])
  rw[<-hR];unfold o9 fn46;simp only[ai.j,ai.s,ai.r,ai.dr,ai.tl,ai.hd];refine Rs t2 ?_;exact⟨eh.trans eW,rfl⟩
def Q3{W:ah}(eW:Ext K W)(hlen:ts.length=248)(t2:slot ts 2=.ptr b 0)(t3:slot ts 3=.ptr c 0):WC P bJ (o9 6) [] ts W (FQ [(4,none)] (I4 h)):=by
 have hL:V.aF.length<=16:=by have:=w.l4;simpa [RV.an]using this
 have he:V.aF.map Prod.fst=U.aF.map Prod.fst:=Zv dJ.aF e;have hU:V.aF.length=U.aF.length:=by have:=Zv List.length he;simpa using this
 rw[Nu];generalize hR:o9 7=R;unfold uY fn46;simp only[ai.j,ai.s,ai.r,ai.dr,ai.tl,ai.hd];refine Rs (A2 t2 t3) ?_;refine WL.inv T.mix (λm ts h'=>∃k:Nat,k<=V.aF.length/\m=V.aF.length-k/\Ext K h'/\ts.length=248/\slot ts 2=.ptr b 0/\slot ts 3=.ptr c 0/\slot ts 13=.int .i64 k) V.aF.length
  ⟨0,Om,rfl,eW,Sn,(Sq t2),(Sq t3),fV⟩ ?_
 clear t2 t3 hlen eW;rintro _ ts W ⟨k,hk,rfl,eW,hlen,t2,t3,t13⟩;have lv:=@dG _ _ _ (eW.some mv);have lu:=@dG _ _ _ (eW.some mu);have oW:=o.ext eW;have pW:=p.ext eW;by_cases hlt:k<V.aF.length
 ·have SK:k<U.aF.length:=Om
  have e3:=dM hlt;have e5:=wrapN (n:=k) Om;have ix:=oW.i4.c8 (kk:=.i64) hlt;have iy:=pW.i4.c8 (kk:=.i64) SK;obtain⟨x,hx⟩:∃x,x=V.aF[k]:=⟨_,rfl⟩;have dx:∀{k':ah},Ext W k'->ao (some 3) (cI V.s4 3 k) (λb=>k'[b]?)=some (.agg (bB x),.ar):=λ{k'} e=>by rw[hx];exact oW.i4.gS hlt e
  obtain⟨y,hy⟩:∃y,y=U.aF[k]:=⟨_,rfl⟩;have XT:y.1=x.1:=by rw[hx,hy];exact x9 he hlt SK
  have dy:∀{k':ah},Ext W k'->ao (some 3) (cI U.s4 3 k) (λb=>k'[b]?)=some (.agg (bB y),.ar):=λ{k'} e=>by rw[hy];exact pW.i4.gS SK e
  have R3:x∈V.aF:=by rw[hx];exact Zb _
  have UC:y∈U.aF:=by rw[hy];exact Zb _
  have ox:=oW.e4 x R3;have oy:=pW.e4 y UC;rw[XT]at oy;have Tu:=ox.one;have Ud:=oy.one;have hin:x.1.bt.length<2^40:=by have:=(w.jb x.1 (Zu R3)).2.2.1;omega
  have n0:=ne_self x.1.name;have n1:=ne_self x.1.mod;have SI:bB y=[AV.str x.1.name,AV.str x.1.mod,y.2]:=by rw[<-XT];rfl
  rw[SI]at dy;have We:bB x=[AV.str x.1.name,AV.str x.1.mod,x.2]:=rfl;rw[We]at dx;clear SI We
  repeat (first|simp (config:={maxSteps:=1000000}) only[aO,aQ,aY,aZ,reduceAdd,reduceMul,reduceLeDiff,reduceEqDiff,ba,hlen,Zi,Zk,t2,t3,t13,e3,oW.i4.aH,lv,lu,eO,ix,iy,dx,dy,Tu,Ud,n0,n1]|simp (config:={maxSteps:=1000000}) (disch:=first|(simp only[YT,YX,Y6]<;>omega)|rfl|omega|fail) only[dP,aO,aQ,aY,aZ,reduceAdd,reduceMul,reduceLeDiff,reduceEqDiff,ba,hlen,Zi,Zk,t2,t3,t13,e3,oW.i4.aH,lv,lu,eO,ix,iy,dx,dy,Tu,Ud,n0,n1])
  refine WF.ce T.c62 (r62 T (ox.ext Xx) (oy.ext Xx) hin hin) λg1=>?_
  refine Rs (A6 t2 t3 t13 @Zp @Zw e5) ?_;exact z124
 ·have e3:=eC hlt
  repeat (first|simp (config:={maxSteps:=1000000}) only[aO,aQ,aY,aZ,reduceAdd,reduceMul,reduceLeDiff,reduceEqDiff,ba,hlen,Zi,Zk,t2,t3,t13,e3,oW.i4.aH,lv,eO]|simp (config:={maxSteps:=1000000}) (disch:=first|(simp only[YT,YX,Y6]<;>omega)|rfl|omega|fail) only[dP,aO,aQ,aY,aZ,reduceAdd,reduceMul,reduceLeDiff,reduceEqDiff,ba,hlen,Zi,Zk,t2,t3,t13,e3,oW.i4.aH,lv,eO])
  rw[<-hR];exact Q2 T o p e w eh mv mu eW Sn (Sq t2) (Sq t3)
def Q4{W:ah}(eW:Ext K W)(hlen:ts.length=248)(t2:slot ts 2=.ptr b 0)(t3:slot ts 3=.ptr c 0):WC P bJ (o9 5) [] ts W (FQ [(4,none)] (I4 h)):=by
 have hL:V.aC.length<=32:=by have:=w.l3;simpa [RV.an]using this
 have he:V.aC.map Prod.fst=U.aC.map Prod.fst:=Zv dJ.aC e;have hU:V.aC.length=U.aC.length:=by have:=Zv List.length he;simpa using this
 rw[Nv];generalize hR:o9 6=R;unfold uY fn46;simp only[ai.j,ai.s,ai.r,ai.dr,ai.tl,ai.hd];refine Rs (A2 t2 t3) ?_;refine WL.inv T.mix (λm ts h'=>∃k:Nat,k<=V.aC.length/\m=V.aC.length-k/\Ext K h'/\ts.length=248/\slot ts 2=.ptr b 0/\slot ts 3=.ptr c 0/\slot ts 10=.int .i64 k) V.aC.length
  ⟨0,Om,rfl,eW,Sn,(Sq t2),(Sq t3),fV⟩ ?_
 clear t2 t3 hlen eW;rintro _ ts W ⟨k,hk,rfl,eW,hlen,t2,t3,t10⟩;have lv:=@dG _ _ _ (eW.some mv);have lu:=@dG _ _ _ (eW.some mu);have oW:=o.ext eW;have pW:=p.ext eW;by_cases hlt:k<V.aC.length
 ·have SK:k<U.aC.length:=Om
  have e3:=dM hlt;have e5:=wrapN (n:=k) Om;have ix:=oW.i3.c8 (kk:=.i64) hlt;have iy:=pW.i3.c8 (kk:=.i64) SK;obtain⟨x,hx⟩:∃x,x=V.aC[k]:=⟨_,rfl⟩;have dx:∀{k':ah},Ext W k'->ao (some 4) (cI V.s3 4 k) (λb=>k'[b]?)=some (.agg (aM x),.ar):=λ{k'} e=>by rw[hx];exact oW.i3.gS hlt e
  obtain⟨y,hy⟩:∃y,y=U.aC[k]:=⟨_,rfl⟩;have XT:y.1=x.1:=by rw[hx,hy];exact x9 he hlt SK
  have dy:∀{k':ah},Ext W k'->ao (some 4) (cI U.s3 4 k) (λb=>k'[b]?)=some (.agg (aM y),.ar):=λ{k'} e=>by rw[hy];exact pW.i3.gS SK e
  have R3:x∈V.aC:=by rw[hx];exact Zb _
  have UC:y∈U.aC:=by rw[hy];exact Zb _
  have ox:=oW.e3 x R3;have oy:=pW.e3 y UC;rw[XT]at oy;have Tu:=ox.one;have Ud:=oy.one;have hin:x.1.bo.length<2^40:=by have:=(w.md x.1 (Zu R3)).2.1;omega
  have n0:=ne_self x.1.name;have n1:=ne_self x.1.gives;have n2:=ne_self x.1.line;have SI:aM y=[AV.str x.1.name,AV.str x.1.gives,AV.str x.1.line,y.2]:=by rw[<-XT];rfl
  rw[SI]at dy;have We:aM x=[AV.str x.1.name,AV.str x.1.gives,AV.str x.1.line,x.2]:=rfl;rw[We]at dx;clear SI We
  repeat (first|simp (config:={maxSteps:=1000000}) only[aO,aQ,aY,aZ,reduceAdd,reduceMul,reduceLeDiff,reduceEqDiff,ba,hlen,Zi,Zk,t2,t3,t10,e3,oW.i3.aH,lv,lu,eE,ix,iy,dx,dy,Tu,Ud,n0,n1,n2]|simp (config:={maxSteps:=1000000}) (disch:=first|(simp only[YT,YX,Y6]<;>omega)|rfl|omega|fail) only[dP,aO,aQ,aY,aZ,reduceAdd,reduceMul,reduceLeDiff,reduceEqDiff,ba,hlen,Zi,Zk,t2,t3,t10,e3,oW.i3.aH,lv,lu,eE,ix,iy,dx,dy,Tu,Ud,n0,n1,n2])
  refine WF.ce T.c25 (r25 T (ox.ext Xx) (oy.ext Xx) hin hin) λg1=>?_
  refine Rs (A6 t2 t3 t10 @Zp @Zw e5) ?_;exact z124
 ·have e3:=eC hlt
  repeat (first|simp (config:={maxSteps:=1000000}) only[aO,aQ,aY,aZ,reduceAdd,reduceMul,reduceLeDiff,reduceEqDiff,ba,hlen,Zi,Zk,t2,t3,t10,e3,oW.i3.aH,lv,eE]|simp (config:={maxSteps:=1000000}) (disch:=first|(simp only[YT,YX,Y6]<;>omega)|rfl|omega|fail) only[dP,aO,aQ,aY,aZ,reduceAdd,reduceMul,reduceLeDiff,reduceEqDiff,ba,hlen,Zi,Zk,t2,t3,t10,e3,oW.i3.aH,lv,eE])
  rw[<-hR];exact Q3 T o p e w eh mv mu eW Sn (Sq t2) (Sq t3)
def Q5{W:ah}(eW:Ext K W)(hlen:ts.length=248)(t2:slot ts 2=.ptr b 0)(t3:slot ts 3=.ptr c 0):WC P bJ (o9 4) [] ts W (FQ [(4,none)] (I4 h)):=by
 have hL:V.aj.length<=64:=by have:=w.l2;simpa [RV.an]using this
 have he:V.aj.map Prod.fst=U.aj.map Prod.fst:=Zv dJ.aj e;have hU:V.aj.length=U.aj.length:=by have:=Zv List.length he;simpa using this
 rw[Nw];generalize hR:o9 5=R;unfold uY fn46;simp only[ai.j,ai.s,ai.r,ai.dr,ai.tl,ai.hd];refine Rs (A2 t2 t3) ?_;refine WL.inv T.mix (λm ts h'=>∃k:Nat,k<=V.aj.length/\m=V.aj.length-k/\Ext K h'/\ts.length=248/\slot ts 2=.ptr b 0/\slot ts 3=.ptr c 0/\slot ts 7=.int .i64 k) V.aj.length
  ⟨0,Om,rfl,eW,Sn,(Sq t2),(Sq t3),fV⟩ ?_
 clear t2 t3 hlen eW;rintro _ ts W ⟨k,hk,rfl,eW,hlen,t2,t3,t7⟩;have lv:=@dG _ _ _ (eW.some mv);have lu:=@dG _ _ _ (eW.some mu);have oW:=o.ext eW;have pW:=p.ext eW;by_cases hlt:k<V.aj.length
 ·have SK:k<U.aj.length:=Om
  have e3:=dM hlt;have e5:=wrapN (n:=k) Om;have ix:=oW.i2.c8 (kk:=.i64) hlt;have iy:=pW.i2.c8 (kk:=.i64) SK;obtain⟨x,hx⟩:∃x,x=V.aj[k]:=⟨_,rfl⟩;have dx:∀{k':ah},Ext W k'->ao (some 3) (cI V.s2 3 k) (λb=>k'[b]?)=some (.agg (aU x),.ar):=λ{k'} e=>by rw[hx];exact oW.i2.gS hlt e
  obtain⟨y,hy⟩:∃y,y=U.aj[k]:=⟨_,rfl⟩;have XT:y.1=x.1:=by rw[hx,hy];exact x9 he hlt SK
  have dy:∀{k':ah},Ext W k'->ao (some 3) (cI U.s2 3 k) (λb=>k'[b]?)=some (.agg (aU y),.ar):=λ{k'} e=>by rw[hy];exact pW.i2.gS SK e
  have R3:x∈V.aj:=by rw[hx];exact Zb _
  have UC:y∈U.aj:=by rw[hy];exact Zb _
  have ox:=oW.e2 x R3;have oy:=pW.e2 y UC;rw[XT]at oy;have Tu:=ox.one;have Ud:=oy.one;have hin:x.1.aE.length<2^40:=by have:=(w.xZ.sh x R3).2;omega
  have n0:=ne_self x.1.name;have n1:=ne_self x.1.line;have SI:aU y=[AV.str x.1.name,AV.str x.1.line,y.2]:=by rw[<-XT];rfl
  rw[SI]at dy;have We:aU x=[AV.str x.1.name,AV.str x.1.line,x.2]:=rfl;rw[We]at dx;clear SI We
  repeat (first|simp (config:={maxSteps:=1000000}) only[aO,aQ,aY,aZ,reduceAdd,reduceMul,reduceLeDiff,reduceEqDiff,ba,hlen,Zi,Zk,t2,t3,t7,e3,oW.i2.aH,lv,lu,eo,ix,iy,dx,dy,Tu,Ud,n0,n1]|simp (config:={maxSteps:=1000000}) (disch:=first|(simp only[YT,YX,Y6]<;>omega)|rfl|omega|fail) only[dP,aO,aQ,aY,aZ,reduceAdd,reduceMul,reduceLeDiff,reduceEqDiff,ba,hlen,Zi,Zk,t2,t3,t7,e3,oW.i2.aH,lv,lu,eo,ix,iy,dx,dy,Tu,Ud,n0,n1])
  refine WF.ce T.c25 (r25 T (ox.ext Xx) (oy.ext Xx) hin hin) λg1=>?_
  refine Rs (A6 t2 t3 t7 @Zp @Zw e5) ?_;exact z124
 ·have e3:=eC hlt
  repeat (first|simp (config:={maxSteps:=1000000}) only[aO,aQ,aY,aZ,reduceAdd,reduceMul,reduceLeDiff,reduceEqDiff,ba,hlen,Zi,Zk,t2,t3,t7,e3,oW.i2.aH,lv,eo]|simp (config:={maxSteps:=1000000}) (disch:=first|(simp only[YT,YX,Y6]<;>omega)|rfl|omega|fail) only[dP,aO,aQ,aY,aZ,reduceAdd,reduceMul,reduceLeDiff,reduceEqDiff,ba,hlen,Zi,Zk,t2,t3,t7,e3,oW.i2.aH,lv,eo])
  rw[<-hR];exact Q4 T o p e w eh mv mu eW Sn (Sq t2) (Sq t3)
def Q6{W:ah}(eW:Ext K W)(hlen:ts.length=248)(t2:slot ts 2=.ptr b 0)(t3:slot ts 3=.ptr c 0):WC P bJ (o9 3) [] ts W (FQ [(4,none)] (I4 h)):=by
 have hL:V.aE.length<=16:=by have:=w.l1;simpa [RV.an]using this
 have he:V.aE=U.aE:=Zv dJ.aE e;have hU:V.aE.length=U.aE.length:=Zv List.length he;rw[Nx];generalize hR:o9 4=R;unfold uY fn46;simp only[ai.j,ai.s,ai.r,ai.dr,ai.tl,ai.hd];refine Rs (A2 t2 t3) ?_;refine WL.inv T.mix (λm ts h'=>∃k:Nat,k<=V.aE.length/\m=V.aE.length-k/\Ext K h'/\ts.length=248/\slot ts 2=.ptr b 0/\slot ts 3=.ptr c 0/\slot ts 6=.int .i64 k) V.aE.length
  ⟨0,Om,rfl,eW,Sn,(Sq t2),(Sq t3),fV⟩ ?_
 clear t2 t3 hlen eW;rintro _ ts W ⟨k,hk,rfl,eW,hlen,t2,t3,t6⟩;have lv:=@dG _ _ _ (eW.some mv);have lu:=@dG _ _ _ (eW.some mu);have oW:=o.ext eW;have pW:=p.ext eW;by_cases hlt:k<V.aE.length
 ·have SK:k<U.aE.length:=Om
  have e3:=dM hlt;have e5:=wrapN (n:=k) Om;have ix:=oW.i1.c8 (kk:=.i64) hlt;have iy:=pW.i1.c8 (kk:=.i64) SK;obtain⟨x,hx⟩:∃x,x=V.aE[k]:=⟨_,rfl⟩;have dx:∀{k':ah},Ext W k'->ao (some 2) (cI V.s1 2 k) (λb=>k'[b]?)=some (.agg (cp x),.ar):=λ{k'} e=>by rw[hx];exact oW.i1.gS hlt e
  have dy:∀{k':ah},Ext W k'->ao (some 2) (cI U.s1 2 k) (λb=>k'[b]?)=some (.agg (cp x),.ar):=λ{k'} e=>by
   have:x=U.aE[k]:=by rw[hx];simp only[he]
   rw[this];exact pW.i1.gS SK e
  repeat (first|simp (config:={maxSteps:=1000000}) only[aO,aQ,aY,aZ,reduceAdd,reduceMul,reduceLeDiff,reduceEqDiff,ba,hlen,Zi,Zk,t2,t3,t6,e3,oW.i1.aH,lv,lu,gR,ix,iy,dx,dy,Gt,e5]|simp (config:={maxSteps:=1000000}) (disch:=first|(simp only[YT,YX,Y6]<;>omega)|rfl|omega|fail) only[dP,aO,aQ,aY,aZ,reduceAdd,reduceMul,reduceLeDiff,reduceEqDiff,ba,hlen,Zi,Zk,t2,t3,t6,e3,oW.i1.aH,lv,lu,gR,ix,iy,dx,dy,Gt,e5])
  exact GP
 ·have e3:=eC hlt
  repeat (first|simp (config:={maxSteps:=1000000}) only[aO,aQ,aY,aZ,reduceAdd,reduceMul,reduceLeDiff,reduceEqDiff,ba,hlen,Zi,Zk,t2,t3,t6,e3,oW.i1.aH,lv,gR]|simp (config:={maxSteps:=1000000}) (disch:=first|(simp only[YT,YX,Y6]<;>omega)|rfl|omega|fail) only[dP,aO,aQ,aY,aZ,reduceAdd,reduceMul,reduceLeDiff,reduceEqDiff,ba,hlen,Zi,Zk,t2,t3,t6,e3,oW.i1.aH,lv,gR])
  rw[<-hR];exact Q5 T o p e w eh mv mu eW Sn (Sq t2) (Sq t3)
def Q7{W:ah}(eW:Ext K W)(hlen:ts.length=248)(t2:slot ts 2=.ptr b 0)(t3:slot ts 3=.ptr c 0):WC P bJ (o9 2) [] ts W (FQ [(4,none)] (I4 h)):=by
 have hL:V.lines.length<=16:=by have:=w.l0;simpa [RV.an]using this
 have he:V.lines=U.lines:=Zv dJ.lines e;have hU:V.lines.length=U.lines.length:=Zv List.length he;rw[Ny];generalize hR:o9 3=R;unfold uY fn46;simp only[ai.j,ai.s,ai.r,ai.dr,ai.tl,ai.hd];refine Rs (A2 t2 t3) ?_;refine WL.inv T.mix (λm ts h'=>∃k:Nat,k<=V.lines.length/\m=V.lines.length-k/\Ext K h'/\ts.length=248/\slot ts 2=.ptr b 0/\slot ts 3=.ptr c 0/\slot ts 5=.int .i64 k) V.lines.length
  ⟨0,Om,rfl,eW,Sn,(Sq t2),(Sq t3),fV⟩ ?_
 clear t2 t3 hlen eW;rintro _ ts W ⟨k,hk,rfl,eW,hlen,t2,t3,t5⟩;have lv:=@dG _ _ _ (eW.some mv);have lu:=@dG _ _ _ (eW.some mu);have oW:=o.ext eW;have pW:=p.ext eW;by_cases hlt:k<V.lines.length
 ·have SK:k<U.lines.length:=Om
  have e3:=dM hlt;have e5:=wrapN (n:=k) Om;have ix:=oW.i0.c8 (kk:=.i64) hlt;have iy:=pW.i0.c8 (kk:=.i64) SK;obtain⟨x,hx⟩:∃x,x=V.lines[k]:=⟨_,rfl⟩;have dx:∀{k':ah},Ext W k'->ao (some 3) (cI V.s0 3 k) (λb=>k'[b]?)=some (.agg (bG x),.ar):=λ{k'} e=>by rw[hx];exact oW.i0.gS hlt e
  have dy:∀{k':ah},Ext W k'->ao (some 3) (cI U.s0 3 k) (λb=>k'[b]?)=some (.agg (bG x),.ar):=λ{k'} e=>by
   have:x=U.lines[k]:=by rw[hx];simp only[he]
   rw[this];exact pW.i0.gS SK e
  repeat (first|simp (config:={maxSteps:=1000000}) only[aO,aQ,aY,aZ,reduceAdd,reduceMul,reduceLeDiff,reduceEqDiff,ba,hlen,Zi,Zk,t2,t3,t5,e3,oW.i0.aH,lv,lu,eP,ix,iy,dx,dy,Gv,e5]|simp (config:={maxSteps:=1000000}) (disch:=first|(simp only[YT,YX,Y6]<;>omega)|rfl|omega|fail) only[dP,aO,aQ,aY,aZ,reduceAdd,reduceMul,reduceLeDiff,reduceEqDiff,ba,hlen,Zi,Zk,t2,t3,t5,e3,oW.i0.aH,lv,lu,eP,ix,iy,dx,dy,Gv,e5])
  exact GP
 ·have e3:=eC hlt
  repeat (first|simp (config:={maxSteps:=1000000}) only[aO,aQ,aY,aZ,reduceAdd,reduceMul,reduceLeDiff,reduceEqDiff,ba,hlen,Zi,Zk,t2,t3,t5,e3,oW.i0.aH,lv,eP]|simp (config:={maxSteps:=1000000}) (disch:=first|(simp only[YT,YX,Y6]<;>omega)|rfl|omega|fail) only[dP,aO,aQ,aY,aZ,reduceAdd,reduceMul,reduceLeDiff,reduceEqDiff,ba,hlen,Zi,Zk,t2,t3,t5,e3,oW.i0.aH,lv,eP])
  rw[<-hR];exact Q6 T o p e w eh mv mu eW Sn (Sq t2) (Sq t3)
end
section
variable {P:Program}(T:fA P) {h:ah}
include T
def r46{V U:RV}(o:aB h V)(p:aB h U)(e:V.an=U.an)(w:ee V.an):aA P 46 [.agg V.row,.agg U.row] h (λv _=>v=.bool true):=by
 refine .of T.mix (abn T.c46 (Zv some Nz)) ?_;obtain⟨ts,RD⟩:∃ts,ts=aV 248 [.agg V.row,.agg U.row]:=⟨_,rfl⟩;have hlen:ts.length=248:=by rw[RD];rfl
 have t0:slot ts 0=.agg V.row:=by rw[RD];rfl
 have t1:slot ts 1=.agg U.row:=by rw[RD];rfl
 show WC P bJ (.seq (uY 0) (.seq (uY 1) (o9 2))) [] (aV 248 [.agg V.row,.agg U.row]) h (FQ [(4,none)] (I4 h));rw[<-RD];clear RD;have hv:=@aB.box _ _ o;have hu:=@aB.box _ _ p;generalize hR:o9 2=R;unfold uY fn46;simp only[ai.j,ai.s,ai.r,ai.dr,ai.tl,ai.hd];obtain⟨K,hK⟩:∃K,K=h++[ak.cells V.row true false]++[.cells U.row true false]:=⟨_,rfl⟩;have mv:K[h.length]? =some (.cells V.row true false):=by rw[hK];exact qp
 have mu:K[h.length+1]? =some (.cells U.row true false):=by rw[hK];simp
 have eK:Ext h K:=by rw[hK];exact Xx
 have lv:=@dG _ _ _ mv;have lu:=@dG _ _ _ mu;have et:U.tick=V.tick:=Zv dJ.tick e.symm;have q0:U.lines.length=V.lines.length:=Zv List.length (Zv dJ.lines e.symm);have q1:U.aE.length=V.aE.length:=Zv List.length (Zv dJ.aE e.symm);have q2:U.aj.length=V.aj.length:=by have:=Zv List.length (Zv dJ.aj e.symm);simpa [RV.an]using this
 have q3:U.aC.length=V.aC.length:=by have:=Zv List.length (Zv dJ.aC e.symm);simpa [RV.an]using this
 have q4:U.aF.length=V.aF.length:=by have:=Zv List.length (Zv dJ.aF e.symm);simpa [RV.an]using this
 have q5:U.aI.length=V.aI.length:=Zv List.length (Zv dJ.aI e.symm);refine Rs (A4 t0 t1 @hv @hu) ?_;rw[<-hK];have e0:=ne_self V.tick;have hx1:(h++[ak.cells V.row true false]).length=h.length+1:=Si
 have e1:=@ne_self Int _
 repeat (first|simp (config:={maxSteps:=1000000}) only[aO,aQ,aY,aZ,reduceAdd,reduceMul,reduceLeDiff,reduceEqDiff,ba,hlen,Zi,Zk,t0,t1,lv,lu,kR,eP,gR,eo,eE,eO,fy,hx1,et,e0,e1,o.i0.aH,o.i1.aH,o.i2.aH,o.i3.aH,o.i4.aH,o.i5.aH,p.i0.aH,p.i1.aH,p.i2.aH,p.i3.aH,p.i4.aH,p.i5.aH,q0,q1,q2,q3,q4,q5]|simp (config:={maxSteps:=1000000}) (disch:=first|(simp only[YT,YX,Y6]<;>omega)|rfl|omega|fail) only[dP,aO,aQ,aY,aZ,reduceAdd,reduceMul,reduceLeDiff,reduceEqDiff,ba,hlen,Zi,Zk,t0,t1,lv,lu,kR,eP,gR,eo,eE,eO,fy,hx1,et,e0,e1,o.i0.aH,o.i1.aH,o.i2.aH,o.i3.aH,o.i4.aH,o.i5.aH,p.i0.aH,p.i1.aH,p.i2.aH,p.i3.aH,p.i4.aH,p.i5.aH,q0,q1,q2,q3,q4,q5])
 rw[<-hR];exact Q7 T (o.ext eK) (p.ext eK) e w eK mv mu (Ext.refl K) Sn Sw (Sq @hx1)
end
def nQ(k:Nat):ai:=(fn47).body.dr k
def vm(k:Nat):ai:=((fn47).body.dr k).hd
def NR:nQ 2=.seq (vm 2) (nQ 3):=rfl
def NQ:nQ 3=.seq (vm 3) (nQ 4):=rfl
def NP:nQ 4=.seq (vm 4) (nQ 5):=rfl
def NO:nQ 5=.seq (vm 5) (nQ 6):=rfl
def NN:nQ 6=.seq (vm 6) (nQ 7):=rfl
def NM:nQ 7=.seq (vm 7) (nQ 8):=rfl
def NS:fn47=⟨104,1,[(2,some (some 7))],.seq (vm 0) (.seq (vm 1) (nQ 2))⟩:=rfl
structure uO(h:ah)(r:List AV)(t:Int)(W:ah)(Ss:List AV)(Fs:List (Nat×List (List AV))):Prop where
 ex:Ext h W
 b1:W[h.length]? =some (.cells r true false)
 b2:W[h.length+1]? =some (.cells js true false)
 b3:W[h.length+2]? =some (.cells (.int .i64 t::Ss) true false)
 fr:∀(i:Nat) u es cs,Ss[i]? =some u->Fs[i]? =some (es,cs)->Fr h.length W u es cs
 lo:∀(i:Nat) u b,Ss[i]? =some u->sB u=some b->h.length+3<=b/\b<W.length
 di:∀(i j:Nat) u v b,i≠j->Ss[i]? =some u->Ss[j]? =some v->sB u=some b->sB v≠some b
 ln:Ss.length=6
def uO.lt{h r t W Ss Fs}(s:uO h r t W Ss Fs):h.length+3<=W.length:=(YU.1 s.b3).1
def uO.next{h r t W W1 Ss Fs}(s:uO h r t W Ss Fs)(e:Ext W W1){f es:Nat}{cs:List (List AV)}{z:List AV}{u s':AV}{g':ah}{n:Nat}(hu:Ss[f]? =some u)(hF:Fs[f]? =some (es,cs))(hs:s' =.slice W1.length 0 n es)
  (hl:(h++g').length=W1.length+1) (hff:Fr h.length (h++g') s' es (cs++[z])) (hkp:∀b,b<W1.length->(∀b0 o n e,u=.slice b0 o n e->b≠b0)->(h++g')[b]? =W1[b]?):
  uO h r t ((h++g').set (h.length+2) (.cells (.int .i64 t::Ss.set f s') true false)) (Ss.set f s') (Fs.set f (es,cs++[z])):=by
 have l3:=s.lt;have le:=e.len;have R7:=(YU.1 hu).1;have hFl:=(YU.1 hF).1;obtain⟨W2,Se⟩:∃W2,W2=h++g':=⟨_,rfl⟩;have ex2:Ext h W2:=by rw[Se];exact⟨g',rfl⟩
 rw[<-Se]at hl hff hkp ⊢;obtain⟨X,hX⟩:∃X,X=ak.cells (.int .i64 t::Ss.set f s') true false:=⟨_,rfl⟩;rw[<-hX];have k2:∀b,b<W1.length->sB u≠some b->W2[b]? =W1[b]? :=λb hb hn=>hkp b hb λb0 o n e he z=>hn (by rw[he,z];rfl)
 have g3:∀i,i≠h.length+2->(W2.set (h.length+2) X)[i]? =W2[i]? :=λi hi=>Zf (aai hi)
 have ar:∀b,b<W.length->sB u≠some b->b≠h.length+2->(W2.set (h.length+2) X)[b]? =W[b]? :=λb hb h1 h2=>by rw[g3 b h2,k2 b Om h1,e.get hb]
 have ulo:∀b,sB u=some b->h.length+3<=b:=λb hb=>(s.lo f u b hu hb).1
 have hsb:sB s' =some W1.length:=by rw[hs];rfl
 refine⟨ex2.fX Om,?_,?_,?_,λi v es' cs' h1 h2=>?_,λi v b h1 h2=>?_,λi j v v' b hij h1 h2 h3 h4=>?_,by rw[ZI];exact s.ln⟩
 ·rw[ar _ Om (λz=>by have:=ulo _ z;omega) Om];exact s.b1
 ·rw[ar _ Om (λz=>by have:=ulo _ z;omega) Om];exact s.b2
 ·rw[Zg Om,hX]
 ·by_cases hi:i=f
  ·subst hi;rw[Zg R7]at h1;rw[Zg hFl]at h2;cases h1;cases h2;exact hff.aD λb hb=>g3 b (by rw[hsb]at hb;cases hb;omega)
  ·rw[Zf (aai hi)]at h1 h2;exact(s.fr i v es' cs' h1 h2).aD λb hb=>by
    have:=s.lo i v b h1 hb;exact ar b this.2 (s.di i f v u b hi h1 hu hb) Om
 ·rw[ZI];by_cases hi:i=f
  ·subst hi;rw[Zg R7]at h1;cases h1;rw[hsb]at h2;cases h2;omega
  ·rw[Zf (aai hi)]at h1;have:=s.lo i v b h1 h2;omega
 ·by_cases hi:i=f
  ·subst hi;rw[Zg R7]at h1;rw[Zf hij]at h2;cases h1;rw[hsb]at h3;cases h3;have:=s.lo j v' _ h2 h4;omega
  ·rw[Zf (aai hi)]at h1;by_cases hj:j=f
   ·subst hj;rw[Zg R7]at h2;cases h2;rw[hsb]at h4;cases h4;have:=s.lo i v _ h1 h3;omega
   ·rw[Zf (aai hj)]at h2;exact s.di i j v v' b hij h1 h2 h3 h4
def GA(h:ah)(V:RV):AV->ah->Prop:=λv h'=>Ext h h'/\∃V':RV,V'.an=V.an/\v=.agg V'.row/\aB h' V'
def pk{α β:Type}{l:List α}{f:α->β}{k:Nat}(h:k<l.length):(l.map f).take (k+1)=(l.map f).take k++[f l[k]]:=by
 rw[ZJ,aaf,YZ h];rfl
def pn{α β:Type}{l:List α}{f:α->β}{k:Nat}(h:¬k<l.length):(l.map f).take k=l.map f:=ZL (by rw[Y7];omega)
section
variable {P:Program}(T:fA P) {h W:ah}{ts:TS}{V:RV}{Ss:List AV}(o:aB h V) (w:ee V.an)
include T o
theorem Q8(s:uO h V.row V.tick W Ss [(3,V.lines.map bG),(2,V.aE.map cp),(3,V.aj.map aU),(4,V.aC.map aM),(3,V.aF.map bB),(4,V.aI.map cw)])(hlen:ts.length=104)(t2:slot ts 2=.ptr (h.length+1) 0)(t3:slot ts 3=.ptr (h.length+2) 0):
  WC P bJ (nQ 8) [] ts W (FQ [(2,some (some 7))] (GA h V)):=by
 have hS:∃s0 s1 s2 s3 s4 s5,Ss=[s0,s1,s2,s3,s4,s5]:=by
  have:=s.ln
  match Ss,this with
  |[a,b,c,d,e,f],_=>exact⟨a,b,c,d,e,f,rfl⟩
 obtain⟨s0,s1,s2,s3,s4,s5,rfl⟩:=hS;have f0:=(s.fr 0 _ _ _ rfl rfl).aW;have f1:=(s.fr 1 _ _ _ rfl rfl).aW;have f2:=(s.fr 2 _ _ _ rfl rfl).aW;have f3:=(s.fr 3 _ _ _ rfl rfl).aW;have f4:=(s.fr 4 _ _ _ rfl rfl).aW;have f5:=(s.fr 5 _ _ _ rfl rfl).aW;obtain⟨V',hV⟩:∃V':RV,V' ={V with s0:=s0,s1:=s1,s2:=s2,s3:=s3,s4:=s4,s5:=s5}:=⟨_,rfl⟩;have hr:AV.int .i64 V.tick:: [s0,s1,s2,s3,s4,s5]=V'.row:=by rw[hV];rfl
 have Vh:=s.b3;rw[hr]at Vh;have oW:=o.ext s.ex;have oV:aB W V':=by rw[hV];exact⟨f0,f1,f2,f3,f4,f5,oW.e2,oW.e3,oW.e4⟩
 have lb:=@dG _ _ _ Vh;have sb:=@aJ 7 (h.length+1) 0 (.agg V'.row) (λz=>W[z]?) _ s.b2;have st:=@aB.st _ _ oV;unfold js at sb;rw[st]at sb;have hl:=(YU.1 s.b2).1;have gm:(W.set (h.length+1) (.cells V'.row true false))[h.length+1]? =some (.cells V'.row true false):=Zg hl;unfold nQ fn47 gA;simp only[ai.j,ai.s,ai.r,ai.dr,ai.tl,ai.hd]
 repeat (first|simp (config:={maxSteps:=1000000}) only[aO,aQ,aY,aZ,reduceAdd,reduceMul,reduceLeDiff,reduceEqDiff,ba,hlen,Zi,Zk,t2,t3,lb,sb,aG,az gm]|simp (config:={maxSteps:=1000000}) (disch:=first|(simp only[YT,YX,Y6]<;>omega)|rfl|omega|fail) only[dP,aO,aQ,aY,aZ,reduceAdd,reduceMul,reduceLeDiff,reduceEqDiff,ba,hlen,Zi,Zk,t2,t3,lb,sb,aG,az gm])
 refine⟨s.ex.fX Om,V',by rw[hV];rfl,rfl,?_⟩;have kp:∀(i:Nat) (u:AV) (es:Nat) (cs:List (List AV)),[s0,s1,s2,s3,s4,s5][i]? =some u->[(3,V.lines.map bG),(2,V.aE.map cp),(3,V.aj.map aU),(4,V.aC.map aM),(3,V.aF.map bB),(4,V.aI.map cw)][i]? =some (es,cs)->aK (W.set (h.length+1) (.cells V'.row true false)) u es cs:=λi u es cs h1 h2=>
  ((s.fr i u es cs h1 h2).aD λb hb=>Zf (by have:=(s.lo i u b h1 hb).1;omega)).aW
 have oZ:=o.ext (s.ex.fX (X:=.cells V'.row true false) (b:=h.length+1) Om);rw[hV]at kp oZ ⊢;exact⟨kp 0 _ _ _ rfl rfl,kp 1 _ _ _ rfl rfl,kp 2 _ _ _ rfl rfl,kp 3 _ _ _ rfl rfl,kp 4 _ _ _ rfl rfl,kp 5 _ _ _ rfl rfl,oZ.e2,oZ.e3,oZ.e4⟩
include w
def Q9(s:uO h V.row V.tick W Ss [(3,V.lines.map bG),(2,V.aE.map cp),(3,V.aj.map aU),(4,V.aC.map aM),(3,V.aF.map bB),(4,(V.aI.map cw).take 0)])(hlen:ts.length=104)(t1:slot ts 1=.ptr h.length 0)(t2:slot ts 2=.ptr (h.length+1) 0)(t3:slot ts 3=.ptr (h.length+2) 0):
  WC P bJ (nQ 7) [] ts W (FQ [(2,some (some 7))] (GA h V)):=by
 have hL:V.aI.length<=16:=by have:=w.l5;simpa [RV.an]using this
 rw[NM];generalize hR:nQ 8=R;unfold vm fn47 gA;simp only[ai.j,ai.s,ai.r,ai.dr,ai.tl,ai.hd];have lb:=@dG _ _ _ s.b1;have oW:=o.ext s.ex;refine Rs (A6 t1 t2 t3 @lb @fy oW.i5.aH) ?_;refine WL.inv T.mix (λm ts h'=>∃(k:Nat) (Ss:List AV),k<=V.aI.length/\m=V.aI.length-k/\uO h V.row V.tick h' Ss [(3,V.lines.map bG),(2,V.aE.map cp),(3,V.aj.map aU),(4,V.aC.map aM),(3,V.aF.map bB),(4,(V.aI.map cw).take k)]/\ts.length=104/\slot ts 1=.ptr h.length 0/\slot ts 2=.ptr (h.length+1) 0/\slot ts 3=.ptr (h.length+2) 0/\slot ts 90=V.s5/\slot ts 91=.int .i64 V.aI.length/\slot ts 92=.int .i64 k) V.aI.length
  ⟨0,Ss,Om,rfl,s,Sn,(Sq t1),(Sq t2),(Sq t3),Sw,Sw,fV⟩ ?_
 clear t1 t2 t3 hlen s lb oW;rintro _ ts W ⟨k,Ss,hk,rfl,s,hlen,t1,t2,t3,t90,t91,t92⟩;have oW:=o.ext s.ex;by_cases hlt:k<V.aI.length
 ·have e3:=dM hlt;have e5:=wrapN (n:=k) Om;have ix:=oW.i5.c8 (kk:=.i64) hlt;obtain⟨x,hx⟩:∃x,x=V.aI[k]:=⟨_,rfl⟩;have R3:x∈V.aI:=by rw[hx];exact Zb _
  have ld:∀{k':ah},Ext W k'->ao (some 4) (cI V.s5 4 k) (λb=>k'[b]?)=some (.agg (cw x),.ar):=λ{k'} e=>by rw[hx];exact oW.i5.gS hlt e
  unfold cw at ld;have VH:=s.ln;obtain⟨u,hu⟩:∃u,Ss[5]? =some u:=⟨_,YZ Om⟩;have hr:(AV.int .i64 V.tick::Ss)[6]? =some u:=hu;have lr:=@dG _ _ _ s.b3;refine Rs (mN t1 t2 t3 t90 t91 t92 e3 ix @ld @lr @hr) ?_;obtain⟨z,hz⟩:∃z:List AV,z=cw x:=⟨_,rfl⟩;have SD:[AV.str x.name,AV.str x.AS,AV.int .i64 x.lI,AV.bool x.rel]=z:=hz.symm;rw[SD];have Tb:Ext W (W++[ak.cells z true false]++[.cells z true true]):=Xx;have TF:aK (W++[ak.cells z true false]++[.cells z true true]) (AV.slice (W++[ak.cells z true false]).length 0 1 4) 4 [z]:=by
   exact Qu
  have hfr:=s.fr 5 u _ _ hu rfl;refine WR.ff (h0:=h) (cs:=(V.aI.map cw).take k) (ys:=[z]) (hfr.ext Tb) TF De Si (by simp only[ZQ,Y7,YX,Y6];omega) (s.ex.trans Tb) ?_;intro g' RJ hff hkp;obtain⟨s',RC⟩:∃s',s' =AV.slice (W++[ak.cells z true false]++[ak.cells z true true]).length 0 ((V.aI.map cw).take k++[z]).length 4:=⟨_,rfl⟩;rw[<-RC]at hff;rw[<-RC];have nx:=s.next Tb hu rfl RC RJ hff hkp;have q1:s'.one=true:=by rw[RC];rfl
  have hub:sB u≠some (h.length+2):=λz=>by have:=(s.lo 5 u _ hu z).1;omega
  have mB:(h++g')[h.length+2]? =some (.cells (.int .i64 V.tick::Ss) true false):=by
   exact I8
  have Sc:aT 1 (.ptr (h.length+2) 6) s' (λz=>(h++g')[z]?)=some (ay,.set (h.length+2) (.cells (.int .i64 V.tick::Ss.set 5 s') true false)):=(aJ mB).trans (bO q1 (by rw[YX,VH];decide));obtain⟨W5,SX⟩:∃W5,W5=h++g':=⟨_,rfl⟩;rw[<-SX]at Sc nx ⊢;refine Rs (A9 t1 t2 t3 t90 t91 t92 @Sc q1 e5) ?_;refine⟨_,Om,k+1,Ss.set 5 s',Om,rfl,?_,rfl⟩;have:(V.aI.map cw).take (k+1)=(V.aI.map cw).take k++[z]:=by rw[pk hlt,hz,hx]
  rw[this];exact nx
 ·have e3:=eC hlt;rw[pn hlt]at s;refine Rs (A7 t1 t2 t3 t90 t91 t92 e3) ?_;rw[<-hR];exact Q8 T o s Sn (Sq t2) (Sq t3)
def Ra(s:uO h V.row V.tick W Ss [(3,V.lines.map bG),(2,V.aE.map cp),(3,V.aj.map aU),(4,V.aC.map aM),(3,(V.aF.map bB).take 0),(4,[])])(hlen:ts.length=104)(t1:slot ts 1=.ptr h.length 0)(t2:slot ts 2=.ptr (h.length+1) 0)(t3:slot ts 3=.ptr (h.length+2) 0):
  WC P bJ (nQ 6) [] ts W (FQ [(2,some (some 7))] (GA h V)):=by
 have hL:V.aF.length<=16:=by have:=w.l4;simpa [RV.an]using this
 rw[NN];generalize hR:nQ 7=R;unfold vm fn47 gA;simp only[ai.j,ai.s,ai.r,ai.dr,ai.tl,ai.hd];have lb:=@dG _ _ _ s.b1;have oW:=o.ext s.ex;refine Rs (A6 t1 t2 t3 @lb @eO oW.i4.aH) ?_;refine WL.inv T.mix (λm ts h'=>∃(k:Nat) (Ss:List AV),k<=V.aF.length/\m=V.aF.length-k/\uO h V.row V.tick h' Ss [(3,V.lines.map bG),(2,V.aE.map cp),(3,V.aj.map aU),(4,V.aC.map aM),(3,(V.aF.map bB).take k),(4,[])]/\ts.length=104/\slot ts 1=.ptr h.length 0/\slot ts 2=.ptr (h.length+1) 0/\slot ts 3=.ptr (h.length+2) 0/\slot ts 76=V.s4/\slot ts 77=.int .i64 V.aF.length/\slot ts 78=.int .i64 k) V.aF.length
  ⟨0,Ss,Om,rfl,s,Sn,(Sq t1),(Sq t2),(Sq t3),Sw,Sw,fV⟩ ?_
 clear t1 t2 t3 hlen s lb oW;rintro _ ts W ⟨k,Ss,hk,rfl,s,hlen,t1,t2,t3,t76,t77,t78⟩;have oW:=o.ext s.ex;by_cases hlt:k<V.aF.length
 ·have e3:=dM hlt;have e5:=wrapN (n:=k) Om;have ix:=oW.i4.c8 (kk:=.i64) hlt;obtain⟨x,hx⟩:∃x,x=V.aF[k]:=⟨_,rfl⟩;have R3:x∈V.aF:=by rw[hx];exact Zb _
  have ld:∀{k':ah},Ext W k'->ao (some 3) (cI V.s4 3 k) (λb=>k'[b]?)=some (.agg (bB x),.ar):=λ{k'} e=>by rw[hx];exact oW.i4.gS hlt e
  have Tu:=(oW.e4 x R3).one;unfold bB at ld;have VH:=s.ln;obtain⟨u,hu⟩:∃u,Ss[4]? =some u:=⟨_,YZ Om⟩;have hr:(AV.int .i64 V.tick::Ss)[5]? =some u:=hu;have lr:=@dG _ _ _ s.b3;refine Rs (pe t1 t2 t3 t76 t77 t78 e3 ix @ld @lr @hr @Tu) ?_;obtain⟨z,hz⟩:∃z:List AV,z=bB x:=⟨_,rfl⟩;have SD:[AV.str x.1.name,AV.str x.1.mod,x.2]=z:=hz.symm;rw[SD];have Tb:Ext W (W++[ak.cells z true false]++[.cells z true true]):=Xx;have TF:aK (W++[ak.cells z true false]++[.cells z true true]) (AV.slice (W++[ak.cells z true false]).length 0 1 3) 3 [z]:=by
   exact z24
  have hfr:=s.fr 4 u _ _ hu rfl;refine WR.ff (h0:=h) (cs:=(V.aF.map bB).take k) (ys:=[z]) (hfr.ext Tb) TF De Si (by simp only[ZQ,Y7,YX,Y6];omega) (s.ex.trans Tb) ?_;intro g' RJ hff hkp;obtain⟨s',RC⟩:∃s',s' =AV.slice (W++[ak.cells z true false]++[ak.cells z true true]).length 0 ((V.aF.map bB).take k++[z]).length 3:=⟨_,rfl⟩;rw[<-RC]at hff;rw[<-RC];have nx:=s.next Tb hu rfl RC RJ hff hkp;have q1:s'.one=true:=by rw[RC];rfl
  have hub:sB u≠some (h.length+2):=λz=>by have:=(s.lo 4 u _ hu z).1;omega
  have mB:(h++g')[h.length+2]? =some (.cells (.int .i64 V.tick::Ss) true false):=by
   exact I8
  have Sc:aT 1 (.ptr (h.length+2) 5) s' (λz=>(h++g')[z]?)=some (ay,.set (h.length+2) (.cells (.int .i64 V.tick::Ss.set 4 s') true false)):=(aJ mB).trans (bO q1 (by rw[YX,VH];decide));obtain⟨W5,SX⟩:∃W5,W5=h++g':=⟨_,rfl⟩;rw[<-SX]at Sc nx ⊢;refine Rs (A9 t1 t2 t3 t76 t77 t78 @Sc q1 e5) ?_;refine⟨_,Om,k+1,Ss.set 4 s',Om,rfl,?_,rfl⟩;have:(V.aF.map bB).take (k+1)=(V.aF.map bB).take k++[z]:=by rw[pk hlt,hz,hx]
  rw[this];exact nx
 ·have e3:=eC hlt;rw[pn hlt]at s;refine Rs (A7 t1 t2 t3 t76 t77 t78 e3) ?_;rw[<-hR];exact Q9 T o w s Sn (Sq t1) (Sq t2) (Sq t3)
def Rb(s:uO h V.row V.tick W Ss [(3,V.lines.map bG),(2,V.aE.map cp),(3,V.aj.map aU),(4,(V.aC.map aM).take 0),(3,[]),(4,[])])(hlen:ts.length=104)(t1:slot ts 1=.ptr h.length 0)(t2:slot ts 2=.ptr (h.length+1) 0)(t3:slot ts 3=.ptr (h.length+2) 0):
  WC P bJ (nQ 5) [] ts W (FQ [(2,some (some 7))] (GA h V)):=by
 have hL:V.aC.length<=32:=by have:=w.l3;simpa [RV.an]using this
 rw[NO];generalize hR:nQ 6=R;unfold vm fn47 gA;simp only[ai.j,ai.s,ai.r,ai.dr,ai.tl,ai.hd];have lb:=@dG _ _ _ s.b1;have oW:=o.ext s.ex;refine Rs (A6 t1 t2 t3 @lb @eE oW.i3.aH) ?_;refine WL.inv T.mix (λm ts h'=>∃(k:Nat) (Ss:List AV),k<=V.aC.length/\m=V.aC.length-k/\uO h V.row V.tick h' Ss [(3,V.lines.map bG),(2,V.aE.map cp),(3,V.aj.map aU),(4,(V.aC.map aM).take k),(3,[]),(4,[])]/\ts.length=104/\slot ts 1=.ptr h.length 0/\slot ts 2=.ptr (h.length+1) 0/\slot ts 3=.ptr (h.length+2) 0/\slot ts 62=V.s3/\slot ts 63=.int .i64 V.aC.length/\slot ts 64=.int .i64 k) V.aC.length
  ⟨0,Ss,Om,rfl,s,Sn,(Sq t1),(Sq t2),(Sq t3),Sw,Sw,fV⟩ ?_
 clear t1 t2 t3 hlen s lb oW;rintro _ ts W ⟨k,Ss,hk,rfl,s,hlen,t1,t2,t3,t62,t63,t64⟩;have oW:=o.ext s.ex;by_cases hlt:k<V.aC.length
 ·have e3:=dM hlt;have e5:=wrapN (n:=k) Om;have ix:=oW.i3.c8 (kk:=.i64) hlt;obtain⟨x,hx⟩:∃x,x=V.aC[k]:=⟨_,rfl⟩;have R3:x∈V.aC:=by rw[hx];exact Zb _
  have ld:∀{k':ah},Ext W k'->ao (some 4) (cI V.s3 4 k) (λb=>k'[b]?)=some (.agg (aM x),.ar):=λ{k'} e=>by rw[hx];exact oW.i3.gS hlt e
  have Tu:=(oW.e3 x R3).one;unfold aM at ld;have VH:=s.ln;obtain⟨u,hu⟩:∃u,Ss[3]? =some u:=⟨_,YZ Om⟩;have hr:(AV.int .i64 V.tick::Ss)[4]? =some u:=hu;have lr:=@dG _ _ _ s.b3;refine Rs (pe t1 t2 t3 t62 t63 t64 e3 ix @ld @lr @hr @Tu) ?_;obtain⟨z,hz⟩:∃z:List AV,z=aM x:=⟨_,rfl⟩;have SD:[AV.str x.1.name,AV.str x.1.gives,AV.str x.1.line,x.2]=z:=hz.symm;rw[SD];have Tb:Ext W (W++[ak.cells z true false]++[.cells z true true]):=Xx;have TF:aK (W++[ak.cells z true false]++[.cells z true true]) (AV.slice (W++[ak.cells z true false]).length 0 1 4) 4 [z]:=by
   exact Qu
  have hfr:=s.fr 3 u _ _ hu rfl;refine WR.ff (h0:=h) (cs:=(V.aC.map aM).take k) (ys:=[z]) (hfr.ext Tb) TF De Si (by simp only[ZQ,Y7,YX,Y6];omega) (s.ex.trans Tb) ?_;intro g' RJ hff hkp;obtain⟨s',RC⟩:∃s',s' =AV.slice (W++[ak.cells z true false]++[ak.cells z true true]).length 0 ((V.aC.map aM).take k++[z]).length 4:=⟨_,rfl⟩;rw[<-RC]at hff;rw[<-RC];have nx:=s.next Tb hu rfl RC RJ hff hkp;have q1:s'.one=true:=by rw[RC];rfl
  have hub:sB u≠some (h.length+2):=λz=>by have:=(s.lo 3 u _ hu z).1;omega
  have mB:(h++g')[h.length+2]? =some (.cells (.int .i64 V.tick::Ss) true false):=by
   exact I8
  have Sc:aT 1 (.ptr (h.length+2) 4) s' (λz=>(h++g')[z]?)=some (ay,.set (h.length+2) (.cells (.int .i64 V.tick::Ss.set 3 s') true false)):=(aJ mB).trans (bO q1 (by rw[YX,VH];decide));obtain⟨W5,SX⟩:∃W5,W5=h++g':=⟨_,rfl⟩;rw[<-SX]at Sc nx ⊢;refine Rs (A9 t1 t2 t3 t62 t63 t64 @Sc q1 e5) ?_;refine⟨_,Om,k+1,Ss.set 3 s',Om,rfl,?_,rfl⟩;have:(V.aC.map aM).take (k+1)=(V.aC.map aM).take k++[z]:=by rw[pk hlt,hz,hx]
  rw[this];exact nx
 ·have e3:=eC hlt;rw[pn hlt]at s;refine Rs (A7 t1 t2 t3 t62 t63 t64 e3) ?_;rw[<-hR];exact Ra T o w s Sn (Sq t1) (Sq t2) (Sq t3)
def Rc(s:uO h V.row V.tick W Ss [(3,V.lines.map bG),(2,V.aE.map cp),(3,(V.aj.map aU).take 0),(4,[]),(3,[]),(4,[])])(hlen:ts.length=104)(t1:slot ts 1=.ptr h.length 0)(t2:slot ts 2=.ptr (h.length+1) 0)(t3:slot ts 3=.ptr (h.length+2) 0):
  WC P bJ (nQ 4) [] ts W (FQ [(2,some (some 7))] (GA h V)):=by
 have hL:V.aj.length<=64:=by have:=w.l2;simpa [RV.an]using this
 rw[NP];generalize hR:nQ 5=R;unfold vm fn47 gA;simp only[ai.j,ai.s,ai.r,ai.dr,ai.tl,ai.hd];have lb:=@dG _ _ _ s.b1;have oW:=o.ext s.ex;refine Rs (A6 t1 t2 t3 @lb @eo oW.i2.aH) ?_;refine WL.inv T.mix (λm ts h'=>∃(k:Nat) (Ss:List AV),k<=V.aj.length/\m=V.aj.length-k/\uO h V.row V.tick h' Ss [(3,V.lines.map bG),(2,V.aE.map cp),(3,(V.aj.map aU).take k),(4,[]),(3,[]),(4,[])]/\ts.length=104/\slot ts 1=.ptr h.length 0/\slot ts 2=.ptr (h.length+1) 0/\slot ts 3=.ptr (h.length+2) 0/\slot ts 48=V.s2/\slot ts 49=.int .i64 V.aj.length/\slot ts 50=.int .i64 k) V.aj.length
  ⟨0,Ss,Om,rfl,s,Sn,(Sq t1),(Sq t2),(Sq t3),Sw,Sw,fV⟩ ?_
 clear t1 t2 t3 hlen s lb oW;rintro _ ts W ⟨k,Ss,hk,rfl,s,hlen,t1,t2,t3,t48,t49,t50⟩;have oW:=o.ext s.ex;by_cases hlt:k<V.aj.length
 ·have e3:=dM hlt;have e5:=wrapN (n:=k) Om;have ix:=oW.i2.c8 (kk:=.i64) hlt;obtain⟨x,hx⟩:∃x,x=V.aj[k]:=⟨_,rfl⟩;have R3:x∈V.aj:=by rw[hx];exact Zb _
  have ld:∀{k':ah},Ext W k'->ao (some 3) (cI V.s2 3 k) (λb=>k'[b]?)=some (.agg (aU x),.ar):=λ{k'} e=>by rw[hx];exact oW.i2.gS hlt e
  have Tu:=(oW.e2 x R3).one;unfold aU at ld;have VH:=s.ln;obtain⟨u,hu⟩:∃u,Ss[2]? =some u:=⟨_,YZ Om⟩;have hr:(AV.int .i64 V.tick::Ss)[3]? =some u:=hu;have lr:=@dG _ _ _ s.b3;refine Rs (pe t1 t2 t3 t48 t49 t50 e3 ix @ld @lr @hr @Tu) ?_;obtain⟨z,hz⟩:∃z:List AV,z=aU x:=⟨_,rfl⟩;have SD:[AV.str x.1.name,AV.str x.1.line,x.2]=z:=hz.symm;rw[SD];have Tb:Ext W (W++[ak.cells z true false]++[.cells z true true]):=Xx;have TF:aK (W++[ak.cells z true false]++[.cells z true true]) (AV.slice (W++[ak.cells z true false]).length 0 1 3) 3 [z]:=by
   exact z24
  have hfr:=s.fr 2 u _ _ hu rfl;refine WR.ff (h0:=h) (cs:=(V.aj.map aU).take k) (ys:=[z]) (hfr.ext Tb) TF De Si (by simp only[ZQ,Y7,YX,Y6];omega) (s.ex.trans Tb) ?_;intro g' RJ hff hkp;obtain⟨s',RC⟩:∃s',s' =AV.slice (W++[ak.cells z true false]++[ak.cells z true true]).length 0 ((V.aj.map aU).take k++[z]).length 3:=⟨_,rfl⟩;rw[<-RC]at hff;rw[<-RC];have nx:=s.next Tb hu rfl RC RJ hff hkp;have q1:s'.one=true:=by rw[RC];rfl
  have hub:sB u≠some (h.length+2):=λz=>by have:=(s.lo 2 u _ hu z).1;omega
  have mB:(h++g')[h.length+2]? =some (.cells (.int .i64 V.tick::Ss) true false):=by
   exact I8
  have Sc:aT 1 (.ptr (h.length+2) 3) s' (λz=>(h++g')[z]?)=some (ay,.set (h.length+2) (.cells (.int .i64 V.tick::Ss.set 2 s') true false)):=(aJ mB).trans (bO q1 (by rw[YX,VH];decide));obtain⟨W5,SX⟩:∃W5,W5=h++g':=⟨_,rfl⟩;rw[<-SX]at Sc nx ⊢;refine Rs (A9 t1 t2 t3 t48 t49 t50 @Sc q1 e5) ?_;refine⟨_,Om,k+1,Ss.set 2 s',Om,rfl,?_,rfl⟩;have:(V.aj.map aU).take (k+1)=(V.aj.map aU).take k++[z]:=by rw[pk hlt,hz,hx]
  rw[this];exact nx
 ·have e3:=eC hlt;rw[pn hlt]at s;refine Rs (A7 t1 t2 t3 t48 t49 t50 e3) ?_;rw[<-hR];exact Rb T o w s Sn (Sq t1) (Sq t2) (Sq t3)
def Rd(s:uO h V.row V.tick W Ss [(3,V.lines.map bG),(2,(V.aE.map cp).take 0),(3,[]),(4,[]),(3,[]),(4,[])])(hlen:ts.length=104)(t1:slot ts 1=.ptr h.length 0)(t2:slot ts 2=.ptr (h.length+1) 0)(t3:slot ts 3=.ptr (h.length+2) 0):
  WC P bJ (nQ 3) [] ts W (FQ [(2,some (some 7))] (GA h V)):=by
 have hL:V.aE.length<=16:=by have:=w.l1;simpa [RV.an]using this
 rw[NQ];generalize hR:nQ 4=R;unfold vm fn47 gA;simp only[ai.j,ai.s,ai.r,ai.dr,ai.tl,ai.hd];have lb:=@dG _ _ _ s.b1;have oW:=o.ext s.ex;refine Rs (A6 t1 t2 t3 @lb @gR oW.i1.aH) ?_;refine WL.inv T.mix (λm ts h'=>∃(k:Nat) (Ss:List AV),k<=V.aE.length/\m=V.aE.length-k/\uO h V.row V.tick h' Ss [(3,V.lines.map bG),(2,(V.aE.map cp).take k),(3,[]),(4,[]),(3,[]),(4,[])]/\ts.length=104/\slot ts 1=.ptr h.length 0/\slot ts 2=.ptr (h.length+1) 0/\slot ts 3=.ptr (h.length+2) 0/\slot ts 34=V.s1/\slot ts 35=.int .i64 V.aE.length/\slot ts 36=.int .i64 k) V.aE.length
  ⟨0,Ss,Om,rfl,s,Sn,(Sq t1),(Sq t2),(Sq t3),Sw,Sw,fV⟩ ?_
 clear t1 t2 t3 hlen s lb oW;rintro _ ts W ⟨k,Ss,hk,rfl,s,hlen,t1,t2,t3,t34,t35,t36⟩;have oW:=o.ext s.ex;by_cases hlt:k<V.aE.length
 ·have e3:=dM hlt;have e5:=wrapN (n:=k) Om;have ix:=oW.i1.c8 (kk:=.i64) hlt;obtain⟨x,hx⟩:∃x,x=V.aE[k]:=⟨_,rfl⟩;have R3:x∈V.aE:=by rw[hx];exact Zb _
  have ld:∀{k':ah},Ext W k'->ao (some 2) (cI V.s1 2 k) (λb=>k'[b]?)=some (.agg (cp x),.ar):=λ{k'} e=>by rw[hx];exact oW.i1.gS hlt e
  unfold cp at ld;have VH:=s.ln;obtain⟨u,hu⟩:∃u,Ss[1]? =some u:=⟨_,YZ Om⟩;have hr:(AV.int .i64 V.tick::Ss)[2]? =some u:=hu;have lr:=@dG _ _ _ s.b3;refine Rs (mN t1 t2 t3 t34 t35 t36 e3 ix @ld @lr @hr) ?_;obtain⟨z,hz⟩:∃z:List AV,z=cp x:=⟨_,rfl⟩;have SD:[AV.str x.name,AV.int .i64 x.last]=z:=hz.symm;rw[SD];have Tb:Ext W (W++[ak.cells z true false]++[.cells z true true]):=Xx;have TF:aK (W++[ak.cells z true false]++[.cells z true true]) (AV.slice (W++[ak.cells z true false]).length 0 1 2) 2 [z]:=by
   have:=(Fr.push (N:=0) (es:=2) (h:=W++[ak.cells z true false]) (ZA _) [z] (λx hx=>by rw[Zj]at hx;rw[hx,hz];rfl)).aW
   simpa only[Z1,aaV,Zr,YX,Y6,ZN]using this
  have hfr:=s.fr 1 u _ _ hu rfl;refine WR.ff (h0:=h) (cs:=(V.aE.map cp).take k) (ys:=[z]) (hfr.ext Tb) TF De Si (by simp only[ZQ,Y7,YX,Y6];omega) (s.ex.trans Tb) ?_;intro g' RJ hff hkp;obtain⟨s',RC⟩:∃s',s' =AV.slice (W++[ak.cells z true false]++[ak.cells z true true]).length 0 ((V.aE.map cp).take k++[z]).length 2:=⟨_,rfl⟩;rw[<-RC]at hff;rw[<-RC];have nx:=s.next Tb hu rfl RC RJ hff hkp;have q1:s'.one=true:=by rw[RC];rfl
  have hub:sB u≠some (h.length+2):=λz=>by have:=(s.lo 1 u _ hu z).1;omega
  have mB:(h++g')[h.length+2]? =some (.cells (.int .i64 V.tick::Ss) true false):=by
   exact I8
  have Sc:aT 1 (.ptr (h.length+2) 2) s' (λz=>(h++g')[z]?)=some (ay,.set (h.length+2) (.cells (.int .i64 V.tick::Ss.set 1 s') true false)):=(aJ mB).trans (bO q1 (by rw[YX,VH];decide));obtain⟨W5,SX⟩:∃W5,W5=h++g':=⟨_,rfl⟩;rw[<-SX]at Sc nx ⊢;refine Rs (A9 t1 t2 t3 t34 t35 t36 @Sc q1 e5) ?_;refine⟨_,Om,k+1,Ss.set 1 s',Om,rfl,?_,rfl⟩;have:(V.aE.map cp).take (k+1)=(V.aE.map cp).take k++[z]:=by rw[pk hlt,hz,hx]
  rw[this];exact nx
 ·have e3:=eC hlt;rw[pn hlt]at s;refine Rs (A7 t1 t2 t3 t34 t35 t36 e3) ?_;rw[<-hR];exact Rc T o w s Sn (Sq t1) (Sq t2) (Sq t3)
def Re(s:uO h V.row V.tick W Ss [(3,(V.lines.map bG).take 0),(2,[]),(3,[]),(4,[]),(3,[]),(4,[])])(hlen:ts.length=104)(t1:slot ts 1=.ptr h.length 0)(t2:slot ts 2=.ptr (h.length+1) 0)(t3:slot ts 3=.ptr (h.length+2) 0):
  WC P bJ (nQ 2) [] ts W (FQ [(2,some (some 7))] (GA h V)):=by
 have hL:V.lines.length<=16:=by have:=w.l0;simpa [RV.an]using this
 rw[NR];generalize hR:nQ 3=R;unfold vm fn47 gA;simp only[ai.j,ai.s,ai.r,ai.dr,ai.tl,ai.hd];have lb:=@dG _ _ _ s.b1;have oW:=o.ext s.ex;refine Rs (A6 t1 t2 t3 @lb @eP oW.i0.aH) ?_;refine WL.inv T.mix (λm ts h'=>∃(k:Nat) (Ss:List AV),k<=V.lines.length/\m=V.lines.length-k/\uO h V.row V.tick h' Ss [(3,(V.lines.map bG).take k),(2,[]),(3,[]),(4,[]),(3,[]),(4,[])]/\ts.length=104/\slot ts 1=.ptr h.length 0/\slot ts 2=.ptr (h.length+1) 0/\slot ts 3=.ptr (h.length+2) 0/\slot ts 20=V.s0/\slot ts 21=.int .i64 V.lines.length/\slot ts 22=.int .i64 k) V.lines.length
  ⟨0,Ss,Om,rfl,s,Sn,(Sq t1),(Sq t2),(Sq t3),Sw,Sw,fV⟩ ?_
 clear t1 t2 t3 hlen s lb oW;rintro _ ts W ⟨k,Ss,hk,rfl,s,hlen,t1,t2,t3,t20,t21,t22⟩;have oW:=o.ext s.ex;by_cases hlt:k<V.lines.length
 ·have e3:=dM hlt;have e5:=wrapN (n:=k) Om;have ix:=oW.i0.c8 (kk:=.i64) hlt;obtain⟨x,hx⟩:∃x,x=V.lines[k]:=⟨_,rfl⟩;have R3:x∈V.lines:=by rw[hx];exact Zb _
  have ld:∀{k':ah},Ext W k'->ao (some 3) (cI V.s0 3 k) (λb=>k'[b]?)=some (.agg (bG x),.ar):=λ{k'} e=>by rw[hx];exact oW.i0.gS hlt e
  unfold bG at ld;have VH:=s.ln;obtain⟨u,hu⟩:∃u,Ss[0]? =some u:=⟨_,YZ Om⟩;have hr:(AV.int .i64 V.tick::Ss)[1]? =some u:=hu;have lr:=@dG _ _ _ s.b3;refine Rs (mN t1 t2 t3 t20 t21 t22 e3 ix @ld @lr @hr) ?_;obtain⟨z,hz⟩:∃z:List AV,z=bG x:=⟨_,rfl⟩;have SD:[AV.str x.name,AV.int .i64 x.want,AV.bool x.acc]=z:=hz.symm;rw[SD];have Tb:Ext W (W++[ak.cells z true false]++[.cells z true true]):=Xx;have TF:aK (W++[ak.cells z true false]++[.cells z true true]) (AV.slice (W++[ak.cells z true false]).length 0 1 3) 3 [z]:=by
   exact z24
  have hfr:=s.fr 0 u _ _ hu rfl;refine WR.ff (h0:=h) (cs:=(V.lines.map bG).take k) (ys:=[z]) (hfr.ext Tb) TF De Si (by simp only[ZQ,Y7,YX,Y6];omega) (s.ex.trans Tb) ?_;intro g' RJ hff hkp;obtain⟨s',RC⟩:∃s',s' =AV.slice (W++[ak.cells z true false]++[ak.cells z true true]).length 0 ((V.lines.map bG).take k++[z]).length 3:=⟨_,rfl⟩;rw[<-RC]at hff;rw[<-RC];have nx:=s.next Tb hu rfl RC RJ hff hkp;have q1:s'.one=true:=by rw[RC];rfl
  have hub:sB u≠some (h.length+2):=λz=>by have:=(s.lo 0 u _ hu z).1;omega
  have mB:(h++g')[h.length+2]? =some (.cells (.int .i64 V.tick::Ss) true false):=by
   exact I8
  have Sc:aT 1 (.ptr (h.length+2) 1) s' (λz=>(h++g')[z]?)=some (ay,.set (h.length+2) (.cells (.int .i64 V.tick::Ss.set 0 s') true false)):=(aJ mB).trans (bO q1 (by rw[YX,VH];decide));obtain⟨W5,SX⟩:∃W5,W5=h++g':=⟨_,rfl⟩;rw[<-SX]at Sc nx ⊢;refine Rs (A9 t1 t2 t3 t20 t21 t22 @Sc q1 e5) ?_;refine⟨_,Om,k+1,Ss.set 0 s',Om,rfl,?_,rfl⟩;have:(V.lines.map bG).take (k+1)=(V.lines.map bG).take k++[z]:=by rw[pk hlt,hz,hx]
  rw[this];exact nx
 ·have e3:=eC hlt;rw[pn hlt]at s;refine Rs (A7 t1 t2 t3 t20 t21 t22 e3) ?_;rw[<-hR];exact Rd T o w s Sn (Sq t1) (Sq t2) (Sq t3)
end
section
variable {P:Program}(T:fA P) {h:ah}
include T
def r47{V:RV}(o:aB h V)(w:ee V.an):aA P 47 [.agg V.row] h (λv h'=>∃V':RV,V'.an=V.an/\v=.agg V'.row/\aB h' V'):=by
 refine .of T.mix (abn T.c47 (Zv some NS)) ?_;obtain⟨ts,RD⟩:∃ts,ts=aV 104 [.agg V.row]:=⟨_,rfl⟩;have hlen:ts.length=104:=by rw[RD];rfl
 have t0:slot ts 0=.agg V.row:=by rw[RD];rfl
 show WC P bJ (.seq (vm 0) (.seq (vm 1) (nQ 2))) [] (aV 104 [.agg V.row]) h (FQ [(2,some (some 7))] (GA h V));rw[<-RD];clear RD;have hv:=@aB.box _ _ o;generalize hR:nQ 2=R;unfold vm fn47 gA;simp only[ai.j,ai.s,ai.r,ai.dr,ai.tl,ai.hd];obtain⟨K,hK⟩:∃K,K=h++[ak.cells V.row true false]++[.cells js true false]:=⟨_,rfl⟩;have m1:K[h.length]? =some (.cells V.row true false):=by rw[hK];exact qp
 have m2:K[h.length+1]? =some (.cells js true false):=by rw[hK];simp
 have hKl:K.length=h.length+2:=by rw[hK];simp
 have eK:Ext h K:=by rw[hK];exact Xx
 have lv:=@dG _ _ _ m1;refine Rs (A2 t0 @hv) ?_;have hK':h++[ak.cells V.row true false]++[.cells [.int .i64 0,.af,.af,.af,.af,.af,.af] true false]=K:=hK.symm;rw[hK']
 repeat (first|simp (config:={maxSteps:=1000000}) only[aO,aQ,aY,aZ,reduceAdd,reduceMul,reduceLeDiff,reduceEqDiff,ba,hlen,Zi,Zk,t0,lv,kR]|simp (config:={maxSteps:=1000000}) (disch:=first|(simp only[YT,YX,Y6]<;>omega)|rfl|omega|fail) only[dP,aO,aQ,aY,aZ,reduceAdd,reduceMul,reduceLeDiff,reduceEqDiff,ba,hlen,Zi,Zk,t0,lv,kR])
 rw[<-hR];have b3:(K++[ak.cells (.int .i64 V.tick:: [.af,.af,.af,.af,.af,.af]) true false])[h.length+2]? =some (.cells (.int .i64 V.tick:: [.af,.af,.af,.af,.af,.af]) true false):=by rw[<-hKl];exact a8
 have hn:∀(i:Nat) (u:AV),[AV.af,.af,.af,.af,.af,.af][i]? =some u->u=.af:=λi u hu=>by
  have:=ZV hu
  simpa using this
 have hf:∀(i es:Nat) (cs:List (List AV)),[(3,[]),(2,[]),(3,[]),(4,[]),(3,[]),(4,([] :List (List AV)))][i]? =some (es,cs)->cs=[]:=λi es cs hu=>by
  have:=ZV hu;simp at this;rcases this with h|h|h|h|h|h<;>exact h.2
 refine Re T o w (Ss:=[.af,.af,.af,.af,.af,.af]) ⟨eK.trans Xx,(show Ext K _ from Xx).some m1,(show Ext K _ from Xx).some m2,b3,λi u es cs h1 h2=>?_,λi u b h1 h2=>?_,λi j u v b hij h1 h2 h3=>?_,rfl⟩ Sn Sw (by simp only[aO,aQ,aY,aZ,reduceAdd,reduceMul,reduceLeDiff,reduceEqDiff,ba,hlen,Zi,Zk];simp) (Sq @hKl)
 ·rw[hn i u h1,hf i es cs (by simpa using h2)];exact .nil
 ·rw[hn i u h1]at h2;cases h2
 ·rw[hn i u h1]at h3;cases h3
end
def L9(k:Nat):ai:=(fn11).body.dr k
def Am(k:Nat):ai:=((fn11).body.dr k).hd
def O7:fn11=⟨95,3,[(6,none)],.seq (Am 0) (.seq (Am 1) (.seq (Am 2) (.seq (Am 3) (.seq (Am 4) (.seq (Am 5) (L9 6))))))⟩:=rfl
section
variable {P:Program}(T:fA P) {h:ah}
include T
def H8(ha:∀k,Ext h k->aA P 15 [] k (λv _=>v=.bool true)){K:ah}{ts:TS}{L:List EV}{s:AV}{x:EV}{V1 V2 V3 V4:RV}{b4 b7 b10 b12 b15:Nat}{i e1 e2:Int}(eK:Ext h K)(o:dW K L s)(sh:uJ L)(nl:Jl L)(gl:Gl K)(ox:bh K x)(hx:x.ev.names.length<=2^30/\x.ev.cB.length<=2^30)(hn:∀n∈x.ev.names,n.length<2^63)
  (o1:aB K V1) (o2:aB K V2) (o3:aB K V3) (o4:aB K V4) (q3:V1.an=V3.an) (q4:V2.an=V4.an) (w1:ee V1.an) (w2:ee V2.an)
  (m4:K[b4]? =some (.b x.row)) (m7:K[b7]? =some (.b V1.row)) (m10:K[b10]? =some (.b V2.row)) (m12:K[b12]? =some (.b V3.row)) (m15:K[b15]? =some (.b V4.row)) (hlen:ts.length=95)
  (t0:slot ts 0=s) (t4:slot ts 4=.ptr b4 0) (t7:slot ts 7=.ptr b7 0) (t8:slot ts 8=.i i) (t9:slot ts 9=.i e1) (t10:slot ts 10=.ptr b10 0) (t11:slot ts 11=.i e2) (t12:slot ts 12=.ptr b12 0) (t13:slot ts 13=.i i) (t14:slot ts 14=.i e1) (t15:slot ts 15=.ptr b15 0) (t16:slot ts 16=.i e2):
  WC P bJ (L9 6) [] ts K (FQ [(6,none)] (QT h)):=by
 have l4:=@dG _ _ _ m4;have l7:=@dG _ _ _ m7;have l10:=@dG _ _ _ m10;have l12:=@dG _ _ _ m12;have l15:=@dG _ _ _ m15;unfold L9 fn11;simp only[ai.j,ai.s,ai.r,ai.dr,ai.tl];refine Rs (A3 t4 @l4 @bR) ?_;refine WF.ce T.c67 (r67 T ox ⟨Om,Om⟩) λg1=>?_
 refine Rs (A3 t4 @l4 @bR) ?_;refine WF.ce T.c39 (r39 T (ox.ext Xx) ⟨Om,Om⟩ hn) λg2=>?_
 refine Rs (A8 t7 t8 t9 t13 t14 @l7 @aG @Zp) ?_;refine WF.res T.c47 (r47 T (o1.ext Xx) w1) ?_;rintro _ g3 ⟨U,hU,rfl,oU⟩;refine Rs (A3 t12 @l12 @aG) ?_;refine WF.ce T.c46 (r46 T oU (o3.ext Xx) (hU.trans q3) (by rw[hU];exact w1)) λg4=>?_
 refine Rs (A4 t0 t4 @l4 @bR) ?_;refine WF.ce T.c48 (r48 T (o.ext Xx) sh (gl.ext Xx) (ox.ext Xx) hx) λg5=>?_
 refine Rs (A4 t0 t4 @l4 @bR) ?_;refine WF.ce T.c49 (r49 T (o.ext Xx) sh nl (ox.ext Xx) hx hn) λg6=>?_
 rw[C1];refine Rs (A6 t10 t11 t16 @l10 @aG @Zp) ?_;refine WF.res T.c47 (r47 T (o2.ext Xx) w2) ?_;rintro _ g7 ⟨U2,hU2,rfl,oU2⟩;refine Rs (A3 t15 @l15 @aG) ?_;refine WF.ce T.c46 (r46 T oU2 (o4.ext Xx) (hU2.trans q4) (by rw[hU2];exact w2)) λg8=>?_
 refine Rs t0 ?_;refine WF.ce T.c15 (ha _ (eK.trans Xx)) λg9=>?_
 refine Rs t0 ?_;exact⟨eK.trans Xx,rfl⟩
def r11(ha:∀k,Ext h k->aA P 15 [] k (λv _=>v=.bool true)){L:List EV}{s:AV}(o:dW h L s)(sz:GB L)(gl:Gl h){x:EV}(ox:bh h x)(zx:Dd x)(t:Int):aA P 11 [s,.agg x.row,.i t] h (λv _=>v=.bool true):=by
 refine .of T.mix (abn T.c11 (Zv some O7)) ?_;obtain⟨ts,RD⟩:∃ts,ts=aV 95 [s,.agg x.row,.i t]:=⟨_,rfl⟩;have hlen:ts.length=95:=by rw[RD];rfl
 have t0:slot ts 0=s:=by rw[RD];rfl
 have t1:slot ts 1=.agg x.row:=by rw[RD];rfl
 have t2:slot ts 2=.i t:=by rw[RD];rfl
 show WC P bJ (.seq (Am 0) (.seq (Am 1) (.seq (Am 2) (.seq (Am 3) (.seq (Am 4) (.seq (Am 5) (L9 6))))))) [] (aV 95 [s,.agg x.row,.i t]) h (FQ [(6,none)] (QT h));rw[<-RD];clear RD;generalize hR:L9 6=R;unfold Am fn11;simp only[ai.j,ai.s,ai.r,ai.dr,ai.tl,ai.hd];have Rz:=@bh.box _ _ ox;refine Rs (A4 t0 t1 t2 @Rz) ?_;obtain⟨H0,Ug⟩:∃Z,Z=h++[ak.b x.row]:=⟨_,rfl⟩;have e0:Ext h H0:=by rw[Ug];exact⟨_,rfl⟩
 have m4:H0[h.length]? =some (.b x.row):=by rw[Ug];exact a8
 obtain⟨b4,hb4⟩:∃Z,Z=h.length:=⟨_,rfl⟩;have l4:=@dG _ _ _ m4;rw[<-Ug];rw[<-hb4]at m4 l4 ⊢;have o:=o.ext e0;have ox:=ox.ext e0;have gl:=gl.ext e0;have ha0:∀k,Ext H0 k->aA P 15 [] k (λv _=>v=.bool true):=λk e=>ha k (e0.trans e)
 clear Ug Rz hb4;refine WF.ce T.c14 (r14 T o sz.l (λx hx=>(sz.e x hx).n) De) λg1=>?_
 cases hsh:lh (L.map EV.ev) 24 with
 |false=>
  exact J7
 |true=>
 obtain⟨sh,nl,_,_⟩:=vc hsh De;have bs:=@bh.Di _ _ ox;refine Rs (A7 t0 t1 t2 @Zw @l4 @bR @bs) ?_;have o1:dW (H0++g1++[ak.cells x.row true true]) [x] (.slice (H0++g1).length 0 1 5):=by
  refine⟨?_,λy hy=>by rw[Zj]at hy;rw[hy];exact ox.ext Xx⟩;have:=(Fr.push (N:=0) (es:=5) (h:=H0++g1) (ZA _) [x.row] (by intro y hy;rw[Zj]at hy;rw[hy];rfl)).aW
  simpa only[Z1,aaV,Zr,YX,Y6,ZN,ZX,aaC]using this
 refine WF.ce T.c14 (r14 T o1 (by rw[Zt];decide) (λy hy=>by rw[Zj]at hy;rw[hy];exact zx.n) De) λg2=>?_
 cases hsx:lh ([x].map EV.ev) 1 with
 |false=>
  exact J7
 |true=>
 obtain⟨sx,nx,_,_⟩:=vc hsx De;have hx:=sx.e x (Zj.2 rfl);have hn:=nx.n x (Zj.2 rfl);refine Rs (A4 t0 t1 t2 @Zw) ?_;refine WF.res T.c34 (r34 T (o.ext Xx) sh (gl.ext Xx)) ?_;rintro _ g3 ⟨V1,rfl,h1,o1,w1⟩;have kr:=@aB.st _ _ o1;refine Rs (A4 t0 t1 t2 @kr) ?_;obtain⟨K1,Ve⟩:∃Z,Z=H0++g1++[ak.cells x.row true true]++g2++g3:=⟨_,rfl⟩;have e1:Ext H0 K1:=by rw[Ve];exact Xx
 rw[<-Ve]at o1 ⊢;obtain⟨K2,hK2⟩:∃Z,Z=K1++[ak.b V1.row]:=⟨_,rfl⟩;have m7:K2[K1.length]? =some (.b V1.row):=by rw[hK2];exact a8
 have e2:Ext K1 K2:=by rw[hK2];exact⟨_,rfl⟩
 obtain⟨b7,hb7⟩:∃Z,Z=K1.length:=⟨_,rfl⟩;rw[<-hK2];rw[<-hb7]at m7 ⊢;clear Ve hK2 hb7;refine WF.res T.c65 (r65 T ((o.ext e1).ext e2) sh ((gl.ext e1).ext e2) t) ?_;rintro _ g4 ⟨V2,rfl,h2,o2,w2⟩;have eF:=@aB.st _ _ o2;refine Rs (A4 t0 t1 t2 @eF) ?_;obtain⟨K3,hK3⟩:∃Z,Z=K2++g4:=⟨_,rfl⟩;have e3:Ext K2 K3:=by rw[hK3];exact⟨_,rfl⟩
 rw[<-hK3]at o2 ⊢;obtain⟨K4,hK4⟩:∃Z,Z=K3++[ak.b V2.row]:=⟨_,rfl⟩;have m10:K4[K3.length]? =some (.b V2.row):=by rw[hK4];exact a8
 have e4:Ext K3 K4:=by rw[hK4];exact⟨_,rfl⟩
 obtain⟨b10,hb10⟩:∃Z,Z=K3.length:=⟨_,rfl⟩;rw[<-hK4];rw[<-hb10]at m10 ⊢;clear hK3 hK4 hb10;have e14:Ext H0 K4:=((e1.trans e2).trans e3).trans e4;refine WF.res T.c18 (r18 T (o.ext e14) sh nl) ?_;rintro _ g5 ⟨V3,rfl,o3,h3,w3,lo3⟩;have mS:=@aB.st _ _ o3;refine Rs (A4 t0 t1 t2 @mS) ?_;obtain⟨K5,hK5⟩:∃Z,Z=K4++g5:=⟨_,rfl⟩;have e5:Ext K4 K5:=by rw[hK5];exact⟨_,rfl⟩
 rw[<-hK5]at o3 ⊢;obtain⟨K6,hK6⟩:∃Z,Z=K5++[ak.b V3.row]:=⟨_,rfl⟩;have m12:K6[K5.length]? =some (.b V3.row):=by rw[hK6];exact a8
 have e6:Ext K5 K6:=by rw[hK6];exact⟨_,rfl⟩
 obtain⟨b12,hb12⟩:∃Z,Z=K5.length:=⟨_,rfl⟩;rw[<-hK6];rw[<-hb12]at m12 ⊢;clear hK5 hK6 hb12;have e16:Ext H0 K6:=(e14.trans e5).trans e6;refine WF.res T.c66 (r66 T (o.ext e16) sh nl t) ?_;rintro _ g6 ⟨V4,rfl,o4,h4,w4⟩;have st4:=@aB.st _ _ o4;refine Rs (A4 t0 t1 t2 @st4) ?_;obtain⟨K7,hK7⟩:∃Z,Z=K6++g6:=⟨_,rfl⟩;have e7:Ext K6 K7:=by rw[hK7];exact⟨_,rfl⟩
 rw[<-hK7]at o4 ⊢;obtain⟨K8,hK8⟩:∃Z,Z=K7++[ak.b V4.row]:=⟨_,rfl⟩;have m15:K8[K7.length]? =some (.b V4.row):=by rw[hK8];exact a8
 have e8:Ext K7 K8:=by rw[hK8];exact⟨_,rfl⟩
 obtain⟨b15,hb15⟩:∃Z,Z=K7.length:=⟨_,rfl⟩;rw[<-hK8];rw[<-hb15]at m15 ⊢;clear hK7 hK8 hb15;have e68:Ext K6 K8:=e7.trans e8;have e48:Ext K4 K8:=(e5.trans e6).trans e68;have e28:Ext K2 K8:=(e3.trans e4).trans e48;have e08:Ext H0 K8:=(e1.trans e2).trans e28;rw[<-hR];exact H8 T (i:=(bn (L.map EV.ev)).2.1) (e1:=(bn (L.map EV.ev)).2.2) (e2:=(kT (L.map EV.ev) t).2) (b4:=b4) (b7:=b7) (b10:=b10) (b12:=b12) (b15:=b15) ha (e0.trans e08) (o.ext e08) sh nl (gl.ext e08) (ox.ext e08) hx hn ((o1.ext e2).ext e28) ((o2.ext e4).ext e48) ((o3.ext e6).ext e68) (o4.ext e8) (h1.trans h3.symm) (h2.trans h4.symm) w1 w2 (e08.some m4) (e28.some m7) (e48.some m10) (e68.some m12) m15 Sn (Sq t0) Sw Sw Sw Sw Sw Sw Sw Sw Sw Sw Sw
end
end Go.Abs
