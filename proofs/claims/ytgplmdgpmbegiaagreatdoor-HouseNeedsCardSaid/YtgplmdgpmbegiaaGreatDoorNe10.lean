/- A part of the proof that HouseNeeds holds. No condition. -/
import Derived.Test.YtgplmdgpmbegiaaGreatDoorNe9
import Derived.Test.YtgplmdgpmbegiaaGreatDoorNe8
import Derived.Test.YtgplmdgpmbegiaaGreatDoorNe7
import Derived.Test.YtgplmdgpmbegiaaGreatDoorNe0
set_option maxHeartbeats 4000000
set_option linter.all false
open Nat (reduceAdd reduceMul reduceLeDiff reduceEqDiff)
namespace Go.Abs
def xX(k:Nat):ai:=(fn81).body.dr k
def EJ(k:Nat):ai:=((fn81).body.dr k).hd
def OK:fn81=⟨110,1,[(2,none),(3,some (some 7)),(4,none),(5,none)],.seq (EJ 0) (xX 1)⟩:=rfl
def OJ:xX 1=.seq (EJ 1) (xX 2):=rfl
def OI:xX 2=.seq (EJ 2) (xX 3):=rfl
def OH:xX 3=.seq (EJ 3) (xX 4):=rfl
def OG:xX 4=.seq (EJ 4) (xX 5):=rfl
def RS(M:Nat)(l:List dN):AV->ah->Prop:=λv k=>
 ∃(sc:AV) (V:RV) (C:List EV),v=.dL [sc,.agg V.row,.i (bF l).2.1,.i (bF l).2.2]/\aD k V/\V.an=(bF l).1.now/\eD V.an/\eE k C sc/\C.map EV.ev=(bF l).1.e8/\C.length<=1000/\∀i,some i∈V.bl->M<i
def NU(h:ah)(l:List dN):AV->ah->Prop:=λv k=>Ext h k/\RS h.length l v k
structure NB(h W:ah)(L:List EV)(k:Nat)(C:List EV)(A:List RV)(sc sa:AV):Prop where
 x:Ext h W
 b:W[h.length]? =some (.b k9)
 c:aH (fS [some h.length] W) sc 5 (C.map EV.row)
 ce:∀e∈C,bh (fS [some h.length] W) e
 a:aH (fS [some h.length] W) sa 7 ((RV.zero::A).map RV.row)
 ae:∀R∈A,aD (fS [some h.length] W) R
 al:∀R∈A,∀i,some i∈R.bl->h.length<i
 w:kY ⟨(L.take k).map EV.ev,C.map EV.ev,A.map RV.an⟩
 r:bF (L.map EV.ev)=jC ⟨(L.take k).map EV.ev,C.map EV.ev,A.map RV.an⟩ ((L.drop k).map EV.ev) k
def yW{W W2 b}(e:Ext W W2):jA (fS [some b] W) (fS [some b] W2):=nT (λi hi _=>e.get hi) λ_ _ h=>h
def BV{W b X}:jA (fS [some b] W) (W.set b X):=λi c mu tl hb=>by
 obtain⟨h1,h2⟩:=rH hb;have:i≠b:=λe=>h1 (by rw[e];simp)
 rw[ZV (aa3 this)];exact h2
def NB.ext{h W W2 L k C A sc sa}(s:NB h W L k C A sc sa)(e:Ext W W2):NB h W2 L k C A sc sa:=
 ⟨s.x.trans e,e.some s.b,s.c.sub (yW e),λy hy=>(s.ce y hy).sub (yW e),s.a.sub (yW e),λy hy=>(s.ae y hy).sub (yW e),s.al,s.w,s.r⟩
def Lj{h W}(e:Ext h W):jA h (fS [some h.length] W):=λi c mu tl hb=>by
 have hl:=(ZC.1 hb).1;rw[uj (by intro z;simp only[ZW,aaa]at z;omega)];exact e.some hb
def Cn{h k l i e}(he:e≠0)(hr:bF l=(iK.zero,i,e))(hx:Ext h k):NU h l (.dL [.af,.agg RV.zero.row,.i i,.i e]) k:=by
 refine⟨hx,.af,RV.zero,[],by rw[hr],aD.zero,by rw[hr];rfl,eD.zero,⟨.nil,λ_ h=>by cases h⟩,by rw[hr];rfl,Si,λi hi=>by simp[RV.zero,RV.bl,sB]at hi⟩
def Lf:Option AV->Option AV->Option AV->Option AV->Option AV
 |some a,some b,some c,some d=>some (.dL [a,b,c,d])
 |_,_,_,_=>none
def lI{a b c d}:Lf (some a) (some b) (some c) (some d)=some (.dL [a,b,c,d]):=rfl
def gC{ts h r s t u}:cU [r,s,t,u] ts h=Lf (dy ts h r) (dy ts h s) (dy ts h t) (dy ts h u):=by
 simp only[cU,iY];cases dy ts h r<;>cases dy ts h s<;>cases dy ts h t<;>cases dy ts h u<;>rfl
def MR{A n}(hn:n=A.length):(RV.zero::A)[n]? =some (A.getLastD RV.zero):=by
 subst hn;rcases kI A with rfl|⟨m,y,rfl⟩
 ·rfl
 ·simp
def AQ(A:List RV):(A.getLastD RV.zero).an=(A.map RV.an).getLastD dA.zero:=by
 rcases kI A with rfl|⟨m,y,rfl⟩
 ·rfl
 ·simp
set_option maxRecDepth 10000
attribute [local irreducible] WP WC WE WB WR WF WL WG gk WM
section
variable {P:Program}(T:fy P) {h W:ah}{ts:TS}
include T
def EI{L s}(o:eE h L s)(sh:uV L)(hnl:∀x∈L,∀n∈x.ev.names,n.length<2^63)(hl:L.length<=1000){sa}(st:NB h W L 0 [] [] .af sa)(hlen:ts.length=110)(t0:slot ts 0=s)(t3:slot ts 3=.ptr h.length 0)(t6:slot ts 6=.af)(t7:slot ts 7=sa):
  WC P bN (xX 4) [] ts W (FQ [(2,none),(3,some (some 7)),(4,none),(5,none)] (NU h (L.map EV.ev))):=by
 rw[OG];generalize hE:xX 5=E;unfold EJ fn81;simp only[ai.j,ai.s,ai.r,ai.dr,ai.tl,ai.hd];refine Rs (A4 t0 t3 t6 t7) ?_;refine WL.inv T.mix (λm ts W=>∃(k:Nat) (C:List EV) (A:List RV) (sc sa:AV),k<=L.length/\m=L.length-k/\NB h W L k C A sc sa/\ts.length=110/\slot ts 0=s/\slot ts 3=.ptr h.length 0/\slot ts 6=sc/\slot ts 7=sa/\slot ts 8=.i k) L.length
  ⟨0,[],[],.af,sa,Om,rfl,st,Sn,(Sq t0),(Sq t3),(Sq t6),(Sq t7),gP⟩ ?_
 clear t0 t3 t6 t7 hlen st;rintro _ ts W ⟨k,C,A,sc,sa,hk,rfl,st,hlen,t0,t3,t6,t7,t8⟩;have hAC:A.length=C.length:=by have:=st.w.ln;simpa using this
 have hCl:C.length<=L.length:=by have:=st.w.le;simp only[ZL,aaB]at this;omega
 have oW:=o.ext st.x;have Xb:=st.c.sub (jA.fS _ _);have sta:=st.a.sub (jA.fS _ _);have stae:∀R∈A,aD W R:=λR hR=>(st.ae R hR).sub (jA.fS _ _)
 obtain⟨N,hN⟩:∃N,N=A.getLastD RV.zero:=⟨_,rfl⟩;have hgN:(RV.zero::A)[C.length]? =some N:=by rw[hN];exact MR hAC.symm
 have hCA:C.length<(RV.zero::A).length:=by simp only[ZG];omega
 have hgN':(RV.zero::A)[C.length]=N:=by rw[ZH hCA]at hgN;exact aaE hgN
 have ix:aZ 7 sa (.i (C.length:Int))=some (cT sa 7 C.length,.ay):=sta.dE hCA;have ld:∀{kk:ah},Ext W kk->aq (some 7) (cT sa 7 C.length) (λb=>kk[b]?)=some (.agg N.row,.ay):=λ{kk} e=>by rw[<-hgN'];exact sta.kf hCA e
 have oN:aD (fS [some h.length] W) N:=by
  rcases kI A with hA|⟨m,y,hA⟩
  ·rw[hN,hA];exact aD.zero
  ·have:N=y:=by rw[hN,hA];simp
   rw[this];exact st.ae y (by rw[hA];simp)
 have lN:∀i,some i∈N.bl->h.length<i:=by
  rcases kI A with hA|⟨m,y,hA⟩
  ·intro i hi;rw[hN,hA]at hi;simp[RV.zero,RV.bl,sB]at hi
  ·have:N=y:=by rw[hN,hA];simp
   rw[this];exact st.al y (by rw[hA];simp)
 have hNr:N.an=(A.map RV.an).getLastD dA.zero:=by rw[hN];exact AQ A
 have wN:eD N.an:=by rw[hNr];exact st.w.now
 have hbl:=(ZC.1 st.b).1;by_cases hlt:k<L.length
 case neg=>
  have e3:=ff hlt;have e4:k=L.length:=Om
  have hr:=st.r;rw[e4,aaF]at hr;have VP:bF (L.map EV.ev)=(⟨(L.take L.length).map EV.ev,C.map EV.ev,A.map RV.an⟩,0,0):=hr;have Ud:=oN.J4 st.b;have gm:=oO (W:=W) (b:=h.length) (V:=N) hbl;refine Rs (A7 t0 t3 t6 t7 t8 oW.sl.aK e3) ?_;rw[<-hE];unfold xX fn81;simp only[ai.j,ai.s,ai.r,ai.dr,ai.tl];refine Rs (Bv t0 t3 t6 t7 t8 Xb.aK ix @ld @Ud @aF @gm @gC @c6 @c7 @lI) ?_;exact⟨st.x.hP (ZO _),sc,N,C,by rw[VP],oN.sub BV,by rw[VP,hNr];rfl,wN,⟨st.c.sub BV,λy hy=>(st.ce y hy).sub BV⟩,by rw[VP],Om,lN⟩
 have e3:=eC hlt;have e5:=wrapN (n:=k) Om;have ik:=oW.sl.dE (kk:=.i64) hlt;obtain⟨x,hx⟩:∃x,x=L[k]:=⟨_,rfl⟩;have Tm:x∈L:=by rw[hx];exact ZR _
 have lx:∀{kk:ah},Ext W kk->aq (some 5) (cT s 5 k) (λb=>kk[b]?)=some (.agg x.row,.ay):=λ{kk} e=>by rw[hx];exact oW.sl.kf hlt e
 have lx0:∀{kk:ah},Ext W kk->aq none (mD s 5 k 0) (λb=>kk[b]?)=some (.i x.ev.num,.ay):=λ{kk} e=>oW.sl.qz hlt (by rw[<-hx];rfl) e
 have lx1:∀{kk:ah},Ext W kk->aq none (mD s 5 k 1) (λb=>kk[b]?)=some (.str x.ev.kind,.ay):=λ{kk} e=>oW.sl.qz hlt (by rw[<-hx];rfl) e
 have ox:bh W x:=oW.all x Tm;have hd:L.drop k=x::L.drop (k+1):=by rw[hx];simp
 have SU:(L.take (k+1)).map EV.ev=(L.take k).map EV.ev++[x.ev]:=by rw[aao,ZH hlt,ZM,hx];rfl
 have SB:=st.r;rw[hd,aar,jC]at SB;obtain⟨H,hH⟩:∃H:iK,H=⟨(L.take k).map EV.ev,C.map EV.ev,A.map RV.an⟩:=⟨_,rfl⟩;rw[<-hH]at SB;have hHe:H.da.length=k:=by rw[hH];simp only[ZL,aaB];omega
 have wH:kY H:=by rw[hH];exact st.w
 have hNow:N.an=H.now:=by rw[hNr,hH];rfl
 have sbz:∀{kk:ah},Ext W kk->aU 7 (.ptr h.length 0) (.agg [AV.i 0,.af,.af,.af,.af,.af,.af]) (λz=>kk[z]?)=some (az,.set h.length (.b RV.zero.row)):=λ{kk} e=>(aD.zero (h:=W)).J4 (e.some st.b)
 have fin:∀{W' G:ah}{c:Int},Ext h W'->fJ H x.ev=c->c≠0->NU h (L.map EV.ev) (.dL [.af,.agg RV.zero.row,.i ((k+1:Nat):Int),.i c]) (W'.set h.length (.b RV.zero.row)++G):=by
  intro W' G c e hb h0;refine Cn h0 ?_ ((e.hP (ZO _)).trans ⟨G,rfl⟩);rw[SB,ZS (by rw[hb];exact h0),hb];simp
 have gmz:∀{W' G:ah},h.length<W'.length->aq (some 7) (.ptr h.length 0) (λz=>(W'.set h.length (.b RV.zero.row)++G)[z]?)=some (.agg RV.zero.row,.ay):=λ{W' G} hb=>by
  rw[aB (by rw[ZF (by rw[aap];exact hb)];exact ZU hb)];rfl
 have UL:=(sh.e x Tm);refine Rs (A9 t0 t3 t6 t7 t8 oW.sl.aK e3 @ik @lx) ?_;refine WF.ce T.c39 (r39 T (ox.ext Xx) ⟨Om,Om⟩ (hnl x Tm)) λg1=>?_
 obtain⟨W1,Uo⟩:∃Z,Z=W++g1:=⟨_,rfl⟩;rw[<-Uo];have e1:Ext W W1:=⟨g1,Uo⟩;have lx0:∀{kk:ah},Ext W1 kk->aq none (mD s 5 k 0) (λb=>kk[b]?)=some (.i x.ev.num,.ay):=λ{kk} e=>lx0 (e1.trans e)
 have lx1:∀{kk:ah},Ext W1 kk->aq none (mD s 5 k 1) (λb=>kk[b]?)=some (.str x.ev.kind,.ay):=λ{kk} e=>lx1 (e1.trans e)
 have lx:∀{kk:ah},Ext W1 kk->aq (some 5) (cT s 5 k) (λb=>kk[b]?)=some (.agg x.row,.ay):=λ{kk} e=>lx (e1.trans e)
 have ld:∀{kk:ah},Ext W1 kk->aq (some 7) (cT sa 7 C.length) (λb=>kk[b]?)=some (.agg N.row,.ay):=λ{kk} e=>ld (e1.trans e)
 have sbz:∀{kk:ah},Ext W1 kk->aU 7 (.ptr h.length 0) (.agg [AV.i 0,.af,.af,.af,.af,.af,.af]) (λz=>kk[z]?)=some (az,.set h.length (.b RV.zero.row)):=λ{kk} e=>sbz (e1.trans e)
 have Wt:h.length<W1.length:=by have:=e1.len;omega
 have WW:=λ{G:ah}=>gmz (G:=G) Wt
 have st:=st.ext e1;have stx:=st.x;have d11:decide ((11:Int)=0)=false:=rfl;have d11':decide ((11:Int)≠0)=true:=rfl;have d12:decide ((12:Int)=0)=false:=rfl;have d21:decide ((21:Int)=0)=false:=rfl;have d12':decide ((12:Int)≠0)=true:=rfl;have d21':decide ((21:Int)≠0)=true:=rfl;have d0:decide ((0:Int)=0)=true:=rfl;have d0':decide ((0:Int)≠0)=false:=rfl;by_cases h1:gW x.ev=0
 case neg=>
  have q1:decide (gW x.ev=0)=false:=ZD h1;have q2:decide (gW x.ev≠0)=true:=ZI h1;refine Rs (Bv t0 t3 t6 t7 t8 Xb.aK q1 q2 e5 @sbz @gC @c6 @c7 @lI @WW) ?_;exact fin stx (by rw[fJ,ZS h1]) h1
 have q1:decide (gW x.ev=0)=true:=ZI h1;have q1':decide (gW x.ev≠0)=false:=ZD (λz=>z h1);obtain⟨d,we⟩:=uy h1;have hkD:=we.kE;have SD:x.ev.kind=bz d:=cj we.kd;have Xp:fJ H x.ev=kD H x.ev:=by rw[fJ,ZN (λz=>z h1)]
 by_cases h2:x.ev.num=((k+1:Nat):Int)
 case neg=>
  have q3:decide (x.ev.num≠((k+1:Nat):Int))=true:=ZI h2;refine Rs (NW t0 t3 t6 t7 t8 Xb.aK q1 @ik @lx0 e5 q3 @d11 @d11' @sbz @gC @c6 @c7 @lI @WW) ?_;exact fin stx (by rw[Xp,kD,ZS (by rw[hHe];simpa using h2)]) De
 have q3:decide (x.ev.num≠((k+1:Nat):Int))=false:=ZD (λz=>z h2);have hacc:¬x.ev.num≠(H.da.length:Int)+1:=by rw[hHe];simpa using h2
 by_cases hu:d=.eV
 case pos=>
  have hK:kE x.ev=.eV:=by rw[hkD,hu]
  have q4:decide (bz d=[117,110,100,111])=true:=by rw[oG,hu];rfl
  rcases kI C with hC|⟨M,c,hC⟩
  ·have q5:decide ((C.length:Int)=0)=true:=by rw[hC];rfl
   refine Rs (RX t0 t3 t6 t7 t8 Xb.aK q1 @ik @lx0 @lx1 e5 q3 @SD q4 q5 @d12 @d12' @sbz @gC @c6 @c7 @lI @WW) ?_;refine fin (c:=12) stx ?_ De;rw[Xp,kD,ZN hacc,ZS hK,hH,hC];rfl
  ·have hCl2:C.length=M.length+1:=by rw[hC];simp
   have q5:decide ((C.length:Int)=0)=false:=ZD Om;have w1:IntKind.i64.wrap ((C.length:Int)-1)=(M.length:Int):=by rw[bj Om Om];omega
   have hMl:M.length<C.length:=Om
   have hcM:C[M.length]=c:=by simp[hC]
   have ic:aZ 5 sc (.i (M.length:Int))=some (cT sc 5 M.length,.ay):=Xb.dE hMl;have lc:∀{kk:ah},Ext W1 kk->aq none (mD sc 5 M.length 1) (λb=>kk[b]?)=some (.str c.ev.kind,.ay):=λ{kk} e=>Xb.qz hMl (by rw[hcM];rfl) (e1.trans e)
   obtain⟨dc,wc⟩:=st.w.cn c.ev (ZT (by rw[hC];simp));have hkc:c.ev.kind=bz dc:=cj wc.kd;have hlast:H.e8.getLast? =some c.ev:=by rw[hH,hC];simp
   by_cases hr:dc=.rel
   ·have q6:decide (bz dc=[114,101,108,101,97,115,101])=true:=by rw[qN,hr];rfl
    repeat (first|simp (config:={maxSteps:=1000000}) only[aS,aW,bo,bp,reduceAdd,reduceMul,reduceLeDiff,reduceEqDiff,bw,hlen,ZY,Z1,t0,t3,t6,t7,t8,Xb.aK,q1,ik,lx0,lx1,e5,q3,SD,q4,q5,w1,ic,lc,hkc,q6,d21,d21',sbz,gC,c6,c7,lI,WW]|simp (config:={maxSteps:=1000000}) (disch:=first|(simp only[ZB,ZG,ZJ]<;>omega)|rfl|omega|fail) only[fN,aS,aW,bo,bp,reduceAdd,reduceMul,reduceLeDiff,reduceEqDiff,bw,hlen,ZY,Z1,t0,t3,t6,t7,t8,Xb.aK,q1,ik,lx0,lx1,e5,q3,SD,q4,q5,w1,ic,lc,hkc,q6,d21,d21',sbz,gC,c6,c7,lI,WW])
    refine fin (c:=21) stx ?_ De;rw[Xp,kD,ZN hacc,ZS hK,hlast];simp only[wc.kE,hr,Z1]
   ·have q6:decide (bz dc=[114,101,108,101,97,115,101])=false:=by rw[qN];exact ZD hr
    have TM:fJ H x.ev=0:=by
     rw[Xp,kD,ZN hacc,ZS hK,hlast];simp only[wc.kE,hr,ZY]
    obtain⟨S3,ec,hsc⟩:=st.c.GR (lo:=none) (hi:=some (.i (M.length:Int))) (jQ Om);obtain⟨sa',ea,hsa⟩:=st.a.GR (lo:=none) (hi:=some (.i (C.length:Int))) (jQ (by simp;omega));refine Rs (Kg t0 t3 t6 t7 t8 Xb.aK q1 @ik @lx0 @lx1 e5 q3 @SD q4 q5 @w1 @ic @lc @hkc q6 @ec @ea) ?_;rcases kI A with hA|⟨D,R,hA⟩
    ·rw[hA]at hAC;simp only[ZJ]at hAC;omega
    have hCM:List.take (M.length-0) (List.drop 0 C)=M:=by rw[hC];simp
    have hDl:D.length=M.length:=by have:=hAC;rw[hA]at this;simp only[ZB,Z4]at this;omega
    have hAD:List.take (C.length-0) (List.drop 0 (RV.zero::A))=RV.zero::D:=by
     rw[hCl2,hA,Nat.sub_zero,aa0,abu,<-hDl];simp
    rw[hCM]at hsc;rw[hAD]at hsa;have Vi:kX H x.ev=⟨(L.take (k+1)).map EV.ev,M.map EV.ev,D.map RV.an⟩:=by
     rw[kX,ZS hK,hH,SU,hC,hA];simp
    refine⟨_,Om,k+1,M,D,S3,sa',Om,rfl,⟨stx,st.b,hsc,λy hy=>st.ce y (by rw[hC];simp[hy]),hsa,λy hy=>st.ae y (by rw[hA];simp[hy]),λy hy=>st.al y (by rw[hA];simp[hy]),?_,?_⟩,rfl,rfl,rfl⟩
    ·rw[<-Vi];exact wH.add TM
    ·rw[SB,ZN (λz=>z TM),Vi]
 case neg=>
 have hK:kE x.ev≠.eV:=by rw[hkD];exact hu
 have q4:decide (bz d=[117,110,100,111])=false:=by rw[oG];exact ZD hu
 have hacs:fJ H x.ev=gL N.an x.ev d:=by rw[Xp,kD,ZN hacc,ZN hK,hkD,<-hNow]
 refine Rs (Kh t0 t3 t6 t7 t8 Xb.aK q1 @ik @lx0 @lx1 @lx e5 q3 @SD q4 ix @ld) ?_;have X4:=ox.ext e1;have oN1:aD W1 N:=(oN.sub (jA.fS _ _)).ext e1;refine WF.res T.c129 (r129 T (d:=d) (oN1.ext Xx) wN (X4.ext Xx) we hu) ?_;rintro _ g2 ⟨V',rfl,YQ,XU⟩;obtain⟨W2,S0⟩:∃Z,Z=W1++[ak.b [AV.i 0,.af,.af,.af,.af,.af,.af]]++g2:=⟨_,rfl⟩;rw[<-S0]at YQ ⊢;have e2:Ext W1 W2:=by rw[S0,ZE];exact⟨_,rfl⟩
 have m2:W2[W1.length]? =some (.b k9):=by
  rw[S0];exact(show Ext (W1++[ak.b k9]) _ from⟨g2,rfl⟩).some aV
 have hl2:W1.length<W2.length:=(ZC.1 m2).1;have sbn:=YQ.J4 m2;obtain⟨W3,SR⟩:∃Z,Z=W2.set W1.length (.b V'.row):=⟨_,rfl⟩;have e3':Ext W1 W3:=by rw[SR];exact e2.hP (ZO _)
 have x3:Ext h W3:=stx.trans e3';have m3:W3[W1.length]? =some (.b V'.row):=by rw[SR];exact ZU hl2
 have Zh:W3.length=W2.length:=by rw[SR,aap]
 have k3:∀i,i≠W1.length->W3[i]? =W2[i]? :=λi hi=>by rw[SR,ZV (aa3 hi)]
 have sbz3:=sbz e3';have gmz3:aq (some 7) (.ptr h.length 0) (λz=>(W3.set h.length (.b RV.zero.row))[z]?)=some (.agg RV.zero.row,.ay):=oO Om;have nW:=st.ext e3';by_cases h5:gL N.an x.ev d=0
 case neg=>
  have q5:decide (gL N.an x.ev d≠0)=true:=ZI h5;have ef:=fin (W':=W3) (G:=[]) x3 hacs h5;rw[Z6]at ef;rw[SR]at sbz3 gmz3 ef;refine Rs (xJ t0 t3 t6 t7 t8 @sbn q5 e5 @sbz3 @gC @c6 @c7 @lI @gmz3) ?_;exact ef
 have q5:decide (gL N.an x.ev d≠0)=false:=ZD (λz=>z h5);have TM:fJ H x.ev=0:=by rw[hacs,h5]
 obtain⟨hVr,hVb⟩:=XU h5;have hVb:∀i,some i∈V'.bl->W1.length<i:=λi hi=>by have:=hVb i hi;simp only[ZB,Z4]at this;omega
 refine Rs (A7 t0 t3 t6 t7 t8 @sbn q5) ?_;rw[<-SR];have stc3:=nW.c.sub (jA.fS _ _);refine WR.pQ (N:=W3.length) (w:=88) aV (ZO _) (stc3.ext Xx) (by rw[ZL];omega) λa1 y1 f1=>?_
 have p1:=f1.aX.one;obtain⟨Y,hY⟩:∃Z,Z=W3++[ak.b []]++y1:=⟨_,rfl⟩;rw[<-hY]at f1 ⊢;have eY:Ext W3 Y:=by rw[hY,ZE];exact⟨_,rfl⟩
 have lxY:∀{kk:ah},Ext Y kk->aq (some 5) (cT s 5 k) (λb=>kk[b]?)=some (.agg x.row,.ay):=λ{kk} e=>lx ((e3'.trans eY).trans e)
 have bs:=@bh.Hx _ _ ox;refine Rs (A9 t0 t3 t6 t7 t8 @ik @lxY @bs @p1) ?_;refine WR.qB (B:=W3) (cs:=C.map EV.row) f1 rfl eY De (by rw[ZL];omega) ?_;intro W4 s4 x4 hf4 hn4 q4' l4 hk4;have hrow:C.map EV.row++[x.row]=(C++[x]).map EV.row:=by rw[ZM];rfl
 rw[hrow]at hf4;have st4:=nW.ext x4;have sta4:=st4.a.sub (jA.fS _ _);refine Rs (A5 t0 t3 t6 t7 t8) ?_;refine WR.pQ (N:=W4.length) (w:=152) aV (ZO _) (sta4.ext Xx) (by simp only[ZL,ZG];omega) λa2 y2 f2=>?_
 have p2:=f2.aX.one;obtain⟨Y2,UX⟩:∃Z,Z=W4++[ak.b []]++y2:=⟨_,rfl⟩;rw[<-UX]at f2 ⊢;have Vm:Ext W4 Y2:=by rw[UX,ZE];exact⟨_,rfl⟩
 have lnx:∀{kk n a},Ext Y2 kk->aq n (.ptr W1.length a) (λz=>kk[z]?)=dJ n a (.b V'.row):=λ{_ _ _} e=>aB (((x4.trans Vm).trans e).some m3)
 have bv:=@aD.Hx _ _ YQ;refine Rs (A9 t0 t3 t6 t7 t8 @lnx @aF @bv @p2) ?_;refine WR.qB (B:=W4) (cs:=(RV.zero::A).map RV.row) f2 rfl Vm De (by simp only[ZL,ZG];omega) ?_;intro W5 s5 x5 Zo hn5 q5' l5 hk5;have hrow2:(RV.zero::A).map RV.row++[V'.row]=(RV.zero:: (A++[V'])).map RV.row:=Si
 rw[hrow2]at Zo;have st5:=st4.ext x5;have oV5:aD W5 V':=((YQ.ay λi hi=>k3 i (by have:=hVb i hi;omega)).ext x4).ext x5;have Vi:kX H x.ev=⟨(L.take (k+1)).map EV.ev,(C++[x]).map EV.ev,(A++[V']).map RV.an⟩:=by
  rw[kX,ZN hK,hkD,hH,SU];simp only[ZM,aar,abn,hVr];rw[<-hNow,hH]at *
  first|rfl|simp[hNr,iK.now]
 have hlW3:h.length<W3.length:=Om
 have hl4:W3.length<=W4.length:=x4.len;refine Rs (A6 t0 t3 t6 t7 t8 e5) ?_;refine⟨_,Om,k+1,C++[x],A++[V'],s4,s5,Om,rfl,⟨x3.trans (x4.trans x5),st5.b,(hf4.ext x5).aX.fS λb hb z=>?_,λy hy=>?_,Zo.aX.fS λb hb z=>?_,λR hR=>?_,λR hR=>?_,?_,?_⟩,rfl,rfl,rfl⟩
 ·have:=(hf4.bP hb).1;exact ND
 ·rcases ZK.1 hy with hy|hy
  ·exact st5.ce y hy
  ·rw[ZW]at hy;rw[hy];exact(o.all x Tm).sub (Lj (x3.trans (x4.trans x5)))
 ·have:=(Zo.bP hb).1;exact ND
 ·rcases ZK.1 hR with hR|hR
  ·exact st5.ae R hR
  ·rw[ZW]at hR;rw[hR];exact oV5.fS λi hi z=>by
    have:=hVb i hi;exact ND
 ·rcases ZK.1 hR with hR|hR
  ·exact st5.al R hR
  ·rw[ZW]at hR;rw[hR];intro i hi;have:=hVb i hi;omega
 ·rw[<-Vi];exact wH.add TM
 ·rw[SB,ZN (λz=>z TM),Vi]
def r81{L s}(o:eE h L s)(sh:uV L)(hnl:∀x∈L,∀n∈x.ev.names,n.length<2^63):aA P 81 [s] h (RS h.length (L.map EV.ev)):=by
 refine .of T.mix (acd T.c81 (aai some OK)) ?_;obtain⟨ts,Sv⟩:∃ts,ts=aT 110 [s]:=⟨_,rfl⟩;have hlen:ts.length=110:=by rw[Sv];rfl
 have t0:slot ts 0=s:=by rw[Sv];rfl
 show WC P bN (.seq (EJ 0) (xX 1)) [] (aT 110 [s]) h (FQ [(2,none),(3,some (some 7)),(4,none),(5,none)] (NU h (L.map EV.ev)));rw[<-Sv];clear Sv;have hsl:=sh.l;by_cases h1:1000<L.length
 ·have q1:decide ((1000:Int)<(L.length:Int))=true:=ZI Om;have e:bF (L.map EV.ev)=(iK.zero,0,5):=by rw[bF,ZS (by simpa using h1)]
  have m0:(h++[ak.b k9])[h.length]? =some (.b k9):=aV;have sbz:aU 7 (.ptr h.length 0) (.agg [AV.i 0,.af,.af,.af,.af,.af,.af]) (λz=>(h++[ak.b k9])[z]?)=some (az,.set h.length (.b RV.zero.row)):=(aD.zero (h:=h)).J4 m0;unfold k9 at sbz;have gmz:aq (some 7) (.ptr h.length 0) (λz=>(h++[ak.b RV.zero.row])[z]?)=some (.agg RV.zero.row,.ay):=by rw[aB aV];rfl
  unfold xX EJ fn81;simp only[ai.j,ai.s,ai.r,ai.dr,ai.tl,ai.hd];refine Rs (A9 t0 o.sl.aK q1 @sbz @gC @c6 @c7 @lI @gmz) ?_;exact Cn De e Xx
 have q1:decide ((1000:Int)<(L.length:Int))=false:=ZD Om;rw[OJ,OI,OH];generalize hR:xX 4=R;unfold EJ fn81;simp only[ai.j,ai.s,ai.r,ai.dr,ai.tl,ai.hd];refine Rs (A3 t0 o.sl.aK q1) ?_;rw[<-hR];have hx:Ext h (h++[ak.b k9]++[ak.cells RV.zero.row true true]):=Xx;have fz:Fr (h.length+1) (h++[ak.b k9]++[ak.cells RV.zero.row true true]) (.slice (h.length+1) 0 1 7) 7 [RV.zero.row]:=by
  have:=Fr.push (h:=h++[ak.b k9]) (N:=h.length+1) (es:=7) Si [RV.zero.row] (λx hx=>by rw[ZW]at hx;rw[hx];rfl)
  simpa using this
 refine EI T (sa:=.slice (h.length+1) 0 1 7) (W:=h++[ak.b k9]++[ak.cells RV.zero.row true true]) o sh hnl Om ⟨hx,Si,.nil,(λ_ h=>by cases h),fz.aX.fS λb hb z=>?_,(λ_ h=>by cases h),(λ_ h=>by cases h),kY.zero,?_⟩ Sn (Sq t0) Sw Sw (by simp only[aS,aW,bo,bp,reduceAdd,reduceMul,reduceLeDiff,reduceEqDiff,bw,hlen,ZY,Z1];simp)
 ·have:=(fz.bP hb).1;exact ND
 ·rw[bF,ZN (by simpa using h1)];rfl
end
structure RU(L:List EV):Prop where
 n:∀x∈L,∀n∈x.ev.names,n.length<2^63
section
variable {P:Program}(T:fy P) {h:ah}
include T
def r18{L s}(o:eE h L s)(sh:uV L)(nl:RU L):aA P 18 [s] h (λv k=>∃V:RV,v=.dL [.agg V.row,.i (bF (L.map EV.ev)).2.1,.i (bF (L.map EV.ev)).2.2]/\aD k V/\V.an=(bF (L.map EV.ev)).1.now/\eD V.an/\∀i,some i∈V.bl->h.length<i):=by
 refine .lB 19 T.mix T.c18 ?_;intro ts hlen t0;unfold fn18 gA;refine Rs t0 ?_;refine WF.res T.c81 (r81 T (o.ext Xx) sh nl.n) ?_;rintro _ g ⟨sc,V,C,rfl,oV,hV,wV,oC,hC,hCl,lo⟩;have lo:∀i,some i∈V.bl->h.length+1<i:=λi hi=>by have:=lo i hi;simpa using this
 have st:=@aD.st _ _ oV;refine Rs (A3 t0 @st @aF) ?_;refine⟨V,rfl,?_,hV,wV,λi hi=>by have:=lo i hi;omega⟩;have:=oV.ay (k:=h++[ak.b V.row]++g) λj hj=>ur (by have:=lo j hj;omega)
 exact this.ext Xx
end
def y0(e:dN):Bool:=decide (e.kind.length<=40)&&decide (e.names.length<=6)&&decide (e.cB.length<=8)&&decide (e.text.length<=200)&&e.names.all λx=>decide (x.length<=40)
section
variable {P:Program}(T:fy P) {h:ah}
include T
def r14{L s}(o:eE h L s)(hl:L.length<2^63)(hn:∀x∈L,x.ev.names.length<2^63){n}(h0:n<=1000):aA P 14 [s,.i n] h (λv _=>v=.bool (iO (L.map EV.ev) n)):=by
 refine .eP 71 T.mix T.c14 ?_;intro ts hlen t0 t1;unfold fn14 gA;by_cases h1:n<L.length
 ·have q1:decide (n<(L.length:Int))=true:=ZI h1;refine Rs (A4 t0 t1 o.sl.aK q1) ?_;rw[iO,ZD (by simpa using h1)];rfl
 have q1:decide (n<(L.length:Int))=false:=ZD h1;have hsh:iO (L.map EV.ev) n=L.all (λy=>y0 y.ev):=by
  rw[iO,ZI (by simp;omega),aa4,List.all_map];rfl
 rw[hsh];refine Rs (A4 t0 t1 o.sl.aK q1) ?_;refine WL.inv T.mix (λm ts h'=>∃k:Nat,k<=L.length/\m=L.length-k/\h' =h/\L.all (λy=>y0 y.ev)=(L.drop k).all (λy=>y0 y.ev)/\ts.length=71/\slot ts 0=s/\slot ts 5=.i k) L.length
  ⟨0,Om,rfl,rfl,rfl,Sn,(Sq t0),gP⟩ ?_
 clear t0 t1 hlen;rintro _ ts h' ⟨k,hk,rfl,rfl,hi,hlen,t0,t5⟩;by_cases hlt:k<L.length
 case neg=>
  have e3:=ff hlt;have e4:k=L.length:=Om
  rw[e4,aaF]at hi;refine Rs (A4 t0 t5 o.sl.aK e3) ?_;rw[hi];rfl
 have e3:=eC hlt;have e5:=wrapN (n:=k) Om;have ik:=o.sl.dE (kk:=.i64) hlt;obtain⟨x,hx⟩:∃x,x=L[k]:=⟨_,rfl⟩;have Tm:x∈L:=by rw[hx];exact ZR _
 have ox:=o.all x Tm;have hd:L.drop k=x::L.drop (k+1):=by rw[hx];simp
 rw[hd,abc]at hi;have l1:∀{kk:ah},Ext h' kk->aq none (mD s 5 k 1) (λb=>kk[b]?)=some (.str x.ev.kind,.ay):=λ{kk} e=>o.sl.qz hlt (by rw[<-hx];rfl) e
 have l2:∀{kk:ah},Ext h' kk->aq none (mD s 5 k 2) (λb=>kk[b]?)=some (x.sn,.ay):=λ{kk} e=>o.sl.qz hlt (by rw[<-hx];rfl) e
 have l3:∀{kk:ah},Ext h' kk->aq none (mD s 5 k 3) (λb=>kk[b]?)=some (x.sv,.ay):=λ{kk} e=>o.sl.qz hlt (by rw[<-hx];rfl) e
 have l4:∀{kk:ah},Ext h' kk->aq none (mD s 5 k 4) (λb=>kk[b]?)=some (.str x.ev.text,.ay):=λ{kk} e=>o.sl.qz hlt (by rw[<-hx];rfl) e
 have dc:∀a b:Nat,decide ((b:Int)<(a:Int))= !decide (a<=b):=λa b=>by
  by_cases hc:a<=b
  ·rw[ZI hc,ZD Om];rfl
  ·rw[ZD hc,ZI Om];rfl
 have c1:decide ((40:Int)<(x.ev.kind.length:Int))= !decide (x.ev.kind.length<=40):=dc _ 40;have c2:decide ((6:Int)<(x.ev.names.length:Int))= !decide (x.ev.names.length<=6):=dc _ 6;have c3:decide ((8:Int)<(x.ev.cB.length:Int))= !decide (x.ev.cB.length<=8):=dc _ 8;have c4:decide ((200:Int)<(x.ev.text.length:Int))= !decide (x.ev.text.length<=200):=dc _ 200;have bad:y0 x.ev=false->L.all (λy=>y0 y.ev)=false:=λhb=>by rw[hi,hb];rfl
 by_cases b1:x.ev.kind.length<=40
 case neg=>
  have d1:decide (x.ev.kind.length<=40)=false:=ZD b1;refine Rs (A9 t0 t5 o.sl.aK e3 @ik @l1 @c1 @d1 @aab) ?_;rw[bad (by simp only[y0,d1,abC])]
 have d1:decide (x.ev.kind.length<=40)=true:=ZI b1;by_cases b2:x.ev.names.length<=6
 case neg=>
  have d2:decide (x.ev.names.length<=6)=false:=ZD b2;refine Rs (xJ t0 t5 o.sl.aK e3 @ik @l1 @l2 @c1 @d1 @c2 @d2 ox.n.aK @aab @Z7) ?_;rw[bad (by simp only[y0,d2,Bool.and_false,abC])]
 have d2:decide (x.ev.names.length<=6)=true:=ZI b2;by_cases b3:x.ev.cB.length<=8
 case neg=>
  have d3:decide (x.ev.cB.length<=8)=false:=ZD b3;refine Rs (Ec t0 t5 o.sl.aK e3 @ik @l1 @l2 @l3 @c1 @d1 @c2 @d2 @c3 @d3 ox.n.aK ox.v.aK @aab @Z7) ?_;rw[bad (by simp only[y0,d3,Bool.and_false,abC])]
 have d3:decide (x.ev.cB.length<=8)=true:=ZI b3;by_cases b4:x.ev.text.length<=200
 case neg=>
  have d4:decide (x.ev.text.length<=200)=false:=ZD b4;refine Rs (Q4 t0 t5 o.sl.aK e3 @ik @l1 @l2 @l3 @l4 @c1 @d1 @c2 @d2 @c3 @d3 @c4 @d4 ox.n.aK ox.v.aK @aab @Z7) ?_;rw[bad (by simp only[y0,d4,Bool.and_false,abC])]
 have d4:decide (x.ev.text.length<=200)=true:=ZI b4;have Y8:y0 x.ev=x.ev.names.all λz=>decide (z.length<=40):=by simp only[y0,d1,d2,d3,d4,aa4]
 rw[Y8]at hi bad;refine Rs (NV t0 t5 o.sl.aK e3 @ik @l1 @l2 @l3 @l4 @c1 @d1 @c2 @d2 @c3 @d3 @c4 @d4 ox.n.aK ox.v.aK @Z7) ?_;refine WL.inv T.mix (λm ts h1=>∃j:Nat,j<=x.ev.names.length/\m=x.ev.names.length-j/\h1=h'/\(x.ev.names.all λz=>decide (z.length<=40))=(x.ev.names.drop j).all (λz=>decide (z.length<=40))/\ts.length=71/\slot ts 0=s/\slot ts 5=.i k/\slot ts 6=.i j) x.ev.names.length
  ⟨0,Om,rfl,rfl,rfl,Sn,(Sq t0),(Sq t5),gP⟩ ?_
 clear t0 t5 hlen;rintro _ ts h1 ⟨j,hj,rfl,rfl,hij,hlen,t0,t5,t6⟩;by_cases Uv:j<x.ev.names.length
 ·have f3:decide ((j:Int)<x.ev.names.length)=true:=ZI Om;have f5:IntKind.i64.wrap ((j:Int)+1)=((j+1:Nat):Int):=wrapN Om;have ij:=ox.n.dE (kk:=.i64) Uv;have ln:=ox.n.kg (i:=j) (x:=.str x.ev.names[j]) Uv rfl (Ext.refl _);have c5:decide ((40:Int)<(x.ev.names[j].length:Int))= !decide (x.ev.names[j].length<=40):=dc _ 40;have Vf:x.ev.names.drop j=x.ev.names[j]::x.ev.names.drop (j+1):=Si
  rw[Vf,abc]at hij;cases hz:decide (x.ev.names[j].length<=40)with
  |true=>
   rw[hz,aa4]at hij
   repeat (first|simp (config:={maxSteps:=1000000}) only[aS,aW,bo,bp,reduceAdd,reduceMul,reduceLeDiff,reduceEqDiff,bw,hlen,ZY,Z1,t0,t5,t6,ik,l2,ox.n.aK,f3,ij,ln,c5,hz,Z7,f5]|simp (config:={maxSteps:=1000000}) (disch:=first|(simp only[ZB,ZG,ZJ]<;>omega)|rfl|omega|fail) only[fN,aS,aW,bo,bp,reduceAdd,reduceMul,reduceLeDiff,reduceEqDiff,bw,hlen,ZY,Z1,t0,t5,t6,ik,l2,ox.n.aK,f3,ij,ln,c5,hz,Z7,f5])
   exact⟨_,Om,j+1,Om,rfl,hij,rfl⟩
  |false=>
   rw[hz,abC]at hij
   repeat (first|simp (config:={maxSteps:=1000000}) only[aS,aW,bo,bp,reduceAdd,reduceMul,reduceLeDiff,reduceEqDiff,bw,hlen,ZY,Z1,t0,t5,t6,ik,l2,ox.n.aK,f3,ij,ln,c5,hz,aab]|simp (config:={maxSteps:=1000000}) (disch:=first|(simp only[ZB,ZG,ZJ]<;>omega)|rfl|omega|fail) only[fN,aS,aW,bo,bp,reduceAdd,reduceMul,reduceLeDiff,reduceEqDiff,bw,hlen,ZY,Z1,t0,t5,t6,ik,l2,ox.n.aK,f3,ij,ln,c5,hz,aab])
   rw[bad hij]
 ·have f3:decide ((j:Int)<x.ev.names.length)=false:=ZD Om;have f4:j=x.ev.names.length:=Om
  rw[f4,aaF]at hij;rw[hij,List.all_nil,aa4]at hi;refine Rs (A8 t0 t5 t6 @ik @l2 ox.n.aK @f3 e5) ?_;exact⟨_,Om,k+1,Om,rfl,hi,rfl⟩
end
theorem qG{α:Type}{row:α->List AV}{Q:α->Prop}:∀{cs:List (List AV)},(∀c∈cs,∃x,c=row x/\Q x)->∃L:List α,cs=L.map row/\∀x∈L,Q x
 |[],_=>⟨[],rfl,λ_ h=>by cases h⟩
 |c::cs,h=>by
  obtain⟨x,rfl,hx⟩:=h c (aan ..);obtain⟨L,rfl,hL⟩:=qG (cs:=cs) λc hc=>h c (Z8 _ hc)
  exact⟨x::L,rfl,λy hy=>(aag.1 hy).elim (λe=>e▸hx) (hL y)⟩
def jm{n}(h:n<=maxLen):n<2^63:=by unfold maxLen at h;omega
def BP{h k a}(x:TY h (.int k) a):∃z,a=.int k z/\(Lit.int k z).wf=true:=by rw[TY]at x;exact x
def xM{h a}(x:TY h .str a):∃s:By,a=.str s/\s.length<=maxLen:=by rw[TY]at x;exact x
def BO{h r a}(x:TY h (.sl r) a):∃cs:List (List AV),aH h a r.length cs/\cs.length<=maxLen/\∀c∈cs,jj h r c:=by rw[TY]at x;exact x
def tW{h l}(x:jj h [] l):l=[]:=by rw[jj]at x;exact x
def jq{h t ts l}(x:jj h (t::ts) l):∃a l',l=a::l'/\TY h t a/\jj h ts l':=by rw[jj]at x;exact x
def BN{h l}(x:sS h [] l):l=[]:=by rw[sS]at x;exact x
def Aj{h t ts l}(x:sS h (t::ts) l):∃a l',l=a::l'/\JW h t a/\sS h ts l':=by rw[sS]at x;exact x
def Ej{h:ah}{a:AV}(x:TY h (.sl [.str]) a):∃L:List (By),aH h a 1 (L.map ao)/\L.length<=maxLen/\∀s∈L,s.length<=maxLen:=by
 obtain⟨cs,hs,hl,hc⟩:=BO x;obtain⟨L,rfl,hL⟩:=qG (row:=ao) (Q:=λs=>s.length<=maxLen) λc Xo=>by
  obtain⟨_,_,rfl,h1,x⟩:=jq (hc c Xo);obtain rfl:=tW x;obtain⟨s,rfl,hs⟩:=xM h1;exact⟨s,rfl,hs⟩
 exact⟨L,hs,by simpa using hl,hL⟩
def Ek{h:ah}{a:AV}(x:TY h (.sl [.int .i64]) a):∃L:List Int,aH h a 1 (L.map aM)/\L.length<=maxLen/\∀z∈L,(Lit.int .i64 z).wf=true:=by
 obtain⟨cs,hs,hl,hc⟩:=BO x;obtain⟨L,rfl,hL⟩:=qG (row:=aM) (Q:=λz=>(Lit.int .i64 z).wf=true) λc Xo=>by
  obtain⟨_,_,rfl,h1,x⟩:=jq (hc c Xo);obtain rfl:=tW x;obtain⟨s,rfl,hs⟩:=BP h1;exact⟨s,rfl,hs⟩
 exact⟨L,hs,by simpa using hl,hL⟩
def FE:List CT:=[.int .i64,.str,.sl [.str],.sl [.int .i64],.str]
structure JX(x:EV):Prop where
 n:x.ev.names.length<2^63
 v:x.ev.cB.length<2^63
 nn:∀n∈x.ev.names,n.length<2^63
 i:(Lit.int .i64 x.ev.num).wf=true
 k:x.ev.kind.length<2^63
 t:x.ev.text.length<2^63
 iv:∀z∈x.ev.cB,(Lit.int .i64 z).wf=true
def HX{h c}(x:jj h FE c):∃y:EV,c=y.row/\bh h y/\JX y:=by
 obtain⟨_,_,rfl,h1,x⟩:=jq x;obtain⟨_,_,rfl,h2,x⟩:=jq x;obtain⟨sn,_,rfl,h3,x⟩:=jq x;obtain⟨sv,_,rfl,h4,x⟩:=jq x;obtain⟨_,_,rfl,h5,x⟩:=jq x;obtain rfl:=tW x;obtain⟨n,rfl,hn⟩:=BP h1;obtain⟨k,rfl,hk⟩:=xM h2;obtain⟨N,hN,hNl,hNs⟩:=Ej h3;obtain⟨W,hW,hWl,hWs⟩:=Ek h4;obtain⟨t,rfl,ht⟩:=xM h5;exact⟨⟨⟨n,k,N,W,t⟩,sn,sv⟩,rfl,⟨hN,hW⟩,⟨jm hNl,jm hWl,λs hs=>jm (hNs s hs),hn,jm hk,jm ht,hWs⟩⟩
structure D3(L:List EV):Prop where
 l:L.length<2^63
 e:∀x∈L,JX x
def Ei{h:ah}{a:AV}(x:JW h (.one (.sl FE)) a):∃L:List EV,eE h L a/\D3 L:=by
 obtain⟨cs,hs,hl,hc⟩:=BO (h:=h) x;obtain⟨L,rfl,hL⟩:=qG (row:=EV.row) (Q:=λy=>bh h y/\JX y) λc Xo=>HX (hc c Xo)
 exact⟨L,⟨hs,λy hy=>(hL y hy).1⟩,⟨jm (by simpa using hl),λy hy=>(hL y hy).2⟩⟩
def vm{L n}(h:iO (L.map EV.ev) n=true)(hn:n<=1000):uV L/\RU L/\L.length<=1000/\∀x∈L,y0 x.ev=true:=by
 rw[iO,aad,aah,ZL]at h;have ha:∀x∈L,y0 x.ev=true:=λx hx=>aae.1 h.2 _ (ZT hx)
 have key:∀x∈L,x.ev.names.length<=6/\x.ev.cB.length<=8/\∀n∈x.ev.names,n.length<=40:=λx hx=>by
  have:=ha x hx;simp only[y0,aad,aah,aae]at this;exact⟨this.1.1.1.2,this.1.1.2,this.2⟩
 refine⟨⟨Om,λx hx=>?_⟩,⟨λx hx n hn=>?_⟩,Om,ha⟩
 ·have:=key x hx;omega
 ·have:=(key x hx).2.2 n hn;omega
def rF{R:dA}{n:By}(w:eD R):((dP R n).map cQ.name).length<=32:=by
 have h1:(dP R n).length<=R.ar.length:=by unfold dP;exact aaj _ _
 have:=w.l3;simp only[ZL];omega
def yX{R:dA}{n:By}(w:eD R):((dV R n).map dX.name).length<=16:=by
 have h1:(dV R n).length<=R.lines.length:=by unfold dV;exact aaj _ _
 have:=w.l0;simp only[ZL];omega
section
variable {P:Program}(T:fy P) {h:ah}
include T
def QU(h:ah):AV->ah->Prop:=λv k=>Ext h k/\v=.bool true
end
def EM{l:List dN}(h:(bF l).2.2=0):l.length<=1000:=by
 unfold bF at h;split at h
 ·exact absurd h De
 ·omega
def JF(R:dA)(e:dN)(d:Kd):(iw R e d).aj.length<=R.aj.length+1:=by cases d<;>simp[iw,dt]
theorem zb:∀(l:List dN) (R:dA),∀x∈fV R l,x.aj.length<=R.aj.length+l.length
 |[],_,_,h=>by cases h
 |e::l,R,x,h=>by
  have h1:=JF R e (kE e);rcases aag.1 h with rfl|h
  ·rw[ZG];omega
  ·have:=zb l _ x h;rw[ZG];omega
theorem y7:∀(l:List dN) (H:iK) (i:Nat),(jC H l i).2.2=0->(jC H l i).1.da=H.da++l
 |[],H,i,_=>by simp[jC]
 |e::l,H,i,h=>by
  rw[jC]at h ⊢;by_cases hb:fJ H e=0
  ·rw[ZN (λz=>z hb)]at h ⊢;rw[y7 l _ _ h];have:(kX H e).da=H.da++[e]:=by unfold kX;split<;>rfl
   rw[this,ZE];rfl
  ·rw[ZS hb]at h;exact absurd h hb
def za{l:List dN}(h:(bF l).2.2=0):(bF l).1.da=l:=by
 have hl:=EM h;have e:bF l=jC iK.zero l 0:=by rw[bF,ZN Om]
 rw[e]at h ⊢;rw[y7 l _ _ h];rfl
def It{l:List dN}(h:(bF l).2.2=0):(bF l).1.now.aj.length<=l.length:=by
 obtain⟨c,w⟩:=ub h;have h1:=w.le;rw[za h]at h1;rw[iK.now,aa1];cases hx:(bF l).1.cM.getLast? with
 |none=>exact aac _
 |some R=>
  have:=abF hx;rw[c.rg]at this;have:=zb _ _ _ this;show R.aj.length<=_;have hz:dA.zero.aj.length=0:=rfl;omega
def zF{R:dA}{e:dN}{d:Kd}(h:gL R e d=0):kM d R e=0/\bn R e d=0:=by
 unfold gL at h;split at h
 ·exact absurd h De
 split at h
 case isTrue h1=>exact absurd h h1
 case isFalse h1=>exact⟨aa2.1 h1,h⟩
def Bk{R:dA}{e:dN}(h:gL R e .accept=0):(dq R (aL e 0)).acc=false/\(dq R (aL e 0)).want<=((rC R (aL e 0)).length:Int)/\∀x∈rC R (aL e 0),gX R x (bI e 0)=true:=by
 have h1:=(zF h).2;simp only[bn]at h1;split at h1
 ·exact absurd h1 De
 case isFalse a=>
 split at h1
 ·exact absurd h1 De
 case isFalse b=>
 split at h1
 ·exact absurd h1 De
 case isFalse c=>
 refine⟨by simpa using a,Om,λx hx=>?_⟩;cases hs:gX R x (bI e 0)with
 |true=>rfl
 |false=>exact absurd (aaY.2 ⟨x,hx,by rw[hs];rfl⟩) c
def fI(x:By×AV):AV×AV:=(.str x.1,x.2)
def lZ(d:AV):List (By×AV)->By->AV
 |[],_=>d
 |(a,b)::r,w=>if w=a then b else lZ d r w
def qA:List (By×AV)->By->AV->List (By×AV)
 |[],w,b=>[(w,b)]
 |(a,c)::r,w,b=>if w=a then(w,b)::r else(a,c)::qA r w b
theorem xz{d:AV}:∀{M w w' b},lZ d (qA M w b) w' =if w' =w then b else lZ d M w'
 |[],w,w',b=>rfl
 |(a,c)::r,w,w',b=>by
  rw[qA];by_cases h1:w=a
  ·subst h1;rw[ZS rfl,lZ,lZ];exact z145
  ·rw[ZN h1,lZ,lZ,xz];exact KW
theorem tL{d:AV}:∀{M w},∃o:Option AV,hO .s (.str w) (M.map fI)=some o/\o.getD d=lZ d M w
 |[],w=>⟨none,rfl,rfl⟩
 |(a,c)::r,w=>by
  by_cases h1:w=a
  ·subst h1;refine⟨some c,?_,?_⟩
   ·simp only[aar,fI,hO,cY,BEq.rfl]
   ·rw[lZ,ZS rfl];rfl
  ·obtain⟨o,h2,h3⟩:=tL (d:=d) (M:=r) (w:=w);have hb:(w==a)=false:=by simp[h1]
   refine⟨o,?_,?_⟩
   ·simp only[aar,fI,hO,cY,hb];exact h2
   ·rw[lZ,ZN h1];exact h3
theorem vd:∀{M w b},mL .s (.str w) b (M.map fI)=some ((qA M w b).map fI)
 |[],w,b=>rfl
 |(a,c)::r,w,b=>by
  by_cases h1:w=a
  ·subst h1;rw[qA,ZS rfl];simp only[aar,fI,mL,cY,BEq.rfl]
  ·have hb:(w==a)=false:=by simp[h1]
   have:=vd (M:=r) (w:=w) (b:=b);rw[qA,ZN h1];show(match some (w==a)with|some true=>some ((AV.str w,b)::r.map fI)|some false=>(mL .s (.str w) b (r.map fI)).map ((AV.str a,c)::·)|none=>none)=_;rw[hb,this];rfl
def um{d:AV}{r w G M}(hb:G r=some (.aR (M.map fI))):gZ .s d false (.map r) (.str w) G=some (lZ d M w,.ay):=by
 obtain⟨o,h1,h2⟩:=tL (d:=d) (M:=M) (w:=w);rw[oA hb h1,<-h2];cases o<;>rfl
def zo{r w b G M}(hb:G r=some (.aR (M.map fI))):oh .s (.map r) (.str w) b G=some (az,.set r (.aR ((qA M w b).map fI))):=qL hb vd
def Ml{y:dX}{b:Nat}{a0 a1 a2:AV}{tl:Bool}:jI 3 0 (.agg (bV y)) b (.cells [a0,a1,a2] true tl)=some (az,.set b (.cells (bV y) true tl)):=by
 refine(kH (l:=bV y) rfl ?_ (by show 0+3<=3;omega)).trans rfl;simp[bV,AV.one]
section
variable {P:Program}(T:fy P) {h:ah}
include T
def r33{L:List EV}{s:AV}(o:eE h L s)(sz:D3 L){n:Int}(hn:n<=1000):aA P 33 [s,.int .i64 n] h (λv _=>v=.bool (iO (L.map EV.ev) n&&decide ((bF (L.map EV.ev)).2.2=0))):=by
 refine .eP 20 T.mix T.c33 ?_;intro ts hlen t0 t1;unfold fn33 gA;refine Rs (A2 t0 t1) ?_;refine WF.ce T.c14 (r14 T o sz.l (λx hx=>(sz.e x hx).n) hn) λg1=>?_
 cases hsh:iO (L.map EV.ev) n with
 |false=>exact Rs (A4 t0 t1 @aab @abC) Tv
 |true=>
 obtain⟨sh,nl,_,_⟩:=vm hsh hn;refine Rs (A3 t0 t1 @Z7) ?_;refine WF.res T.c18 (r18 T (o.ext Xx) sh nl) ?_;rintro _ g2 ⟨V,rfl,oV,hV,wV,lo⟩;have st:=@aD.st _ _ oV;exact Rs (A4 t0 t1 @st @aa4) Tv
end
structure Sl(n:By)(R A:dA):Prop where
 tk:A.tick<=R.tick
 ln:A.lines=R.lines.filter λx=>decide (x.name=n)
 tp:A.aG=R.aG
 sh:A.aj=R.aj.filter λx=>decide (x.line=n)
 md:A.ar=R.ar.filter λx=>decide (x.line=n)
section
variable {n:By}{R A:dA}(s:Sl n R A) (w:eD R) {e:dN}{d:Kd}
include s
include w
end
def FB(R:dA)(l:List dN):dA:=l.foldl (λr e=>iw r e (kE e)) R
theorem rv:∀(l:List dN) (R:dA),(fV R l).getLastD R=FB R l
 |[],_=>rfl
 |e::l,R=>by
  rw[fV,List.getLastD_cons,rv l];rfl
def Cl:List cQ->(By->Prop)->By->Prop
 |[],p=>p
 |x::l,p=>Cl l λz=>p z\/(p x.name/\z∈x.aI)
def J3(n:List (By))(x:cQ):List (By):=if x.name∈n then n++x.aI else n
theorem iJ:∀(l:List cQ) {p q:By->Prop},(∀z,p z↔q z)->∀z,Cl l p z↔Cl l q z
 |[],_,_,h,z=>h z
 |x::l,_,_,h,z=>iJ l (λy=>by rw[h y,h x.name]) z
theorem Ac:∀(l:List cQ) (S:List (By)) (z:By),z∈l.foldl J3 S↔Cl l (·∈S) z
 |[],_,_=>Iff.rfl
 |x::l,S,z=>by
  rw[abV,Ac l,Cl];refine iJ l (λy=>?_) z;unfold J3;by_cases h:x.name∈S
  ·rw[ZS h,ZK];simp[h]
  ·rw[ZN h];simp[h]
theorem HD:∀(l:List cQ) (p q:By->Prop) (z:By),Cl l (λy=>p y\/q y) z↔Cl l p z\/Cl l q z
 |[],_,_,_=>Iff.rfl
 |x::l,p,q,z=>by
  rw[Cl,Cl,Cl,<-HD l];exact iJ l (λy=>by grind) z
theorem HE{I:List (By)}:∀(l:List cQ) (p:By->By->Prop) (z:By),Cl l (λy=>∃i∈I,p i y) z↔∃i∈I,Cl l (p i) z
 |[],_,_=>Iff.rfl
 |x::l,p,z=>by
  simp only[Cl];rw[<-HE l λi y=>p i y\/(p i x.name/\y∈x.aI)];exact iJ l (λy=>by grind) z
theorem yL:∀(l:List cQ) (m z:By),(∀x∈l,x.name≠m)->(Cl l (· =m) z↔z=m)
 |[],_,_,_=>Iff.rfl
 |x::l,m,z,h=>by
  rw[Cl,<-yL l m z λy hy=>h y (Z8 _ hy)];exact iJ l (λy=>by have:=h x (aan ..);grind) z
theorem D6:∀(l m:List cQ) (p:By->Prop) (z:By),Cl (l++m) p z↔Cl m (Cl l p) z
 |[],_,_,_=>Iff.rfl
 |x::l,m,p,z=>D6 l m _ z
theorem D4:∀(l:List cQ) (p:By->Prop) (z:By),Cl l p z->p z\/∃x∈l,z∈x.aI
 |[],_,_,h=>.inl h
 |x::l,p,z,h=>by
  rcases D4 l _ z h with(h|h)|⟨y,hy,h⟩
  ·exact .inl h
  ·exact .inr ⟨x,aan ..,h.2⟩
  ·exact .inr ⟨y,Z8 _ hy,h⟩
def od(m:By)(l:List cQ)(z:By):z∈cp m l↔Cl l (· =m) z:=by
 have:cp m l=l.foldl J3 [m]:=rfl;rw[this,Ac];exact iJ l (λy=>by simp) z
def Ord(M:List cQ):Prop:=∀i (h:i<M.length),∀t∈M[i].aI,t∈(M.take i).map cQ.name
def Ord.add{M:List cQ}{y:cQ}(o:Ord M)(h:∀t∈y.aI,t∈M.map cQ.name):Ord (M++[y]):=by
 intro i hi t ht;rw[ZB,Z4]at hi;by_cases hl:i<M.length
 ·rw[List.getElem_append_left hl]at ht;rw[abQ Om];exact o i hl t ht
 ·obtain rfl:i=M.length:=Om
  rw[List.getElem_append_right (ZO _)]at ht;simp only[aaG,abR]at ht;rw[List.take_left];exact h t ht
def Ord.split{A B:List cQ}{x:cQ}(o:Ord (A++x::B)):∀t∈x.aI,t∈A.map cQ.name:=by
 have hl:A.length<(A++x::B).length:=Si
 intro t ht;have:=o A.length hl t (by rw[List.getElem_append_right (ZO _)];simpa using ht)
 rwa [List.take_left]at this
def Ord.pre{A B:List cQ}(o:Ord (A++B)):Ord A:=by
 intro i hi t ht;have:=o i (by rw[ZB];omega) t (by rw[List.getElem_append_left hi];exact ht)
 rwa [abQ Om]at this
def Ord.R8{M:List cQ}(o:Ord M):∀x∈M,∀t∈x.aI,t∈M.map cQ.name:=by
 intro x hx t ht;obtain⟨A,B,rfl⟩:=List.append_of_mem hx;have:=o.split t ht;rw[ZM];exact ZK.2 (.inl this)
def xG(M:List cQ)(m:By):List cQ:=M.filter λx=>decide (x.name∈cp m M.reverse)
def CW(M:List cQ)(m z:By):z∈(xG M m).map cQ.name↔z∈M.map cQ.name/\Cl M.reverse (· =m) z:=by
 simp only[xG,Z3,aaq,aah,od];constructor
 ·rintro⟨x,⟨h1,h2⟩,rfl⟩;exact⟨⟨x,h1,rfl⟩,h2⟩
 ·rintro⟨⟨x,h1,rfl⟩,h2⟩;exact⟨x,⟨h1,h2⟩,rfl⟩
def Ab{A B:List cQ}{m z:By}(nd:((A++B).map cQ.name).Nodup)(hm:m∈A.map cQ.name):Cl (A++B).reverse (· =m) z↔Cl A.reverse (· =m) z:=by
 rw[List.reverse_append,D6];refine iJ _ (λy=>yL _ _ _ λx hx e=>?_) z;rw[ZM,abm]at nd;exact nd.2.2 _ hm _ (ZT (List.mem_reverse.1 hx)) e.symm
def D5{A:List cQ}{m z:By}(o:Ord A)(hm:m∈A.map cQ.name)(h:Cl A.reverse (· =m) z):z∈A.map cQ.name:=by
 rcases D4 _ _ _ h with rfl|⟨x,hx,hz⟩
 ·exact hm
 ·exact o.R8 x (List.mem_reverse.1 hx) z hz
def ui{A B:List cQ}{m:By}(nd:((A++B).map cQ.name).Nodup)(o:Ord (A++B))(hm:m∈A.map cQ.name):xG (A++B) m=xG A m:=by
 unfold xG;rw[aaL];have h1:B.filter (λx=>decide (x.name∈cp m (A++B).reverse))=[]:=List.filter_eq_nil_iff.2 λx hx=>by
  rw[aah,od,Ab nd hm];intro h;have:=D5 o.pre hm h;rw[ZM,abm]at nd;exact nd.2.2 _ this _ (ZT hx) rfl
 rw[h1,Z6];exact abH λx _=>abd.2 (by rw[od,od,Ab nd hm])
def E7{A B:List cQ}{x:cQ}(nd:((A++x::B).map cQ.name).Nodup)(o:Ord (A++x::B)):∃C,xG (A++x::B) x.name=C++[x]/\∀z,z∈(C++[x]).map cQ.name↔z=x.name\/∃i∈x.aI,z∈(xG (A++x::B) i).map cQ.name:=by
 have e1:A++x::B=(A++[x])++B:=Si
 have E8:(((A++[x])++B).map cQ.name).Nodup:=by rw[<-e1];exact nd
 have nd2:((A++[x]).map cQ.name).Nodup:=by rw[ZM]at E8;exact(abm.1 E8).1
 have o1:Ord ((A++[x])++B):=by rw[<-e1];exact o
 have o2:=o1.pre;have hx:x.name∈(A++[x]).map cQ.name:=Si
 have hxA:x.name∉A.map cQ.name:=λh=>by
  rw[ZM,abm]at nd2;exact nd2.2.2 _ h _ Si rfl
 have hin:=o.split;have hC:∀z,Cl (A++[x]).reverse (· =x.name) z↔z=x.name\/∃i∈x.aI,Cl A.reverse (· =i) z:=by
  intro z;rw[List.reverse_append];show Cl A.reverse (λy=>y=x.name\/(x.name=x.name/\y∈x.aI)) z↔_;rw[HD,yL _ _ _ λy hy e=>hxA (by rw[<-e];exact ZT (List.mem_reverse.1 hy))];rw[<-HE A.reverse λi y=>y=i];refine or_congr Iff.rfl (iJ _ (λy=>?_) z);simp
 refine⟨A.filter λy=>decide (y.name∈cp x.name (A++[x]).reverse),?_,?_⟩
 ·rw[e1,ui E8 o1 hx,xG,aaL];exact z131
 ·intro z;have e2:(A.filter λy=>decide (y.name∈cp x.name (A++[x]).reverse))++[x]=xG (A++[x]) x.name:=by
   rw[xG,aaL];exact z131
  rw[e2,CW,hC];have hi:∀i∈x.aI,(z∈(xG (A++x::B) i).map cQ.name↔Cl A.reverse (· =i) z):=λi hi=>by
   have hiA:=hin i hi;rw[ui nd o hiA,CW];exact⟨λh=>h.2,λh=>⟨D5 (o.pre) hiA h,h⟩⟩
  constructor
  ·rintro⟨_,rfl|⟨i,h1,h2⟩⟩
   ·exact .inl rfl
   ·exact .inr ⟨i,h1,(hi i h1).2 h2⟩
  ·rintro(rfl|⟨i,h1,h2⟩)
   ·exact⟨hx,.inl rfl⟩
   ·have h3:=(hi i h1).1 h2;exact⟨by rw[ZM];exact ZK.2 (.inl (D5 o.pre (hin i h1) h3)),.inr ⟨i,h1,h3⟩⟩
def E5(R:dA)(m:By):dP R m=xG R.ar m:=rfl
structure uU(R:dA):Prop where
 mo:Ord R.ar
 pd:∀p∈R.aJ,p.iQ=fP (cW R p.jw).bd/\cI (cW R p.jw).bd 0=[]
 ac:∀j∈R.aE,∀x∈dV R j.mod,x.acc=true
 wt:∀x∈R.lines,x.acc=true->x.want<=((rC R x.name).length:Int)
theorem uU.zero:uU dA.zero:=⟨λi h=>(by cases h),λ_ h=>(by cases h),λ_ h=>(by cases h),λ_ h=>(by cases h)⟩
def Dc{α:Type}{f:α->By}{l:List α}{m:By}{d y:α}(h:m∈l.map f):km f (l++[y]) m d=km f l m d:=by
 have h2:m∈(l++[y]).map f:=by rw[ZM];exact ZK.2 (.inl h)
 have e:a8 ((l++[y]).map f) m=a8 (l.map f) m:=by
  unfold a8;rw[ZM,List.findIdx_append,ZS];exact cL h
 have hl:a8 (l.map f) m<l.length:=by simpa using cL h
 rw[cS h2,cS h];have:∀i (hi:i<(l++[y]).length),i=a8 (l.map f) m->(l++[y])[i]=l[a8 (l.map f) m]:=by
  intro i hi e;subst e;exact List.getElem_append_left hl
 exact this _ _ e
def Db{α:Type}{f:α->By}{l:List α}{m q:By}{d y:α}(hq:q∈l.map f)(hy:f y=q)(h:m≠q):km f (l.set (a8 (l.map f) q) y) m d=km f l m d:=by
 have e:=map_set (l:=l) (f:=f) (n:=q) (d:=d) (y:=y) hq hy;by_cases hm:m∈l.map f
 ·have h2:m∈(l.set (a8 (l.map f) q) y).map f:=by rw[e];exact hm
  rw[cS h2,cS hm];have hne:a8 (l.map f) q≠a8 (l.map f) m:=λz=>h (by
   have a:=lO hq;have b:=lO hm;rw[<-b,<-a];congr 1;exact z.symm)
  have key:∀i (hi:i<(l.set (a8 (l.map f) q) y).length),i=a8 (l.map f) m->(l.set (a8 (l.map f) q) y)[i]=l[a8 (l.map f) m]'(by simpa using cL hm):=by
   intro i hi e;subst e;exact abK hne _
  exact key _ _ (by rw[e])
 ·have a:km f l m d=d:=by unfold km;rw[vG hm,ZL,aaf,abf (ZO _)];rfl
  have b:km f (l.set (a8 (l.map f) q) y) m d=d:=by
   unfold km;rw[e,vG hm,ZL,aaf,abf (by rw[aap];exact ZO _)];rfl
  rw[a,b]
def zM{R:dA}{e:dN}(h:jz R e=0):lz R (aL e 0)=false:=by
 unfold jz at h;split at h
 ·cases h
 ·simpa using ‹¬lz R (aL e 0)=true›
def zH{R:dA}{j:By}(h:lz R j=false):∀p∈R.aJ,p.jw≠j:=λp hp e=>by
 have:lz R j=true:=aaY.2 ⟨p,hp,ZI e⟩;rw[h]at this;cases this
def wT{e:dN}{R:dA}{d:Kd}(we:jY e d)(hl:(bJ d).length=2\/(bJ d).length=3)(h1:aL e 1∈fL R)(h2:(bJ d).length=3->aL e 2∈fL R):∀t∈e.names.drop 1,t∈R.ar.map cQ.name:=by
 intro t ht;have hnl:=we.nl;obtain⟨i,hi,rfl⟩:=abt ht;rw[abz]at hi;rw[List.getElem_drop];have hn:∀k (hk:k<e.names.length),e.names[k]=aL e k:=λk hk=>by rw[aL,aaf,ZH hk];rfl
 rw[hn];rcases hl with hl|hl
 ·obtain rfl:i=0:=Om
  exact h1
 ·have:i=0\/i=1:=Om
  rcases this with rfl|rfl
  ·exact h1
  ·exact h2 hl
def IY{R:dA}{e:dN}{s:Int}{j:kF}(hj:aL e 0∈iA R)(h:j∈lC R e s):∃k∈R.aE,k.mod=j.mod:=by
 unfold lC at h;rcases aaQ h with h|rfl
 ·exact⟨j,h,rfl⟩
 ·exact⟨cW R (aL e 0),fH hj,rfl⟩
def wo{R:dA}{e:dN}{s:Int}(hj:aL e 0∈iA R){q:By}(h:q≠aL e 0):km kF.name (lC R e s) q vO=cW R q:=
 Db hj (fi hj) h
def BX{R:dA}(w:eD R)(o:Ord R.ar){y:cQ}(hy:y.name∉fL R)(ho:∀t∈y.aI,t∈fL R){m:By}(hm:m∈fL R):xG (R.ar++[y]) m=xG R.ar m:=by
 refine ui ?_ (o.add ho) hm;rw[ZM,abm];refine⟨w.n3.nd,Si,λa ha b hb e=>hy ?_⟩;rw[aar,abn,ZW]at hb;rw[<-hb,<-e];exact ha
def AD{R:dA}(w:eD R){m z:By}(h:z∈(dP R m).map cQ.line):z∈gq R\/z=[]:=by
 obtain⟨x,hx,rfl⟩:=Z3.1 h;have:=(w.md x (aaq.1 hx).1).1;rcases this with h|h
 ·exact .inl h.2
 ·exact .inr h.2
def G6{n:By}(h:dQ n=true):n≠[]:=λz=>by rw[z]at h;cases h
def uU.step{R:dA}(n:uU R)(w:eD R){e:dN}{d:Kd}(we:jY e d)(h:gL R e d=0):uU (iw R e d):=by
 obtain⟨h1,h2⟩:=zF h;have k:=vP h1;have gn:∀i,i<(bJ d).length->dQ (aL e i)=true:=λi hi=>we.nm _ (zl (by rw[we.nl];exact hi))
 cases d with
 |eV=>exact⟨n.mo,n.pd,n.ac,n.wt⟩
 |line=>
  have f0:aL e 0∉gq R:=k.fr 0 0 rfl;refine⟨n.mo,n.pd,λj hj x hx=>?_,λx hx ha=>?_⟩
  ·have hx:x∈(R.lines++[_]).filter _:=hx;rw[aaL,ZK]at hx;rcases hx with hx|hx
   ·exact n.ac j hj x hx
   ·rw[aaq,ZW]at hx;obtain⟨rfl,hx⟩:=hx;rw[aah]at hx;rcases AD w hx with z|z
    ·exact absurd z f0
    ·exact absurd z (G6 (gn 0 De))
  ·have hx:x∈R.lines++[_]:=hx;rcases ZK.1 hx with hx|hx
   ·exact n.wt x hx ha
   ·rw[ZW]at hx;subst hx;cases ha
 |tape=>exact⟨n.mo,n.pd,n.ac,n.wt⟩
 |gp=>
  refine⟨n.mo,n.pd,n.ac,λx hx ha=>?_⟩;have:=n.wt x hx ha;have q:Go.Abs.rC (iw R e .gp) x.name=(R.aj++[_]).filter λy=>decide (y.line=x.name):=rfl
  rw[q,aaL,ZB];unfold Go.Abs.rC at this;omega
 |copy=>
  refine⟨n.mo,n.pd,n.ac,λx hx ha=>?_⟩;have:=n.wt x hx ha;have q:Go.Abs.rC (iw R e .copy) x.name=(R.aj.map (je (aL e 0) (aL e 1))).filter λy=>decide (y.line=x.name):=rfl
  rw[q,abw,ZL];unfold Go.Abs.rC at this;have e2:(R.aj.filter ((λy=>decide (y.line=x.name))∘je (aL e 0) (aL e 1)))=R.aj.filter λy=>decide (y.line=x.name):=abH λy _=>by
   show decide ((je _ _ y).line=_)=_;have:(je (aL e 0) (aL e 1) y).line=y.line:=by unfold je;split<;>rfl
   rw[this]
  rw[e2];exact this
 |accept=>
  have f0:aL e 0∈gq R:=k.kn 0 0 rfl;obtain⟨a1,a2,a3⟩:=Bk h;refine⟨n.mo,n.pd,λj hj x hx=>?_,λx hx ha=>?_⟩
  ·have hx:x∈(R.lines.set _ _).filter _:=hx;rw[aaq]at hx;obtain⟨hx,hm⟩:=hx;rcases aaQ hx with hx|rfl
   ·exact n.ac j hj x (aaq.2 ⟨hx,hm⟩)
   ·rfl
  ·have hx:x∈R.lines.set _ _:=hx;show x.want<=((Go.Abs.rC R x.name).length:Int);rcases aaQ hx with hx|rfl
   ·exact n.wt x hx ha
   ·have:(dq R (aL e 0)).name=aL e 0:=fi f0;show(dq R (aL e 0)).want<=((Go.Abs.rC R (dq R (aL e 0)).name).length:Int);rw[this];exact a2
 |source=>
  have f0:aL e 0∉fL R:=k.fr 0 3 rfl;have hi:∀t∈(⟨aL e 0,dM,aL e 1,[]⟩:cQ).aI,t∈fL R:=λt ht=>by cases ht
  exact Od
 |gg=>
  have f0:aL e 0∉fL R:=k.fr 0 3 rfl;have hi:=wT we (.inl rfl) (k.kn 1 3 rfl) (λz=>by cases z);exact Od
 |merge=>
  have f0:aL e 0∉fL R:=k.fr 0 3 rfl;have hi:=wT we (.inr rfl) (k.kn 1 3 rfl) (λ_=>k.kn 2 3 rfl);exact Od
 |run=>
  refine⟨n.mo,λp hp=>?_,λj hj x hx=>?_,n.wt⟩
  ·have hp:p∈R.aJ:=hp;have hj:=(w.pc p hp).1;have e1:cW (iw R e .run) p.jw=cW R p.jw:=Dc hj;rw[e1];exact n.pd p hp
  ·have hj:j∈R.aE++[_]:=hj;rcases ZK.1 hj with hj|hj
   ·exact n.ac j hj x hx
   ·rw[ZW]at hj;subst hj;simp only[bn]at h2;split at h2
    ·cases h2
    rename_i r1;have hx:x∈dV R (aL e 1):=hx;cases ha:x.acc with
    |true=>rfl
    |false=>exact absurd (aaY.2 ⟨x,hx,by rw[ha];rfl⟩) r1
 |fT=>
  have f0:aL e 0∈iA R:=k.kn 0 4 rfl;simp only[bn]at h2;split at h2
  ·rename_i r;exact absurd h2 r
  rename_i r;have dn:=zH (zM (aa2.1 r));refine⟨n.mo,λp hp=>?_,λj hj x hx=>?_,n.wt⟩
  ·have e1:cW (iw R e .fT) p.jw=cW R p.jw:=wo f0 (dn p hp);rw[e1];exact n.pd p hp
  ·exact z160
 |fail=>
  have f0:aL e 0∈iA R:=k.kn 0 4 rfl;simp only[bn]at h2;split at h2
  ·rename_i r;exact absurd h2 r
  rename_i r;have dn:=zH (zM (aa2.1 r));refine⟨n.mo,λp hp=>?_,λj hj x hx=>?_,n.wt⟩
  ·have e1:cW (iw R e .fail) p.jw=cW R p.jw:=wo f0 (dn p hp);rw[e1];exact n.pd p hp
  ·exact z160
 |gE=>
  simp only[bn]at h2;split at h2
  ·cases h2
  split at h2
  ·cases h2
  rename_i r2;refine⟨n.mo,λp hp=>?_,n.ac,n.wt⟩;have hp:p∈R.aJ++[_]:=hp;show p.iQ=fP (cW R p.jw).bd/\cI (cW R p.jw).bd 0=[];rcases ZK.1 hp with hp|hp
  ·exact n.pd p hp
  ·rw[ZW]at hp;subst hp;exact⟨rfl,aa2.1 r2⟩
 |rel=>
  have f0:aL e 0∈lh R:=k.kn 0 5 rfl;refine⟨n.mo,λp hp=>?_,n.ac,n.wt⟩;have hp:p∈R.aJ.set _ _:=hp;show p.iQ=fP (cW R p.jw).bd/\cI (cW R p.jw).bd 0=[];rcases aaQ hp with hp|rfl
  ·exact n.pd p hp
  ·exact n.pd (jr R (aL e 0)) (fH f0)
theorem zj:∀(l:List dN) (R:dA),EX R l->eD R->uU R->eD (FB R l)/\uU (FB R l)
 |[],_,_,w,n=>⟨w,n⟩
 |e::l,R,h,w,n=>by
  obtain⟨⟨d,we,hd⟩,h2,h3⟩:=h;have hk:=we.kE;have w2:eD (iw R e (kE e)):=by rw[hk]at h2 ⊢;exact w.step we hd h2
  have n2:uU (iw R e (kE e)):=by rw[hk]at h2 ⊢;exact n.step w we h2
  exact zj l _ h3 w2 n2
def EL{l:List dN}(h:(bF l).2.2=0):uU (bF l).1.now:=by
 obtain⟨c,wh⟩:=ub h;have U8:(bF l).1.now=FB dA.zero (bF l).1.e8:=by rw[<-rv,iK.now,c.rg]
 rw[U8];exact(zj _ _ c.ok eD.zero uU.zero).2
structure D2(R:dA)(x:cQ):Prop where
 la:∃C,(dP R x.name).map cQ.name=C++[x.name]
 nd:((dP R x.name).map cQ.name).Nodup
 mm:∀z,z∈(dP R x.name).map cQ.name↔z=x.name\/∃i∈x.aI,z∈(dP R i).map cQ.name
 sn:((dV R x.name).map dX.name).Nodup
 sm:∀z,z∈(dV R x.name).map dX.name↔∃y∈R.ar,y.name∈(dP R x.name).map cQ.name/\y.aI=[]/\z=y.line
def my{R:dA}(w:eD R){m:By}{y:cQ}(hy:y∈R.ar)(h:y.name∈(dP R m).map cQ.name):y∈dP R m:=by
 obtain⟨x,hx,e⟩:=Z3.1 h;have h1:=jd (d:=yp) w.n3.nd (aaq.1 hx).1;have h2:=jd (d:=yp) w.n3.nd hy;rw[<-h2,<-e,h1];exact hx
def qK{R:dA}(w:eD R)(n:uU R){x:cQ}(hx:x∈R.ar):D2 R x:=by
 obtain⟨A,B,hab⟩:=List.append_of_mem hx;have nd:=w.n3.nd;unfold fL at nd;have o:=n.mo;rw[hab]at nd o;obtain⟨C,h1,h2⟩:=E7 nd o;have e1:∀m,dP R m=xG (A++x::B) m:=λm=>by rw[E5,hab]
 refine⟨⟨C.map cQ.name,by rw[e1,h1,ZM];rfl⟩,?_,?_,?_,λz=>?_⟩
 ·exact(List.Sublist.map _ List.filter_sublist).nodup w.n3.nd
 ·intro z;simp only[e1];rw[h1];exact h2 z
 ·exact(List.Sublist.map _ List.filter_sublist).nodup w.n0.nd
 ·constructor
  ·intro h;obtain⟨l,hl,rfl⟩:=Z3.1 h;obtain⟨Wt,hl2⟩:=aaq.1 hl;rw[aah]at hl2;obtain⟨y,hy,e⟩:=Z3.1 hl2;have UU:=(aaq.1 hy).1;refine⟨y,UU,ZT hy,?_,e.symm⟩;rcases(w.md y UU).1 with h|h
   ·exact h.1
   ·rw[h.2]at e;exact absurd e.symm (G6 (w.n0.nm _ (ZT Wt)))
  ·rintro⟨y,hy,h3,h4,rfl⟩;have h5:=my w hy h3;have h6:y.line∈gq R:=by
    rcases(w.md y hy).1 with h|h
    ·exact h.2
    ·exact absurd h4 h.1
   obtain⟨l,hl,e⟩:=Z3.1 h6;exact Z3.2 ⟨l,aaq.2 ⟨hl,by rw[aah,e];exact ZT h5⟩,e⟩
def BW{R:dA}(w:eD R)(n:uU R):∀(k:Nat) (x:cQ) (A B:List cQ),A.length<=k->R.ar=A++x::B->∃y∈dP R x.name,y.aI=[]:=by
 intro k
 induction k with
 |zero=>
  intro x A B hA hab;obtain rfl:A=[]:=aay.1 Om;have o:=n.mo;rw[hab]at o;have hin:=o.split;have hx:x∈R.ar:=by rw[hab];simp
  have h0:x.aI=[]:=by
   cases hc:x.aI with
   |nil=>rfl
   |cons a l=>exact absurd (hin a (by rw[hc];simp)) Si
  obtain⟨C,hC⟩:=(qK w n hx).la;exact⟨x,my w hx (by rw[hC];simp),h0⟩
 |succ k ih=>
  intro x A B hA hab;have hx:x∈R.ar:=by rw[hab];simp
  have ok:=qK w n hx;cases hc:x.aI with
  |nil=>
   obtain⟨C,hC⟩:=ok.la;exact⟨x,my w hx (by rw[hC];simp),hc⟩
  |cons a l=>
   have o:=n.mo;rw[hab]at o;have ha:=o.split a (by rw[hc];simp);obtain⟨y,hy,rfl⟩:=Z3.1 ha;obtain⟨A1,A2,rfl⟩:=List.append_of_mem hy;obtain⟨u,hu,h0⟩:=ih y A1 (A2++x::B) (by simp at hA;omega) (by rw[hab];simp);refine⟨u,my w (aaq.1 hu).1 ((ok.mm _).2 (.inr ⟨y.name,by rw[hc];simp,ZT hu⟩)),h0⟩
theorem yO{R:dA}(n:uU R):∀(S:List dX),(S.map dX.name).Nodup->(∀x∈S,x∈R.lines/\x.acc=true)->(S.map dX.want).sum<=((R.aj.filter λs=>decide (s.line∈S.map dX.name)).length:Int)
 |[],_,_=>by simp
 |x::S,nd,h=>by
  rw[aar,abX]at nd;have h1:=yO n S nd.2 λy hy=>h y (Z8 _ hy)
  obtain⟨h2,h3⟩:=h x (aan ..);have h4:=n.wt x h2 h3;have key:∀(L:List jX),(L.filter λs=>decide (s.line∈(x::S).map dX.name)).length=(L.filter λs=>decide (s.line=x.name)).length+(L.filter λs=>decide (s.line∈S.map dX.name)).length:=by
   intro L
   induction L with
   |nil=>rfl
   |cons s L ih=>
    by_cases a:s.line=x.name
    ·have b:s.line∉S.map dX.name:=by rw[a];exact nd.1
     have c:s.line∈(x::S).map dX.name:=by rw[aar,a];exact aan ..
     rw[aaM,ZS (ZI c),aaM,ZS (ZI a),aaM,ZN (by simpa using b),ZG,ZG,ih];omega
    ·by_cases b:s.line∈S.map dX.name
     ·have c:s.line∈(x::S).map dX.name:=Z8 _ b;rw[aaM,ZS (ZI c),aaM,ZN (by simpa using a),aaM,ZS (ZI b),ZG,ZG,ih];omega
     ·have c:s.line∉(x::S).map dX.name:=λz=>by
       rcases aag.1 z with z|z
       ·exact a z
       ·exact b z
      rw[aaM,ZN (by simpa using c),aaM,ZN (by simpa using a),aaM,ZN (by simpa using b),ih]
  rw[aar,List.sum_cons,key];unfold rC at h4;omega
structure uP(R:dA)(p:nP):Prop where
 jb:cW R p.jw∈R.aE/\(cW R p.jw).name=p.jw
 md:(cW R p.jw).mod∈fL R
 lf:cI (cW R p.jw).bd 0=[]
 dg:AX (cW R p.jw).bd=(p.iQ,0)
 sl:(cW R p.jw).bd.length<=32
 ac:∀x∈dV R (cW R p.jw).mod,x.acc=true
 wt:((dV R (cW R p.jw).mod).map dX.want).sum<=((gD R p.name).length:Int)
 ne:gD R p.name≠[]
def EU{R:dA}(w:eD R)(n:uU R){p:nP}(hp:p∈R.aJ):uP R p:=by
 have hj:=(w.pc p hp).1;have j1:cW R p.jw∈R.aE:=fH hj;have j2:=w.jb _ j1;obtain⟨d1,d2⟩:=n.pd p hp;have hpv:jr R p.name=p:=jd w.n5.nd hp;obtain⟨S,hS⟩:∃S,S=dV R (cW R p.jw).mod:=⟨_,rfl⟩;have hac:∀x∈S,x.acc=true:=by rw[hS];exact n.ac _ j1
 have hSl:∀x∈S,x∈R.lines:=λx hx=>by rw[hS]at hx;exact(aaq.1 hx).1
 have Uh:(S.map dX.name).Nodup:=by rw[hS];exact(List.Sublist.map _ List.filter_sublist).nodup w.n0.nd
 have hw:=yO n S Uh λx hx=>⟨hSl x hx,hac x hx⟩
 have hpr:(gD R p.name).length=(R.aj.filter λs=>decide (s.line∈S.map dX.name)).length:=by
  unfold gD;rw[ZL,hpv,<-hS]
 have hwt:(S.map dX.want).sum<=((gD R p.name).length:Int):=by rw[hpr];exact hw
 refine⟨⟨j1,fi hj⟩,j2.1,d2,?_,j2.2.2.1,by rw[<-hS];exact hac,by rw[<-hS];exact hwt,λz=>?_⟩
 ·have hr:∀s∈(cW R p.jw).bd,bg s 0 999999999=0:=λs hs=>by
   have a:=pJ d2 s hs;have b:=(j2.2.2.2 s hs).2;unfold bg;rw[ZN Om]
  have hf:bD ((cW R p.jw).bd.map λn=>bg n 0 999999999)=0:=by
   have:∀l:List Int,(∀s∈l,bg s 0 999999999=0)->bD (l.map λn=>bg n 0 999999999)=0:=by
    intro l
    induction l with
    |nil=>intros;rfl
    |cons a l ih=>intro h;rw[aar,bD,ZS (h a (aan ..))];exact ih λs hs=>h s (Z8 _ hs)
   exact this _ hr
  unfold AX;have a1:=j2.2.1;have a2:=j2.2.2.1;rw[hf,ZD Om,ZD Om,d1];rfl
 ·
  obtain⟨x,hx,e⟩:=Z3.1 j2.1;obtain⟨A,B,hab⟩:=List.append_of_mem hx;obtain⟨y,hy,h0⟩:=BW w n A.length x A B (ZO _) hab;have Uf:y.line∈gq R:=by
   rcases(w.md y (aaq.1 hy).1).1 with h|h
   ·exact h.2
   ·exact absurd h0 h.1
  obtain⟨l,hl,el⟩:=Z3.1 Uf;have hlS:l∈S:=by
   rw[hS,<-e];exact aaq.2 ⟨hl,by rw[aah,el];exact ZT hy⟩
  have hpos:∀(S:List dX),(∀x∈S,1<=x.want)->l∈S->1<=(S.map dX.want).sum:=by
   intro S;have hn:∀(S:List dX),(∀x∈S,1<=x.want)->0<=(S.map dX.want).sum:=by
    intro S
    induction S with
    |nil=>intro _;simp
    |cons a S ih=>intro h;have:=h a (aan ..);have:=ih λx hx=>h x (Z8 _ hx);rw[aar,List.sum_cons];omega
   induction S with
   |nil=>intro _ h;cases h
   |cons a S ih=>
    intro h hm;rw[aar,List.sum_cons];have h1:=h a (aan ..);have h2:=hn S λx hx=>h x (Z8 _ hx)
    omega
  have:=hpos S (λx hx=>(w.ln x (hSl x hx)).1) hlS;rw[z]at hwt;simp at hwt;omega
def JG(R:dA)(e:dN)(d:Kd):(iw R e d).ar.length<=R.ar.length+1:=by cases d<;>simp[iw,dt]
theorem zd:∀(l:List dN) (R:dA),∀x∈fV R l,x.ar.length<=R.ar.length+l.length
 |[],_,_,h=>by cases h
 |e::l,R,x,h=>by
  have h1:=JG R e (kE e);rcases aag.1 h with rfl|h
  ·rw[ZG];omega
  ·have:=zd l _ x h;rw[ZG];omega
def Iu{l:List dN}(h:(bF l).2.2=0):(bF l).1.now.ar.length<=l.length:=by
 obtain⟨c,w⟩:=ub h;have h1:=w.le;rw[za h]at h1;rw[iK.now,aa1];cases hx:(bF l).1.cM.getLast? with
 |none=>exact aac _
 |some R=>
  have:=abF hx;rw[c.rg]at this;have:=zd _ _ _ this;show R.ar.length<=_;have hz:dA.zero.ar.length=0:=rfl;omega
def qI{l:List dN}{t:Nat}{n:By}(h:(bF l).2.2=0)(hh:n∈H3 (bF l).1.now t):eM l t n=((bF l).1.now,0):=by
 have:dW (bF l).1.now t n=true:=ZI hh;rw[eM,ZN (λz=>z h),this];rfl
def AF{l:List dN}{n:By}(h:(bF l).2.2=0)(hh:n∈fL (bF l).1.now):tw l n=((dP (bF l).1.now n).map cQ.name,0):=by
 unfold tw;rw[qI (t:=3) h hh];exact ZN (λz=>z rfl)
def vj{l:List dN}{n:By}(h:(bF l).2.2=0)(hh:n∈fL (bF l).1.now):BY l n=((dV (bF l).1.now n).map dX.name,0):=by
 unfold BY;rw[qI (t:=3) h hh];exact ZN (λz=>z rfl)
def AL{l:List dN}{n:By}(h:(bF l).2.2=0)(hh:n∈iA (bF l).1.now):wi l n=(cI (cW (bF l).1.now n).bd 0,0):=by
 unfold wi;rw[qI (t:=4) h hh];exact ZN (λz=>z rfl)
def Aw{l:List dN}{n:By}(h:(bF l).2.2=0)(hh:n∈lh (bF l).1.now):vF l n=(gD (bF l).1.now n,0):=by
 unfold vF;rw[qI (t:=5) h hh];exact ZN (λz=>z rfl)
def j7(S:List (By)):List (By×AV):=S.map λz=>(z,.bool true)
def rR(S:List (By))(w:By):List (By):=if w∈S then S else S++[w]
theorem sg:∀(S:List (By)) (w:By),qA (j7 S) w (.bool true)=j7 (rR S w)
 |[],w=>rfl
 |a::S,w=>by
  show qA ((a,.bool true)::j7 S) w _=_;rw[qA,sg S w];by_cases h:w=a
  ·subst h;rw[ZS rfl,rR,ZS (aan ..)];rfl
  ·rw[ZN h];unfold rR;by_cases h2:w∈S
   ·rw[ZS h2,ZS (Z8 _ h2)];rfl
   ·rw[ZN h2,ZN (λz=>(aag.1 z).elim h h2)];rfl
theorem o8:∀(S:List (By)) (w:By),lZ (.bool false) (j7 S) w=.bool (decide (w∈S))
 |[],w=>by simp[j7,lZ]
 |a::S,w=>by
  show lZ _ ((a,.bool true)::j7 S) w=_;rw[lZ,o8 S w];by_cases h:w=a
  ·subst h;simp
  ·rw[ZN h];simp[h]
def zq{S:List (By)}{w z:By}:z∈rR S w↔z∈S\/z=w:=by
 unfold rR;split
 ·rename_i h;exact⟨.inl,λq=>q.elim id λe=>e▸h⟩
 ·simp
def CY{S:List (By)}{w:By}(h:S.Nodup):(rR S w).Nodup:=by
 unfold rR;split
 ·exact h
 ·rename_i hw;exact abm.2 ⟨h,Si,λa ha b hb e=>hw (by rw[ZW]at hb;rw[<-hb,<-e];exact ha)⟩
def CX{S T:List (By)}(h1:S.Nodup)(h2:T.Nodup)(h:∀z,z∈S↔z∈T):S.length=T.length:=((List.perm_ext_iff_of_nodup h1 h2).2 h).length_eq
def y5(S:List (By)):((j7 S).map fI).length=S.length:=by simp[j7]
def wa{r:Nat}{G:Nat->Option ak}{es:List (AV×AV)}(hb:G r=some (.aR es)):ju .mp G (.map r)=some es.length:=by
 simp[ju,hb]
def aH.Lv{h:ah}{s:AV}{es:Nat}{cs:List (List AV)}{m:Nat}{M:List (AV×AV)}{X:ak}(hs:aH h s es cs)(hm:h[m]? =some (.aR M)):aH (h.set m X) s es cs:=by
 cases hs with
 |nil=>exact .nil
 | @mk b o es cs c mu tl hb hf ho he=>
  have h2:(h.set m X)[b]? =some (.cells c mu tl):=by
   rw[ZV]
   ·exact hb
   ·rintro rfl;rw[hm]at hb;cases hb
  exact .mk h2 hf ho he
def G8{y:cQ×AV}(o:y.2.one=true){b:Nat}{a0 a1 a2 a3:AV}{tl:Bool}:jI 4 0 (.agg (aP y)) b (.cells [a0,a1,a2,a3] true tl)=some (az,.set b (.cells (aP y) true tl)):=by
 refine(kH (l:=aP y) rfl ?_ (by show 0+4<=4;omega)).trans rfl;show(true&&(true&&(true&&(y.2.one&&true))))=true;rw[o];rfl
def MF{y:kF×AV}(o:y.2.one=true){b:Nat}{a0 a1 a2:AV}{tl:Bool}:jI 3 0 (.agg (bK y)) b (.cells [a0,a1,a2] true tl)=some (az,.set b (.cells (bK y) true tl)):=by
 refine(kH (l:=bK y) rfl ?_ (by show 0+3<=3;omega)).trans rfl;show(true&&(true&&(y.2.one&&true)))=true;rw[o];rfl
def LM{y:nP}{b:Nat}{a0 a1 a2 a3:AV}{tl:Bool}:jI 4 0 (.agg (cF y)) b (.cells [a0,a1,a2,a3] true tl)=some (az,.set b (.cells (cF y) true tl)):=by
 refine(kH (l:=cF y) rfl ?_ (by show 0+4<=4;omega)).trans rfl;simp[cF,AV.one]
def pZ(W:ah)(R:dA)(M:List (By×AV))(A:List cQ):Prop:=∀y∈A,aH W (lZ .af M y.name) 1 (((dP R y.name).map cQ.name).map ao)
theorem pZ.ext{W W2:ah}{R:dA}{M:List (By×AV)}{A:List cQ}(k:pZ W R M A)(e:Ext W W2):pZ W2 R M A:=λy hy=>(k y hy).ext e
def jD(k:Nat):ai:=(fn13).body.dr k
def BA(k:Nat):ai:=((jD 5).hd.tl.jE.jE.dr k).hd
def AG:ai:=(BA 2).jE
def RN:ai:=(jD 5).hd.tl.jE.jE.dr 3
def qc(k:Nat):ai:=AG.dr k
def Pu:jD 5=.seq (.seq (jD 5).hd.hd (.block 0 (.loop (.seq (BA 0) (.seq (BA 1) (.seq (.block 1 AG) RN)))))) (jD 6):=rfl
def qy(k:Nat)(hk:k<12):qc k=.seq (qc k).hd (qc (k+1)):=by
 have:k=0\/k=1\/k=2\/k=3\/k=4\/k=5\/k=6\/k=7\/k=8\/k=9\/k=10\/k=11:=Om
 rcases this with rfl|rfl|rfl|rfl|rfl|rfl|rfl|rfl|rfl|rfl|rfl|rfl<;>rfl
def Px:fn13=⟨302,1,[(2,none)],.seq (jD 0).hd (.seq (jD 1).hd (.seq (jD 2).hd (.seq (jD 3).hd (.seq (jD 4).hd (jD 5)))))⟩:=rfl
def HB(K:ah)(s:AV)(V:RV)(b:Nat)(R:dA)(A:List cQ)(j:Nat):Ex->TS->ah->Prop:=λe ts W=>
 e=.normal/\Ext K W/\(∃M,W[K.length]? =some (.aR (M.map fI))/\pZ W R M A)/\ts.length=302/\slot ts 0=s/\slot ts 3=.ptr b 0/\slot ts 6=.map K.length/\slot ts 72=V.s3/\slot ts 73=.int .i64 V.ar.length/\slot ts 74=.int .i64 j
section
variable {P:Program}(T:fy P) {K W:ah}{ts:TS}{s u v:AV}{V:RV}{x:cQ×AV}{N S:List (By)}{M:List (By×AV)}{b c m p q j:Nat}(oV:aD K V) (wV:eD V.an) (ok:D2 V.an x.1) (hj:j<V.ar.length) (hx:x=V.ar[j]) (mb:K[b]? =some (.cells V.row true false)) (eW:Ext K W) (mk:W[K.length]? =some (.aR (M.map fI))) (kn:pZ W V.an M (V.an.ar.take j)) (mc:W[c]? =some (.cells (aP x) true false)) (hN:N=(dP V.an x.1.name).map cQ.name) (hu:aH W u 1 (N.map ao)) (hS:S=(dV V.an x.1.name).map dX.name) (hv:aH W v 1 (S.map ao))
include T oV wV ok hj hx mb eW mk kn mc hN hu hS hv
theorem Mf(hlen:ts.length=302)(t0:slot ts 0=s)(t3:slot ts 3=.ptr b 0)(t6:slot ts 6=.map K.length)(t8:slot ts 8=.ptr c 0)(t9:slot ts 9=u)(t72:slot ts 72=V.s3)(t73:slot ts 73=.int .i64 V.ar.length)(t74:slot ts 74=.int .i64 j):
  WC P bN (qc 12) [] ts W (HB K s V b V.an (V.an.ar.take (j+1)) j):=by
 have:=T.mix;have lc:=@eQ _ _ _ mc;have la:(aP x)[0]? =some (.str x.1.name):=rfl;have u0:oh .s (.map K.length) (.str x.1.name) u (λz=>W[z]?)=some (az,.set K.length (.aR ((qA M x.1.name u).map fI))):=zo mk;have hWl:=(ZC.1 mk).1;have h1:=hu.one;unfold qc AG BA jD fn13;simp only[ai.j,ai.s,ai.r,ai.dr,ai.tl,ai.hd,ai.jE];refine Rs (pB t0 t3 t6 t8 t9 t72 t73 t74 @lc @la @eA @u0) ?_;refine⟨rfl,eW.hP (ZO _),⟨qA M x.1.name u,ZU hWl,λy hy=>?_⟩,Sn,(Sq t0),(Sq t3),(Sq t6),(Sq t72),(Sq t73),(Sq t74)⟩;rw[xz];rw[aao]at hy;by_cases hn:y.name=x.1.name
 ·rw[ZS hn,hn,<-hN];exact hu.Lv mk
 ·rw[ZN hn];rcases ZK.1 hy with hy|hy
  ·exact(kn y hy).Lv mk
  ·have Uv:j<V.an.ar.length:=by simpa [RV.an]using hj
   rw[ZH Uv,Option.toList,ZW]at hy;refine absurd ?_ hn;rw[hy,hx];simp[RV.an]
omit mk kn
theorem Mg(mk:W[K.length]? =some (.aR (M.map fI)))(kn:pZ W V.an M (V.an.ar.take j)){E:List (By)}(mq:W[q]? =some (.aR ((j7 E).map fI)))(nE:E.Nodup)(hE:∀z,z∈E↔z∈S)(hlen:ts.length=302)(t0:slot ts 0=s)(t3:slot ts 3=.ptr b 0)(t6:slot ts 6=.map K.length)(t8:slot ts 8=.ptr c 0)(t9:slot ts 9=u)(t11:slot ts 11=v)(t18:slot ts 18=.map q)(t72:slot ts 72=V.s3)(t73:slot ts 73=.int .i64 V.ar.length)(t74:slot ts 74=.int .i64 j):
  WC P bN (qc 10) [] ts W (HB K s V b V.an (V.an.ar.take (j+1)) j):=by
 have hl:E.length=S.length:=CX nE (by rw[hS];exact ok.sn) hE;have hSl:S.length<=16:=by rw[hS];exact yX wV
 have lq:=wa (r:=q) (G:=λz=>W[z]?) mq;rw[y5,hl]at lq;have q0:=ne_self (S.length:Int);rw[qy 10 De,qy 11 De];generalize hR:qc 12=R;unfold qc AG BA jD fn13;simp only[ai.j,ai.s,ai.r,ai.dr,ai.tl,ai.hd,ai.jE];refine Rs (Ad t0 t3 t6 t8 t9 t11 t18 t72 t73 t74 hv.aK @lq q0) ?_;refine WL.inv T.mix (λm ts h'=>∃i:Nat,i<=S.length/\m=S.length-i/\h' =W/\ts.length=302/\slot ts 0=s/\slot ts 3=.ptr b 0/\slot ts 6=.map K.length/\slot ts 8=.ptr c 0/\slot ts 9=u/\slot ts 18=.map q/\slot ts 72=V.s3/\slot ts 73=.int .i64 V.ar.length/\slot ts 74=.int .i64 j/\slot ts 184=v/\slot ts 185=.int .i64 S.length/\slot ts 186=.int .i64 i) S.length
  ⟨0,Om,rfl,rfl,Sn,(Sq t0),(Sq t3),(Sq t6),(Sq t8),(Sq t9),(Sq t18),(Sq t72),(Sq t73),(Sq t74),(Sq t11),Sw,gP⟩ ?_
 clear t0 t3 t6 t8 t9 t11 t18 t72 t73 t74 hlen;rintro _ ts W4 ⟨i,hi,rfl,h4,hlen,t0,t3,t6,t8,t9,t18,t72,t73,t74,t184,t185,t186⟩;rw[h4];by_cases hlt:i<S.length
 ·have e3:=eC hlt;have e5:=wrapN (n:=i) Om;have ix:=hv.dE (kk:=.i64) hlt;obtain⟨z,hz⟩:∃z,z=S[i]:=⟨_,rfl⟩;have ld:aq none (cT v 1 i) (λb=>W[b]?)=some (.str z,.ay):=hv.kg hlt (by rw[hz];rfl) (Ext.refl _);have lk:=um (d:=.bool false) (w:=z) mq;rw[o8,ZI ((hE z).2 (by rw[hz];exact ZR _))]at lk;refine Rs (NW t0 t3 t6 t8 t9 t18 t72 t73 t74 t184 t185 t186 e3 ix @ld @bC @lk @Z7 e5) ?_;exact⟨_,Om,i+1,Om,rfl,rfl⟩
 ·have e3:=ff hlt;refine Rs (Ad t0 t3 t6 t8 t9 t18 t72 t73 t74 t184 t185 t186 e3) ?_;rw[<-hR];exact Mf T oV wV ok hj hx mb eW mk kn mc hN hu hS hv Sn (Sq t0) (Sq t3) (Sq t6) (Sq t8) (Sq t9) (Sq t72) (Sq t73) (Sq t74)
def Pr(mk:W[K.length]? =some (.aR (M.map fI)))(kn:pZ W V.an M (V.an.ar.take j)){D E:List (By)}(mp:W[p]? =some (.aR ((j7 D).map fI)))(hD:∀z,z∈D↔z∈N)(mq:W[q]? =some (.aR ((j7 E).map fI)))(nE:E.Nodup)(hE:∀z,z∈E↔z∈S)(hlen:ts.length=302)(t0:slot ts 0=s)(t3:slot ts 3=.ptr b 0)(t6:slot ts 6=.map K.length)(t8:slot ts 8=.ptr c 0)(t9:slot ts 9=u)(t11:slot ts 11=v)(t13:slot ts 13=.map p)(t18:slot ts 18=.map q)(t72:slot ts 72=V.s3)(t73:slot ts 73=.int .i64 V.ar.length)(t74:slot ts 74=.int .i64 j):
  WC P bN (qc 9) [] ts W (HB K s V b V.an (V.an.ar.take (j+1)) j):=by
 have hNl:N.length<=32:=by rw[hN];exact rF wV
 rw[qy 9 De];generalize hR:qc 10=R;unfold qc AG BA jD fn13;simp only[ai.j,ai.s,ai.r,ai.dr,ai.tl,ai.hd,ai.jE];refine Rs (pB t0 t3 t6 t8 t9 t11 t13 t18 t72 t73 t74 hu.aK) ?_;refine WL.inv T.mix (λm ts h'=>∃i:Nat,i<=N.length/\m=N.length-i/\h' =W/\ts.length=302/\slot ts 0=s/\slot ts 3=.ptr b 0/\slot ts 6=.map K.length/\slot ts 8=.ptr c 0/\slot ts 9=u/\slot ts 11=v/\slot ts 13=.map p/\slot ts 18=.map q/\slot ts 72=V.s3/\slot ts 73=.int .i64 V.ar.length/\slot ts 74=.int .i64 j/\slot ts 168=u/\slot ts 169=.int .i64 N.length/\slot ts 170=.int .i64 i) N.length
  ⟨0,Om,rfl,rfl,Sn,(Sq t0),(Sq t3),(Sq t6),(Sq t8),(Sq t9),(Sq t11),(Sq t13),(Sq t18),(Sq t72),(Sq t73),(Sq t74),(Sq t9),Sw,gP⟩ ?_
 clear t0 t3 t6 t8 t9 t11 t13 t18 t72 t73 t74 hlen;rintro _ ts W4 ⟨i,hi,rfl,h4,hlen,t0,t3,t6,t8,t9,t11,t13,t18,t72,t73,t74,t168,t169,t170⟩;rw[h4];by_cases hlt:i<N.length
 ·have e3:=eC hlt;have e5:=wrapN (n:=i) Om;have ix:=hu.dE (kk:=.i64) hlt;obtain⟨z,hz⟩:∃z,z=N[i]:=⟨_,rfl⟩;have ld:aq none (cT u 1 i) (λb=>W[b]?)=some (.str z,.ay):=hu.kg hlt (by rw[hz];rfl) (Ext.refl _);have lk:=um (d:=.bool false) (w:=z) mp;rw[o8,ZI ((hD z).2 (by rw[hz];exact ZR _))]at lk;refine Rs (Q4 t0 t3 t6 t8 t9 t11 t13 t18 t72 t73 t74 t168 t169 t170 e3 ix @ld @bC @lk @Z7 e5) ?_;exact⟨_,Om,i+1,Om,rfl,rfl⟩
 ·have e3:=ff hlt;refine Rs (Bv t0 t3 t6 t8 t9 t11 t13 t18 t72 t73 t74 t168 t169 t170 e3) ?_;rw[<-hR];exact Mg T oV wV ok hj hx mb eW mc hN hu hS hv mk kn mq nE hE Sn (Sq t0) (Sq t3) (Sq t6) (Sq t8) (Sq t9) (Sq t11) (Sq t18) (Sq t72) (Sq t73) (Sq t74)
def Ps(mk:W[K.length]? =some (.aR (M.map fI)))(kn:pZ W V.an M (V.an.ar.take j)){D:List (By)}(mp:W[p]? =some (.aR ((j7 D).map fI)))(hD:∀z,z∈D↔z∈N)(hlen:ts.length=302)(t18:slot ts 18=.map W.length)(t0:slot ts 0=s)(t3:slot ts 3=.ptr b 0)(t6:slot ts 6=.map K.length)(t8:slot ts 8=.ptr c 0)(t9:slot ts 9=u)(t11:slot ts 11=v)(t13:slot ts 13=.map p)(t72:slot ts 72=V.s3)(t73:slot ts 73=.int .i64 V.ar.length)(t74:slot ts 74=.int .i64 j):
  WC P bN (qc 8) [] ts (W++[.aR []]) (HB K s V b V.an (V.an.ar.take (j+1)) j):=by
 have hL3:V.ar.length<=32:=by have:=wV.l3;simpa [RV.an]using this
 have Yq:V.an.ar.length=V.ar.length:=by simp[RV.an]
 have lb:=@eQ _ _ _ (eW.some mb);obtain⟨q,hq⟩:∃q,q=W.length:=⟨_,rfl⟩;rw[<-hq]at t18;rw[qy 8 De];generalize hR:qc 9=R;unfold qc AG BA jD fn13;simp only[ai.j,ai.s,ai.r,ai.dr,ai.tl,ai.hd,ai.jE];refine Rs (xJ t0 t3 t6 t8 t9 t11 t13 t72 t73 t74 t18 @lb @fx oV.i3.aK) ?_;refine WL.inv T.mix (λm ts h'=>∃(i:Nat) (E:List (By)),i<=V.ar.length/\m=V.ar.length-i/\Ext W h'/\h'[q]? =some (.aR ((j7 E).map fI))/\E.Nodup/\(∀z,z∈E↔∃y∈V.an.ar.take i,y.name∈N/\y.aI=[]/\z=y.line)/\ts.length=302/\slot ts 0=s/\slot ts 3=.ptr b 0/\slot ts 6=.map K.length/\slot ts 8=.ptr c 0/\slot ts 9=u/\slot ts 11=v/\slot ts 13=.map p/\slot ts 18=.map q/\slot ts 72=V.s3/\slot ts 73=.int .i64 V.ar.length/\slot ts 74=.int .i64 j/\slot ts 148=V.s3/\slot ts 149=.int .i64 V.ar.length/\slot ts 150=.int .i64 i) V.ar.length
  ⟨0,[],Om,rfl,⟨_,rfl⟩,by rw[hq];exact aV,List.nodup_nil,(λz=>by simp),Sn,(Sq t0),(Sq t3),(Sq t6),(Sq t8),(Sq t9),(Sq t11),(Sq t13),(Sq t18),(Sq t72),(Sq t73),(Sq t74),Sw,Sw,gP⟩ ?_
 clear t0 t3 t6 t8 t9 t11 t13 t72 t73 t74 t18 hlen lb;rintro _ ts W2 ⟨i,E,hi,rfl,e2,mq,nE,hE,hlen,t0,t3,t6,t8,t9,t11,t13,t18,t72,t73,t74,t148,t149,t150⟩;by_cases hlt:i<V.ar.length
 ·have e3:=eC hlt;have e5:=wrapN (n:=i) Om;have o2:=oV.ext (eW.trans e2);have ix:=o2.i3.dE (kk:=.i64) hlt;obtain⟨y,hy⟩:∃y,y=V.ar[i]:=⟨_,rfl⟩;have UU:y∈V.ar:=by rw[hy];exact ZR _
  have ld:∀{k':ah},Ext W2 k'->aq (some 4) (cT V.s3 4 i) (λb=>k'[b]?)=some (.agg (aP y),.ay):=λ{k'} e=>by rw[hy];exact o2.i3.kf hlt e
  have oy:=o2.e3 y UU;have UJ:=oy.one;have X2:=@G8 y UJ;unfold aP at ld X2;have lk:=um (d:=.bool false) (w:=y.1.name) ((show Ext W2 (W2++[ak.cells [AV.str y.1.name,AV.str y.1.gives,AV.str y.1.line,y.2] true false])from⟨_,rfl⟩).some (e2.some mp));rw[o8]at lk;have bS:V.an.ar.take (i+1)=V.an.ar.take i++[y.1]:=by
   exact NJ
  have SW:∀z,(∃w∈V.an.ar.take (i+1),w.name∈N/\w.aI=[]/\z=w.line)↔(∃w∈V.an.ar.take i,w.name∈N/\w.aI=[]/\z=w.line)\/(y.1.name∈N/\y.1.aI=[]/\z=y.1.line):=λz=>by
   rw[bS];simp only[ZK,ZW];constructor
   ·rintro⟨w,hw|rfl,h⟩
    ·exact .inl ⟨w,hw,h⟩
    ·exact .inr h
   ·rintro(⟨w,hw,h⟩|h)
    ·exact⟨w,.inl hw,h⟩
    ·exact⟨y.1,.inr rfl,h⟩
  by_cases hin:y.1.name∈D
  ·rw[ZI hin]at lk;by_cases h0:y.1.aI=[]
   ·have q0:decide ((y.1.aI.length:Int)=0)=true:=ZI (by rw[h0];rfl);have u0:oh .s (.map q) (.str y.1.line) (.bool true) (λz=>(W2++[ak.cells [AV.str y.1.name,AV.str y.1.gives,AV.str y.1.line,y.2] true false])[z]?)=some (az,.set q (.aR ((j7 (rR E y.1.line)).map fI))):=by
     rw[<-sg];exact zo ((show Ext W2 _ from⟨_,rfl⟩).some mq)
    have hql:=(ZC.1 mq).1
    repeat (first|simp (config:={maxSteps:=1000000}) only[aS,aW,bo,bp,reduceAdd,reduceMul,reduceLeDiff,reduceEqDiff,bw,hlen,ZY,Z1,t0,t3,t6,t8,t9,t11,t13,t18,t72,t73,t74,t148,t149,t150,e3,ix,ld,X2,UJ,bC,lk,oy.aK,q0,eA,u0,e5]|simp (config:={maxSteps:=1000000}) (disch:=first|(simp only[ZB,ZG,ZJ]<;>omega)|rfl|omega|fail) only[fN,aS,aW,bo,bp,reduceAdd,reduceMul,reduceLeDiff,reduceEqDiff,bw,hlen,ZY,Z1,t0,t3,t6,t8,t9,t11,t13,t18,t72,t73,t74,t148,t149,t150,e3,ix,ld,X2,UJ,bC,lk,oy.aK,q0,eA,u0,e5])
    refine⟨_,Om,i+1,rR E y.1.line,Om,rfl,?_,?_,CY nE,λz=>?_,rfl⟩
    ·exact(e2.hP Om).trans ⟨_,rfl⟩
    ·rw[ZF (by rw[aap];omega),ZU hql]
    ·rw[zq,hE,SW];exact or_congr Iff.rfl ⟨λe=>⟨(hD _).1 hin,h0,e⟩,λh=>h.2.2⟩
   ·have q0:decide ((y.1.aI.length:Int)=0)=false:=ZD λz=>h0 (aay.1 Om)
    refine Rs (Eb t0 t3 t6 t8 t9 t11 t13 t18 t72 t73 t74 t148 t149 t150 e3 ix @ld @X2 @UJ @bC @lk oy.aK q0 e5) ?_;refine⟨_,Om,i+1,E,Om,rfl,e2.trans ⟨_,rfl⟩,(show Ext W2 _ from⟨_,rfl⟩).some mq,nE,λz=>?_,rfl⟩;rw[hE,SW];exact⟨.inl,λh=>h.elim id λh=>absurd h.2.1 h0⟩
  ·rw[ZD hin]at lk;refine Rs (Kg t0 t3 t6 t8 t9 t11 t13 t18 t72 t73 t74 t148 t149 t150 e3 ix @ld @X2 @UJ @bC @lk e5) ?_;refine⟨_,Om,i+1,E,Om,rfl,e2.trans ⟨_,rfl⟩,(show Ext W2 _ from⟨_,rfl⟩).some mq,nE,λz=>?_,rfl⟩;rw[hE,SW];exact⟨.inl,λh=>h.elim id λh=>absurd ((hD _).2 h.1) hin⟩
 ·have e3:=ff hlt;have hE2:∀z,z∈E↔z∈S:=λz=>by
   rw[hE,aal Om,hS,ok.sm z,hN]
  refine Rs (Bv t0 t3 t6 t8 t9 t11 t13 t18 t72 t73 t74 t148 t149 t150 e3) ?_;rw[<-hR];exact Pr T oV wV ok hj hx mb (eW.trans e2) (e2.some mc) hN (hu.ext e2) hS (hv.ext e2) (e2.some mk) (kn.ext e2) (e2.some mp) hD mq nE hE2 Sn (Sq t0) (Sq t3) (Sq t6) (Sq t8) (Sq t9) (Sq t11) (Sq t13) (Sq t18) (Sq t72) (Sq t73) (Sq t74)
def Pt(mk:W[K.length]? =some (.aR (M.map fI)))(kn:pZ W V.an M (V.an.ar.take j)){D:List (By)}(mp:W[p]? =some (.aR ((j7 D).map fI)))(nD:D.Nodup)(hD:∀z,z∈D↔z∈N)(hlen:ts.length=302)(t0:slot ts 0=s)(t3:slot ts 3=.ptr b 0)(t6:slot ts 6=.map K.length)(t8:slot ts 8=.ptr c 0)(t9:slot ts 9=u)(t11:slot ts 11=v)(t13:slot ts 13=.map p)(t72:slot ts 72=V.s3)(t73:slot ts 73=.int .i64 V.ar.length)(t74:slot ts 74=.int .i64 j):
  WC P bN (qc 6) [] ts W (HB K s V b V.an (V.an.ar.take (j+1)) j):=by
 have hl:D.length=N.length:=CX nD (by rw[hN];exact ok.nd) hD;have lq:=wa (r:=p) (G:=λz=>W[z]?) mp;rw[y5,hl]at lq;have q0:=ne_self (N.length:Int);rw[qy 6 De,qy 7 De];generalize hR:qc 8=R;unfold qc AG BA jD fn13;simp only[ai.j,ai.s,ai.r,ai.dr,ai.tl,ai.hd,ai.jE];refine Rs (Ad t0 t3 t6 t8 t9 t11 t13 t72 t73 t74 hu.aK @lq q0) ?_;rw[<-hR];exact Ps T oV wV ok hj hx mb eW mc hN hu hS hv mk kn mp hD Sn Sw (Sq t0) (Sq t3) (Sq t6) (Sq t8) (Sq t9) (Sq t11) (Sq t13) (Sq t72) (Sq t73) (Sq t74)
def Me(wn:uU V.an)(mk:W[K.length]? =some (.aR (M.map fI)))(kn:pZ W V.an M (V.an.ar.take j))(hlen:ts.length=302)(t13:slot ts 13=.map W.length)(t0:slot ts 0=s)(t3:slot ts 3=.ptr b 0)(t6:slot ts 6=.map K.length)(t8:slot ts 8=.ptr c 0)(t9:slot ts 9=u)(t11:slot ts 11=v)(t72:slot ts 72=V.s3)(t73:slot ts 73=.int .i64 V.ar.length)(t74:slot ts 74=.int .i64 j):
  WC P bN (qc 5) [] ts (W++[.aR ((j7 [x.1.name]).map fI)]) (HB K s V b V.an (V.an.ar.take (j+1)) j):=by
 have Yq:V.an.ar.length=V.ar.length:=by simp[RV.an]
 have Tm:x∈V.ar:=by rw[hx];exact ZR _
 have hxr:x.1∈V.an.ar:=ZT Tm;have hxj:V.an.ar[j]'Om=x.1:=by rw[hx];simp[RV.an]
 have hxl:x.1.aI.length<=2:=(wV.md x.1 hxr).2.1;have hin:∀z∈x.1.aI,∃y∈V.an.ar.take j,y.name=z:=λz hz=>by
  have:=wn.mo j Om z (by rw[hxj];exact hz);exact Z3.1 this
 have lc:=@eQ _ _ _ mc;have l3:(aP x)[3]? =some x.2:=rfl;have ox:=(oV.ext eW).e3 x Tm;obtain⟨p,hp⟩:∃p,p=W.length:=⟨_,rfl⟩;rw[<-hp]at t13;rw[qy 5 De];generalize hR:qc 6=R;unfold qc AG BA jD fn13;simp only[ai.j,ai.s,ai.r,ai.dr,ai.tl,ai.hd,ai.jE];refine Rs (Ad t0 t3 t6 t8 t9 t11 t72 t73 t74 t13 @lc @l3 ox.aK) ?_;refine WL.inv T.mix (λm ts h'=>∃(i:Nat) (D:List (By)),i<=x.1.aI.length/\m=x.1.aI.length-i/\Ext W h'/\h'[p]? =some (.aR ((j7 D).map fI))/\D.Nodup/\(∀z,z∈D↔z=x.1.name\/∃a∈x.1.aI.take i,z∈(dP V.an a).map cQ.name)/\ts.length=302/\slot ts 0=s/\slot ts 3=.ptr b 0/\slot ts 6=.map K.length/\slot ts 8=.ptr c 0/\slot ts 9=u/\slot ts 11=v/\slot ts 13=.map p/\slot ts 72=V.s3/\slot ts 73=.int .i64 V.ar.length/\slot ts 74=.int .i64 j/\slot ts 119=x.2/\slot ts 120=.int .i64 x.1.aI.length/\slot ts 121=.int .i64 i) x.1.aI.length
  ⟨0,[x.1.name],Om,rfl,⟨_,rfl⟩,by rw[hp];exact aV,Si,(λz=>by simp),Sn,(Sq t0),(Sq t3),(Sq t6),(Sq t8),(Sq t9),(Sq t11),(Sq t13),(Sq t72),(Sq t73),(Sq t74),Sw,Sw,gP⟩ ?_
 clear t0 t3 t6 t8 t9 t11 t72 t73 t74 t13 hlen lc;rintro _ ts W2 ⟨i,D,hi,rfl,e2,mp,nD,hD,hlen,t0,t3,t6,t8,t9,t11,t13,t72,t73,t74,t119,t120,t121⟩;by_cases hlt:i<x.1.aI.length
 case neg=>
  have e3:=ff hlt;have hD2:∀z,z∈D↔z∈N:=λz=>by rw[hD,aal Om,hN,ok.mm z]
  refine Rs (xJ t0 t3 t6 t8 t9 t11 t13 t72 t73 t74 t119 t120 t121 e3) ?_;rw[<-hR];exact Pt T oV wV ok hj hx mb (eW.trans e2) (e2.some mc) hN (hu.ext e2) hS (hv.ext e2) (e2.some mk) (kn.ext e2) mp nD hD2 Sn (Sq t0) (Sq t3) (Sq t6) (Sq t8) (Sq t9) (Sq t11) (Sq t13) (Sq t72) (Sq t73) (Sq t74)
 have e3:=eC hlt;have e5:=wrapN (n:=i) Om;have o2:=ox.ext e2;have ix:=o2.dE (kk:=.i64) hlt;obtain⟨a,ha⟩:∃a,a=x.1.aI[i]:=⟨_,rfl⟩;have ld:aq none (cT x.2 1 i) (λb=>W2[b]?)=some (.str a,.ay):=o2.kg hlt (by rw[ha];rfl) (Ext.refl _);obtain⟨ya,hya,hya2⟩:=hin a (by rw[ha];exact ZR _);have TQ:ya∈V.an.ar:=aaD hya;obtain⟨C,hC⟩:=(qK wV wn TQ).la;have kQ:=(kn ya hya).ext e2;rw[hya2]at kQ hC;obtain⟨Q,hQ⟩:∃Q,Q=(dP V.an a).map cQ.name:=⟨_,rfl⟩;have hQl:Q.length<=32:=by rw[hQ];exact rF wV
 rw[<-hQ]at kQ hC;obtain⟨kv,hkv⟩:∃kv,kv=lZ .af M a:=⟨_,rfl⟩;rw[<-hkv]at kQ;have lk:=um (d:=.af) (w:=a) (e2.some mk);rw[<-hkv]at lk;have nq:sP false (oQ .Ay kv .af)=some (.bool false):=by
  rcases kQ.L8 with⟨_,h⟩|h
  ·rw[hC]at h;simp at h
  ·exact h false
 refine Rs (NV t0 t3 t6 t8 t9 t11 t13 t72 t73 t74 t119 t120 t121 e3 ix @ld @bC @lk @nq kQ.aK) ?_;have bS:x.1.aI.take (i+1)=x.1.aI.take i++[a]:=by rw[aao,ZH hlt,ha];rfl
 refine WL.inv T.mix (λm ts h'=>∃(r:Nat) (D:List (By)),r<=Q.length/\m=Q.length-r/\Ext W h'/\h'[p]? =some (.aR ((j7 D).map fI))/\D.Nodup/\(∀z,z∈D↔(z=x.1.name\/∃a∈x.1.aI.take i,z∈(dP V.an a).map cQ.name)\/z∈Q.take r)/\ts.length=302/\slot ts 0=s/\slot ts 3=.ptr b 0/\slot ts 6=.map K.length/\slot ts 8=.ptr c 0/\slot ts 9=u/\slot ts 11=v/\slot ts 13=.map p/\slot ts 72=V.s3/\slot ts 73=.int .i64 V.ar.length/\slot ts 74=.int .i64 j/\slot ts 119=x.2/\slot ts 120=.int .i64 x.1.aI.length/\slot ts 121=.int .i64 i/\slot ts 131=kv/\slot ts 132=.int .i64 Q.length/\slot ts 133=.int .i64 r) Q.length
  ⟨0,D,Om,rfl,e2,mp,nD,(λz=>by rw[hD];simp),Sn,(Sq t0),(Sq t3),(Sq t6),(Sq t8),(Sq t9),(Sq t11),(Sq t13),(Sq t72),(Sq t73),(Sq t74),(Sq t119),(Sq t120),(Sq t121),Sw,Sw,gP⟩ ?_
 clear t0 t3 t6 t8 t9 t11 t13 t72 t73 t74 t119 t120 t121 hlen e3 lk ld ix mp nD hD D o2;rintro _ ts W3 ⟨r,D,hr,rfl,e4,mp,nD,hD,hlen,t0,t3,t6,t8,t9,t11,t13,t72,t73,t74,t119,t120,t121,t131,t132,t133⟩;by_cases Wp:r<Q.length
 ·have e3:=eC Wp;have e6:=wrapN (n:=r) Om;have kQ3:aH W3 kv 1 (Q.map ao):=by
   have:=(kn ya hya).ext e4;rw[hya2,<-hkv,<-hQ]at this;exact this
  have ix:=kQ3.dE (kk:=.i64) Wp;obtain⟨w,hw⟩:∃w,w=Q[r]:=⟨_,rfl⟩;have ld:aq none (cT kv 1 r) (λb=>W3[b]?)=some (.str w,.ay):=kQ3.kg Wp (by rw[hw];rfl) (Ext.refl _);have u0:oh .s (.map p) (.str w) (.bool true) (λz=>W3[z]?)=some (az,.set p (.aR ((j7 (rR D w)).map fI))):=by rw[<-sg];exact zo mp
  have U5:=(ZC.1 mp).1;refine Rs (Kg t0 t3 t6 t8 t9 t11 t13 t72 t73 t74 t119 t120 t121 t131 t132 t133 e3 ix @ld @eA @u0 e6) ?_;refine⟨_,Om,r+1,rR D w,Om,rfl,e4.hP Om,ZU U5,CY nD,λz=>?_,rfl⟩;rw[zq,hD,aao,ZH Wp,<-hw,ZK,or_assoc];simp
 ·have e3:=ff Wp;refine Rs (Ec t0 t3 t6 t8 t9 t11 t13 t72 t73 t74 t119 t120 t121 t131 t132 t133 e3 e5) ?_;refine⟨_,Om,i+1,D,Om,rfl,e4,mp,nD,λz=>?_,rfl⟩;rw[hD,aal (l:=Q) Om,bS,hQ,or_assoc];refine or_congr Iff.rfl ?_;simp only[ZK,ZW];constructor
  ·rintro(⟨c,h1,h2⟩|h)
   ·exact⟨c,.inl h1,h2⟩
   ·exact⟨a,.inr rfl,h⟩
  ·rintro⟨c,h1|rfl,h2⟩
   ·exact .inl ⟨c,h1,h2⟩
   ·exact .inr h2
def Pv(wn:uU V.an)(mk:W[K.length]? =some (.aR (M.map fI)))(kn:pZ W V.an M (V.an.ar.take j))(hlen:ts.length=302)(t0:slot ts 0=s)(t3:slot ts 3=.ptr b 0)(t6:slot ts 6=.map K.length)(t8:slot ts 8=.ptr c 0)(t9:slot ts 9=u)(t11:slot ts 11=v)(t72:slot ts 72=V.s3)(t73:slot ts 73=.int .i64 V.ar.length)(t74:slot ts 74=.int .i64 j):
  WC P bN (qc 4) [] ts W (HB K s V b V.an (V.an.ar.take (j+1)) j):=by
 have lc:=@eQ _ _ _ mc;have la:(aP x)[0]? =some (.str x.1.name):=rfl;have u0:oh .s (.map W.length) (.str x.1.name) (.bool true) (λz=>(W++[ak.aR []])[z]?)=some (az,.set W.length (.aR ((j7 [x.1.name]).map fI))):=zo (M:=[]) aV;rw[qy 4 De];generalize hR:qc 5=R;unfold qc AG BA jD fn13;simp only[ai.j,ai.s,ai.r,ai.dr,ai.tl,ai.hd,ai.jE];refine Rs (Ad t0 t3 t6 t8 t9 t11 t72 t73 t74 @lc @la @eA @u0) ?_;rw[<-hR];exact Me T oV wV ok hj hx mb eW mc hN hu hS hv wn mk kn Sn Sw (Sq t0) (Sq t3) (Sq t6) (Sq t8) (Sq t9) (Sq t11) (Sq t72) (Sq t73) (Sq t74)
end
section
variable {P:Program}(T:fy P) {h K W:ah}{ts:TS}{L:List EV}{s:AV}{V:RV}{M:List (By×AV)}{b c j:Nat}(o:eE h L s) (sh:uV L) (gl:Gl h) (hr:(bF (L.map EV.ev)).2.2=0) (eK:Ext h K) (oV:aD K V) (wV:eD V.an) (wn:uU V.an) (hV:V.an=(bF (L.map EV.ev)).1.now) (mb:K[b]? =some (.cells V.row true false))
include T o sh gl hr eK oV wV wn hV mb
def E6(eW:Ext K W)(mk:W[K.length]? =some (.aR (M.map fI)))(kn:pZ W V.an M (V.an.ar.take j))(hj:j<V.ar.length)(hlen:ts.length=302)(t0:slot ts 0=s)(t3:slot ts 3=.ptr b 0)(t6:slot ts 6=.map K.length)(t72:slot ts 72=V.s3)(t73:slot ts 73=.int .i64 V.ar.length)(t74:slot ts 74=.int .i64 j):
  WC P bN AG [] ts W (HB K s V b V.an (V.an.ar.take (j+1)) j):=by
 obtain⟨x,hx⟩:∃x,x=V.ar[j]:=⟨_,rfl⟩;have Tm:x∈V.ar:=by rw[hx];exact ZR _
 have hxr:x.1∈V.an.ar:=ZT Tm;have hxn:x.1.name∈fL V.an:=ZT (f:=cQ.name) hxr;have ok:=qK wV wn hxr;obtain⟨C,hC⟩:=ok.la;have oW:=oV.ext eW;have VY:=eK.trans eW;have ix:=oW.i3.dE (kk:=.i64) hj;have ld:∀{k':ah},Ext W k'->aq (some 4) (cT V.s3 4 j) (λb=>k'[b]?)=some (.agg (aP x),.ay):=λ{k'} e=>by rw[hx];exact oW.i3.kf hj e
 have ox:=oW.e3 x Tm;have X4:=ox.one;have st:=@G8 x X4;have la:(aP x)[0]? =some (.str x.1.name):=rfl;obtain⟨N,hN⟩:∃N,N=(dP V.an x.1.name).map cQ.name:=⟨_,rfl⟩;obtain⟨S,hS⟩:∃S,S=(dV V.an x.1.name).map dX.name:=⟨_,rfl⟩;have hNl:N.length<=32:=by rw[hN];exact rF wV
 have q1:=AF hr (hV▸hxn);have q2:=vj hr (hV▸hxn);rw[<-hV,<-hN]at q1;rw[<-hV,<-hS]at q2;rw[<-hN]at hC;have hNC:N.length=C.length+1:=by rw[hC];simp
 rw[show AG=qc 0 from rfl,qy 0 De,qy 1 De,qy 2 De,qy 3 De];generalize hR:qc 4=R;unfold qc AG BA jD fn13;simp only[ai.j,ai.s,ai.r,ai.dr,ai.tl,ai.hd,ai.jE];refine Rs (na t0 t3 t6 t72 t73 t74 ix @ld @st @la) ?_;refine WF.res T.c51 (r51 T (o.ext (VY.trans Xx)) sh (gl.ext (VY.trans Xx)) x.1.name) ?_;rintro _ g1 ⟨u,rfl,hu⟩;rw[q1]at hu ⊢;refine Rs (A7 t0 t3 t6 t72 t73 t74 @la) ?_;refine WF.res T.c52 (r52 T (o.ext (VY.trans Xx)) sh (gl.ext (VY.trans Xx)) x.1.name) ?_;rintro _ g2 ⟨v,rfl,hv⟩;rw[q2]at hv ⊢;obtain⟨W2,S0⟩:∃W2,W2=W++[ak.cells (aP x) true false]++g1++g2:=⟨_,rfl⟩
 have e2:Ext W W2:=by rw[S0];exact Xx
 have mc:W2[W.length]? =some (.cells (aP x) true false):=by rw[S0];exact xy
 have hu:aH W2 u 1 (N.map ao):=hu.ext (by rw[S0];exact Xx);rw[<-S0]at hv ⊢;have hv:aH W2 v 1 (S.map ao):=hv;obtain⟨c,hc⟩:∃c,c=W.length:=⟨_,rfl⟩;rw[<-hc]at mc ⊢;clear S0 hc;have lc:=@eQ _ _ _ mc;have z0:decide ((0:Int)≠0)=false:=rfl;have q3:decide ((N.length:Int)=0)=false:=ZD Om;have w1:IntKind.i64.wrap ((N.length:Int)-1)=((C.length:Nat):Int):=by rw[bj Om Om];omega
 have ix2:=hu.dE (kk:=.i64) (i:=C.length) Om;have hlast:N[C.length]'Om=x.1.name:=by simp[hC]
 have ld2:∀{k':ah},Ext W2 k'->aq none (cT u 1 C.length) (λb=>k'[b]?)=some (.str x.1.name,.ay):=λ{k'} e=>hu.kg Om (by rw[hlast];rfl) e
 have n1:=ne_self x.1.name;refine Rs (Bv t0 t3 t6 t72 t73 t74 @z0 hu.aK q3 @w1 @ix2 @ld2 @lc @la @n1) ?_;rw[<-hR];exact Pv T oV wV ok hj hx mb (eW.trans e2) mc hN hu hS hv wn (e2.some mk) (kn.ext e2) Sn (Sq t0) (Sq t3) (Sq t6) Sw Sw Sw (Sq t72) (Sq t73) (Sq t74)
end
def E0:ai:=((jD 6).hd.tl.jE.jE.dr 2).hd.jE
def RL:ai:=(jD 6).hd.tl.jE.jE.dr 3
def vM(k:Nat):ai:=E0.dr k
def Ix:ai:=((vM 4).tl.jE.jE.dr 2).hd.jE
def RM:ai:=(vM 4).tl.jE.jE.dr 3
def zm(k:Nat):ai:=Ix.dr k
def Pk:jD 6=.seq (.seq (jD 6).hd.hd (.block 12 (.loop (.seq (jD 6).hd.tl.jE.jE.hd (.seq ((jD 6).hd.tl.jE.jE.dr 1).hd (.seq (.block 13 E0) RL)))))) (jD 7):=rfl
def Pj:E0=.seq (vM 0).hd (.seq (vM 1).hd (.seq (vM 2).hd (.seq (vM 3).hd (vM 4)))):=rfl
def Pm:vM 4=.seq (vM 4).hd (.block 14 (.loop (.seq (vM 4).tl.jE.jE.hd (.seq ((vM 4).tl.jE.jE.dr 1).hd (.seq (.block 15 Ix) RM))))):=rfl
def Pp:Ix=.seq (zm 0).hd (.seq (zm 1).hd (.seq (zm 2).hd (.seq (zm 3).hd (.seq (zm 4).hd (zm 5))))):=rfl
def Pq:zm 5=.seq (zm 5).hd (.seq (zm 6).hd (zm 7)):=rfl
def Al{R:dA}(w:eD R)(m:By):dV R m=R.lines.filter λx=>decide (x.name∈(dV R m).map dX.name):=by
 conv=>lhs;unfold dV
 refine abH λx hx=>abd.2 ⟨λh=>ZT (aaq.2 ⟨hx,ZI h⟩),λh=>?_⟩
 obtain⟨y,hy,e⟩:=Z3.1 h;obtain⟨h1,h2⟩:=aaq.1 hy;have a:=jd (d:=yq) w.n0.nd h1;have b:=jd (d:=yq) w.n0.nd hx;rw[e,b]at a;rw[<-a]at h2;exact aaU h2
theorem yP:∀(S:List dX),(∀x∈S,1<=x.want/\x.want<=64)->0<=(S.map dX.want).sum/\(S.map dX.want).sum<=64*(S.length:Int)
 |[],_=>by simp
 |x::S,h=>by
  have h1:=h x (aan ..);have h2:=yP S λy hy=>h y (Z8 _ hy)
  rw[aar,List.sum_cons,ZG];omega
def RW(K:ah)(s u:AV)(V:RV)(b c j i:Nat):Ex->TS->ah->Prop:=λe ts W=>(e=.normal\/e=.exit 15)/\Ext K W/\ts.length=302/\slot ts 0=s/\slot ts 3=.ptr b 0/\slot ts 26=.ptr c 0/\slot ts 27=u/\slot ts 201=V.s5/\slot ts 202=.int .i64 V.aJ.length/\slot ts 203=.int .i64 j/\slot ts 238=V.s4/\slot ts 239=.int .i64 V.aE.length/\slot ts 240=.int .i64 i
def RT(K:ah)(s:AV)(V:RV)(b j:Nat):Ex->TS->ah->Prop:=λe ts W=>e=.normal/\Ext K W/\ts.length=302/\slot ts 0=s/\slot ts 3=.ptr b 0/\slot ts 201=V.s5/\slot ts 202=.int .i64 V.aJ.length/\slot ts 203=.int .i64 j
section
variable {P:Program}(T:fy P) {h K W:ah}{ts:TS}{L:List EV}{s u v:AV}{V:RV}{p:nP}{b c d j i:Nat}(o:eE h L s) (sh:uV L) (gl:Gl h) (hr:(bF (L.map EV.ev)).2.2=0) (eK:Ext h K) (oV:aD K V) (wV:eD V.an) (wn:uU V.an) (hV:V.an=(bF (L.map EV.ev)).1.now) (mb:K[b]? =some (.cells V.row true false)) (eW:Ext K W)
include T o sh gl hr eK oV wV wn hV mb eW
theorem L7(ok:uP V.an p)(hu:aH W u 1 ((gD V.an p.name).map ao))(hv:aH W v 1 (((dV V.an (cW V.an p.jw).mod).map dX.name).map ao))(hlen:ts.length=302)(t35:slot ts 35=v)(t0:slot ts 0=s)(t3:slot ts 3=.ptr b 0)(t26:slot ts 26=.ptr c 0)(t27:slot ts 27=u)(t201:slot ts 201=V.s5)(t202:slot ts 202=.int .i64 V.aJ.length)(t203:slot ts 203=.int .i64 j)(t238:slot ts 238=V.s4)(t239:slot ts 239=.int .i64 V.aE.length)(t240:slot ts 240=.int .i64 i):
  WC P bN (zm 5) [] ts W (RW W s u V b c j i):=by
 have hL0:V.lines.length<=16:=wV.l0;have lb:=@eQ _ _ _ (eW.some mb);obtain⟨S,hS⟩:∃S,S=(dV V.an (cW V.an p.jw).mod).map dX.name:=⟨_,rfl⟩;have Tg:=Al wV (cW V.an p.jw).mod;rw[<-hS]at hv Tg;have hSl:S.length<=16:=by rw[hS];exact yX wV
 have S4:∀r,0<=(((V.lines.take r).filter λx=>decide (x.name∈S)).map dX.want).sum/\(((V.lines.take r).filter λx=>decide (x.name∈S)).map dX.want).sum<=1024:=λr=>by
  have h1:=yP ((V.lines.take r).filter λx=>decide (x.name∈S)) λx hx=>wV.ln x (aaD (aaq.1 hx).1)
  have h2:((V.lines.take r).filter λx=>decide (x.name∈S)).length<=V.lines.length:=aat (aaj ..) (by rw[aaB];omega);omega
 rw[Pq];unfold zm Ix vM E0 jD fn13;simp only[ai.j,ai.s,ai.r,ai.dr,ai.tl,ai.hd,ai.jE];refine Rs (xJ t35 t0 t3 t26 t27 t201 t202 t203 t238 t239 t240 @lb @fR oV.i0.aK) ?_;refine WL.inv T.mix (λm ts h'=>∃r:Nat,r<=V.lines.length/\m=V.lines.length-r/\Ext W h'/\ts.length=302/\slot ts 0=s/\slot ts 3=.ptr b 0/\slot ts 26=.ptr c 0/\slot ts 27=u/\slot ts 35=v/\slot ts 201=V.s5/\slot ts 202=.int .i64 V.aJ.length/\slot ts 203=.int .i64 j/\slot ts 238=V.s4/\slot ts 239=.int .i64 V.aE.length/\slot ts 240=.int .i64 i/\slot ts 277=V.s0/\slot ts 278=.int .i64 V.lines.length/\slot ts 37=.int .i64 (((V.lines.take r).filter λx=>decide (x.name∈S)).map dX.want).sum/\slot ts 279=.int .i64 r) V.lines.length
  ⟨0,Om,rfl,Ext.refl W,Sn,(Sq t0),(Sq t3),(Sq t26),(Sq t27),(Sq t35),(Sq t201),(Sq t202),(Sq t203),(Sq t238),(Sq t239),(Sq t240),Sw,Sw,gP,gP⟩ ?_
 clear t35 t0 t3 t26 t27 t201 t202 t203 t238 t239 t240 hlen lb;rintro _ ts W2 ⟨r,VO,rfl,e2,hlen,t0,t3,t26,t27,t35,t201,t202,t203,t238,t239,t240,t277,t278,t37,t279⟩;by_cases hlt:r<V.lines.length
 ·have e3:=eC hlt;have e5:=wrapN (n:=r) Om;have o2:=oV.ext (eW.trans e2);have ix:=o2.i0.dE (kk:=.i64) hlt;obtain⟨y,hy⟩:∃y,y=V.lines[r]:=⟨_,rfl⟩;have UU:y∈V.an.lines:=by rw[hy];exact ZR _
  have ld:∀{k':ah},Ext W2 k'->aq (some 3) (cT V.s0 3 r) (λb=>k'[b]?)=some (.agg (bV y),.ay):=λ{k'} e=>by rw[hy];exact o2.i0.kf hlt e
  have X2:=@Ml y;unfold bV at ld X2;have bS:(V.lines.take (r+1)).filter (λx=>decide (x.name∈S))=(V.lines.take r).filter (λx=>decide (x.name∈S))++if y.name∈S then [y]else []:=by
   rw[aao,ZH hlt,aaL,<-hy];by_cases hm:y.name∈S<;>simp[hm]
  refine Rs (NW t0 t3 t26 t27 t35 t201 t202 t203 t238 t239 t240 t277 t278 t37 t279 e3 ix @ld @X2) ?_;refine WF.ce T.c35 (r35 T (hv.ext (e2.trans Xx)) Om y.name) λg=>?_
  by_cases hm:y.name∈S
  ·rw[ZI hm];rw[ZS hm]at bS;have hacc:y.acc=true:=by
    refine ok.ac y ?_;rw[Tg];exact aaq.2 ⟨UU,ZI hm⟩
   have h1:=S4 r;have h2:=wV.ln y UU;have w1:IntKind.i64.wrap ((((V.lines.take r).filter λx=>decide (x.name∈S)).map dX.want).sum+y.want)=(((V.lines.take (r+1)).filter λx=>decide (x.name∈S)).map dX.want).sum:=by
    rw[bS,ZM,List.sum_append,bj Om Om];simp
   refine Rs (NW t0 t3 t26 t27 t35 t201 t202 t203 t238 t239 t240 t277 t278 t37 t279 @w1 @hacc @Z7 e5) ?_;exact⟨_,Om,r+1,Om,rfl,e2.trans Xx,rfl,rfl⟩
  ·rw[ZD hm];rw[ZN hm,Z6]at bS;refine Rs (D8 t0 t3 t26 t27 t35 t201 t202 t203 t238 t239 t240 t277 t278 t37 t279 e5) ?_;exact⟨_,Om,r+1,Om,rfl,e2.trans Xx,by rw[bS],rfl⟩
 ·have e3:=ff hlt;have hw:=ok.wt;rw[Tg]at hw;have hall:(V.lines.take r).filter (λx=>decide (x.name∈S))=V.an.lines.filter λx=>decide (x.name∈S):=by rw[aal Om];rfl
  rw[<-hall]at hw;have q1:decide (((gD V.an p.name).length:Int)<(((V.lines.take r).filter λx=>decide (x.name∈S)).map dX.want).sum)=false:=ZD Om;refine Rs (Ec t0 t3 t26 t27 t35 t201 t202 t203 t238 t239 t240 t277 t278 t37 t279 e3 hu.aK q1) ?_;exact⟨.inl rfl,e2,Sn,(Sq t0),(Sq t3),(Sq t26),(Sq t27),(Sq t201),(Sq t202),(Sq t203),(Sq t238),(Sq t239),(Sq t240)⟩
def E2(ok:uP V.an p)(hi:i<V.aE.length)(mc:W[c]? =some (.cells (cF p) true false))(hu:aH W u 1 ((gD V.an p.name).map ao))(hlen:ts.length=302)(t0:slot ts 0=s)(t3:slot ts 3=.ptr b 0)(t26:slot ts 26=.ptr c 0)(t27:slot ts 27=u)(t201:slot ts 201=V.s5)(t202:slot ts 202=.int .i64 V.aJ.length)(t203:slot ts 203=.int .i64 j)(t238:slot ts 238=V.s4)(t239:slot ts 239=.int .i64 V.aE.length)(t240:slot ts 240=.int .i64 i):
  WC P bN Ix [] ts W (RW W s u V b c j i):=by
 obtain⟨y,hy⟩:∃y,y=V.aE[i]:=⟨_,rfl⟩;have UU:y∈V.aE:=by rw[hy];exact ZR _
 have TQ:y.1∈V.an.aE:=ZT UU;have oW:=oV.ext eW;have VY:=eK.trans eW;have ix:=oW.i4.dE (kk:=.i64) hi;have ld:∀{k':ah},Ext W k'->aq (some 3) (cT V.s4 3 i) (λb=>k'[b]?)=some (.agg (bK y),.ay):=λ{k'} e=>by rw[hy];exact oW.i4.kf hi e
 have oy:=oW.e4 y UU;have UJ:=oy.one;have st:=@MF y UJ;unfold bK at ld st;have lc:=@eQ _ _ _ mc;unfold cF at lc;rw[Pp];generalize hR:zm 5=R;unfold zm Ix vM E0 jD fn13;simp only[ai.j,ai.s,ai.r,ai.dr,ai.tl,ai.hd,ai.jE];by_cases hn:y.1.name=p.jw
 case neg=>
  have q1:decide (y.1.name≠p.jw)=true:=ZI hn;refine Rs (D8 t0 t3 t26 t27 t201 t202 t203 t238 t239 t240 ix @ld @st @UJ @lc q1) ?_;exact⟨.inr rfl,Xx,Sn,(Sq t0),(Sq t3),(Sq t26),(Sq t27),(Sq t201),(Sq t202),(Sq t203),(Sq t238),(Sq t239),(Sq t240)⟩
 have q1:decide (y.1.name≠p.jw)=false:=ZD λz=>z hn
 have hyj:y.1=cW V.an p.jw:=by
  have:=jd (d:=vO) wV.n4.nd TQ;rw[hn]at this;exact this.symm
 have hdg:=ok.dg;have hmd:=ok.md;have hsl:=ok.sl;rw[<-hyj]at hdg hmd hsl;have q2:=vj hr (hV▸hmd);rw[<-hV]at q2;refine Rs (D8 t0 t3 t26 t27 t201 t202 t203 t238 t239 t240 ix @ld @st @UJ @lc q1) ?_;obtain⟨W1,Uo⟩:∃W1,W1=W++[ak.cells [AV.str y.1.name,AV.str y.1.mod,y.2] true false]:=⟨_,rfl⟩;have e1:Ext W W1:=by rw[Uo];exact⟨_,rfl⟩
 have md:W1[W.length]? =some (.cells [AV.str y.1.name,AV.str y.1.mod,y.2] true false):=by rw[Uo];exact aV
 obtain⟨d,hd⟩:∃d,d=W.length:=⟨_,rfl⟩;rw[<-Uo];rw[<-hd]at md ⊢;clear Uo hd;refine WR.pQ (N:=W1.length) aV (ZO _) (oy.ext (e1.trans Xx)) (by simp only[ZL];omega) λt g f=>?_
 have ft:=f.aX;refine Rs (na t0 t3 t26 t27 t201 t202 t203 t238 t239 t240) ?_;refine WF.ce T.c27 (r27 T ft Om) λg1=>?_
 rw[hdg];have l2:=@eQ _ _ _ md;refine Rs (mZ t0 t3 t26 t27 t201 t202 t203 t238 t239 t240 @l2) ?_;refine WF.res T.c52 (r52 T (o.ext ((VY.trans e1).trans Xx)) sh (gl.ext ((VY.trans e1).trans Xx)) y.1.mod) ?_;rintro _ g2 ⟨v,rfl,hv⟩;rw[q2]at hv ⊢;have z0:decide ((0:Int)≠0)=false:=rfl;have n1:=ne_self p.iQ;have lc:=@eQ _ _ _ (e1.some mc);unfold cF at lc;refine Rs (Ad t0 t3 t26 t27 t201 t202 t203 t238 t239 t240 @z0 @lc @n1) ?_;rw[<-hR];rw[hyj]at hv;refine WC.zp (L7 T (b:=b) (c:=c) (j:=j) (i:=i) o sh gl hr eK oV wV wn hV mb ((eW.trans e1).trans Xx) ok (hu.ext (e1.trans Xx)) hv Sn Sw (Sq t0) (Sq t3) (Sq t26) (Sq t27) (Sq t201) (Sq t202) (Sq t203) (Sq t238) (Sq t239) (Sq t240)) ?_
 rintro e ts' W' ⟨a,b,c⟩;exact⟨a,(show Ext W _ from e1.trans Xx).trans b,c⟩
def L5(ok:uP V.an p)(mc:W[c]? =some (.cells (cF p) true false))(hu:aH W u 1 ((gD V.an p.name).map ao))(hlen:ts.length=302)(t0:slot ts 0=s)(t3:slot ts 3=.ptr b 0)(t26:slot ts 26=.ptr c 0)(t27:slot ts 27=u)(t201:slot ts 201=V.s5)(t202:slot ts 202=.int .i64 V.aJ.length)(t203:slot ts 203=.int .i64 j):
  WC P bN (vM 4) [] ts W (RT W s V b j):=by
 have hL4:V.aE.length<=16:=by have:=wV.l4;simpa [RV.an]using this
 have lb:=@eQ _ _ _ (eW.some mb);rw[Pm];generalize hC:Ix=C;unfold RM vM E0 jD fn13;simp only[ai.j,ai.s,ai.r,ai.dr,ai.tl,ai.hd,ai.jE];refine Rs (na t0 t3 t26 t27 t201 t202 t203 @lb @ga oV.i4.aK) ?_;refine WL.inv T.mix (λm ts h'=>∃i:Nat,i<=V.aE.length/\m=V.aE.length-i/\Ext W h'/\ts.length=302/\slot ts 0=s/\slot ts 3=.ptr b 0/\slot ts 26=.ptr c 0/\slot ts 27=u/\slot ts 201=V.s5/\slot ts 202=.int .i64 V.aJ.length/\slot ts 203=.int .i64 j/\slot ts 238=V.s4/\slot ts 239=.int .i64 V.aE.length/\slot ts 240=.int .i64 i) V.aE.length
  ⟨0,Om,rfl,Ext.refl W,Sn,(Sq t0),(Sq t3),(Sq t26),(Sq t27),(Sq t201),(Sq t202),(Sq t203),Sw,Sw,gP⟩ ?_
 clear t0 t3 t26 t27 t201 t202 t203 hlen lb;rintro _ ts W2 ⟨i,hi,rfl,e2,hlen,t0,t3,t26,t27,t201,t202,t203,t238,t239,t240⟩;by_cases hlt:i<V.aE.length
 ·have e3:=eC hlt;have e5:=wrapN (n:=i) Om;refine Rs (mZ t0 t3 t26 t27 t201 t202 t203 t238 t239 t240 e3) ?_;refine WC.cut _ (hC▸E2 T (b:=b) (c:=c) (j:=j) (i:=i) o sh gl hr eK oV wV wn hV mb (eW.trans e2) ok hlt (e2.some mc) (hu.ext e2) Sn (Sq t0) (Sq t3) (Sq t26) (Sq t27) (Sq t201) (Sq t202) (Sq t203) (Sq t238) (Sq t239) (Sq t240)) ?_;rintro e ts W3 ⟨he,e4,hlen,t0,t3,t26,t27,t201,t202,t203,t238,t239,t240⟩;rcases he with rfl|rfl
  ·exact K7
  ·exact K7
 ·have e3:=ff hlt;refine Rs (mZ t0 t3 t26 t27 t201 t202 t203 t238 t239 t240 e3) ?_;exact⟨rfl,e2,Sn,(Sq t0),(Sq t3),(Sq t201),(Sq t202),(Sq t203)⟩
def EZ(hj:j<V.aJ.length)(hlen:ts.length=302)(t0:slot ts 0=s)(t3:slot ts 3=.ptr b 0)(t201:slot ts 201=V.s5)(t202:slot ts 202=.int .i64 V.aJ.length)(t203:slot ts 203=.int .i64 j):
  WC P bN E0 [] ts W (RT W s V b j):=by
 obtain⟨p,hp⟩:∃p,p=V.aJ[j]:=⟨_,rfl⟩;have hpm:p∈V.an.aJ:=by rw[hp];exact ZR _
 have ok:=EU wV wn hpm;have oW:=oV.ext eW;have VY:=eK.trans eW;have ix:=oW.i5.dE (kk:=.i64) hj;have ld:∀{k':ah},Ext W k'->aq (some 4) (cT V.s5 4 j) (λb=>k'[b]?)=some (.agg (cF p),.ay):=λ{k'} e=>by rw[hp];exact oW.i5.kf hj e
 have st:=@LM p;have la:(cF p)[0]? =some (.str p.name):=rfl;have lb:(cF p)[1]? =some (.str p.jw):=rfl;have q1:=Aw hr (hV▸ZT (f:=nP.name) hpm);have q2:=AL hr (n:=p.jw) (hV▸(wV.pc p hpm).1);rw[<-hV]at q1 q2;rw[ok.lf]at q2;rw[Pj];generalize hR:vM 4=R;unfold vM E0 jD fn13;simp only[ai.j,ai.s,ai.r,ai.dr,ai.tl,ai.hd,ai.jE];refine Rs (A9 t0 t3 t201 t202 t203 ix @ld @st @la) ?_;refine WF.res T.c54 (r54 T (o.ext (VY.trans Xx)) sh (gl.ext (VY.trans Xx)) p.name) ?_;rintro _ g1 ⟨u,rfl,hu⟩;rw[q1]at hu ⊢;have hu:aH _ u 1 ((gD V.an p.name).map ao):=hu;refine Rs (A6 t0 t3 t201 t202 t203 @lb) ?_;refine WF.res T.c53 (r53 T (o.ext (VY.trans Xx)) sh (gl.ext (VY.trans Xx)) p.jw) ?_
 rintro _ g2 ⟨v,rfl,hv⟩;rw[q2]at hv ⊢;have z0:decide ((0:Int)≠0)=false:=rfl;have hv:aH _ v 1 (([] :List Int).map aM):=hv;have lv:=hv.aK;have z1:decide ((0:Int)<((([] :List Int).length:Nat):Int))=false:=rfl;have hne:(gD V.an p.name).length≠0:=λz=>ok.ne (aay.1 z)
 have q3:decide (((gD V.an p.name).length:Int)=0)=false:=ZD Om
 repeat (first|simp (config:={maxSteps:=1000000}) only[aS,aW,bo,bp,reduceAdd,reduceMul,reduceLeDiff,reduceEqDiff,bw,hlen,ZY,Z1,t0,t3,t201,t202,t203,z0,lv,z1,hu.aK,q3]|simp (config:={maxSteps:=1000000}) (disch:=first|(simp only[ZB,ZG,ZJ]<;>omega)|rfl|omega|fail) only[fN,aS,aW,bo,bp,reduceAdd,reduceMul,reduceLeDiff,reduceEqDiff,bw,hlen,ZY,Z1,t0,t3,t201,t202,t203,z0,lv,z1,hu.aK,q3])
 rw[<-hR];refine WC.zp (L5 T (b:=b) (c:=W.length) (j:=j) o sh gl hr eK oV wV wn hV mb (eW.trans Xx) ok (show(W++[ak.cells (cF p) true false]++g1++g2)[W.length]? =_ from xy) (hu.ext Xx) Sn (Sq t0) (Sq t3) Sw Sw (Sq t201) (Sq t202) (Sq t203)) ?_;rintro e ts' W' ⟨a,b,c⟩;exact⟨a,(show Ext W _ from Xx).trans b,c⟩
def L0{hz:ah}(ez:Ext hz h)(ha:∀k,Ext h k->aA P 15 [] k (λv _=>v=.bool true))(hlen:ts.length=302)(t0:slot ts 0=s)(t3:slot ts 3=.ptr b 0):WC P bN (jD 6) [] ts W (FQ [(2,none)] (QU hz)):=by
 have hL5:V.aJ.length<=16:=wV.l5;have lb:=@eQ _ _ _ (eW.some mb);rw[Pk];generalize hC:E0=C;generalize hR:jD 7=R;unfold RL jD fn13;simp only[ai.j,ai.s,ai.r,ai.dr,ai.tl,ai.hd,ai.jE];refine Rs (A5 t0 t3 @lb @gY oV.i5.aK) ?_;refine WL.inv T.mix (λm ts h'=>∃j:Nat,j<=V.aJ.length/\m=V.aJ.length-j/\Ext K h'/\ts.length=302/\slot ts 0=s/\slot ts 3=.ptr b 0/\slot ts 201=V.s5/\slot ts 202=.int .i64 V.aJ.length/\slot ts 203=.int .i64 j) V.aJ.length
  ⟨0,Om,rfl,eW,Sn,(Sq t0),(Sq t3),Sw,Sw,gP⟩ ?_
 clear t0 t3 hlen lb eW;rintro _ ts W2 ⟨j,hj,rfl,e2,hlen,t0,t3,t201,t202,t203⟩;by_cases hlt:j<V.aJ.length
 ·have e3:=eC hlt;have e5:=wrapN (n:=j) Om;refine Rs (A6 t0 t3 t201 t202 t203 e3) ?_;refine WC.cut _ (hC▸EZ T o sh gl hr eK oV wV wn hV mb e2 hlt Sn (Sq t0) (Sq t3) (Sq t201) (Sq t202) (Sq t203)) ?_;rintro e ts W3 ⟨rfl,e4,hlen,t0,t3,t201,t202,t203⟩;refine Rs (A6 t0 t3 t201 t202 t203 e5) ?_;exact⟨_,Om,j+1,Om,rfl,e2.trans e4,rfl⟩
 ·have e3:=ff hlt;refine Rs (A6 t0 t3 t201 t202 t203 e3) ?_;rw[<-hR];unfold jD fn13;simp only[ai.j,ai.s,ai.r,ai.dr,ai.tl,ai.hd,ai.jE];refine Rs t0 ?_;refine WF.ce T.c15 (ha _ ((eK.trans e2).trans Xx)) λg=>?_
  refine Rs t0 ?_;exact⟨ez.trans ((eK.trans e2).trans Xx),rfl⟩
omit eW in
theorem Md{hz:ah}(ez:Ext hz h)(ha:∀k,Ext h k->aA P 15 [] k (λv _=>v=.bool true))(hlen:ts.length=302)(t0:slot ts 0=s)(t3:slot ts 3=.ptr b 0)(t6:slot ts 6=.map K.length):WC P bN (jD 5) [] ts (K++[.aR []]) (FQ [(2,none)] (QU hz)):=by
 have hL3:V.ar.length<=32:=by have:=wV.l3;simpa [RV.an]using this
 have lb:=@eQ _ _ _ mb;rw[Pu];generalize hC:AG=C;generalize hR:jD 6=R;unfold BA RN jD fn13;simp only[ai.j,ai.s,ai.r,ai.dr,ai.tl,ai.hd,ai.jE];refine Rs (A6 t0 t3 t6 @lb @fx oV.i3.aK) ?_;refine WL.inv T.mix (λm ts h'=>∃(j:Nat) (M:List (By×AV)),j<=V.ar.length/\m=V.ar.length-j/\Ext K h'/\h'[K.length]? =some (.aR (M.map fI))/\pZ h' V.an M (V.an.ar.take j)/\ts.length=302/\slot ts 0=s/\slot ts 3=.ptr b 0/\slot ts 6=.map K.length/\slot ts 72=V.s3/\slot ts 73=.int .i64 V.ar.length/\slot ts 74=.int .i64 j) V.ar.length
  ⟨0,[],Om,rfl,⟨_,rfl⟩,aV,(λy hy=>by cases hy),Sn,(Sq t0),(Sq t3),(Sq t6),Sw,Sw,gP⟩ ?_
 clear t0 t3 t6 hlen lb;rintro _ ts W2 ⟨j,M,hj,rfl,e2,mk,kn,hlen,t0,t3,t6,t72,t73,t74⟩;by_cases hlt:j<V.ar.length
 ·have e3:=eC hlt;have e5:=wrapN (n:=j) Om;refine Rs (A7 t0 t3 t6 t72 t73 t74 e3) ?_;refine WC.cut _ (hC▸E6 T o sh gl hr eK oV wV wn hV mb e2 mk kn hlt Sn (Sq t0) (Sq t3) (Sq t6) (Sq t72) (Sq t73) (Sq t74)) ?_;rintro e ts W3 ⟨rfl,e4,⟨M2,mk2,kn2⟩,hlen,t0,t3,t6,t72,t73,t74⟩;refine Rs (A7 t0 t3 t6 t72 t73 t74 e5) ?_;exact⟨_,Om,j+1,M2,Om,rfl,e4,mk2,kn2,rfl⟩
 ·have e3:=ff hlt;refine Rs (A7 t0 t3 t6 t72 t73 t74 e3) ?_;rw[<-hR];exact L0 T o sh gl hr eK oV wV wn hV mb e2 ez ha Sn (Sq t0) (Sq t3)
end
section
variable {P:Program}(T:fy P) {h:ah}
include T
def r13(ha:∀k,Ext h k->aA P 15 [] k (λv _=>v=.bool true)){L:List EV}{s:AV}(o:eE h L s)(sz:D3 L)(gl:Gl h):aA P 13 [s] h (λv _=>v=.bool true):=by
 refine .of T.mix (acd T.c13 (aai some Px)) ?_;obtain⟨ts,Sv⟩:∃ts,ts=aT 302 [s]:=⟨_,rfl⟩;have hlen:ts.length=302:=by rw[Sv];rfl
 have t0:slot ts 0=s:=by rw[Sv];rfl
 show WC P bN (.seq (jD 0).hd (.seq (jD 1).hd (.seq (jD 2).hd (.seq (jD 3).hd (.seq (jD 4).hd (jD 5)))))) [] (aT 302 [s]) h (FQ [(2,none)] (QU h));rw[<-Sv];clear Sv;generalize hR:jD 5=R;unfold jD fn13;simp only[ai.j,ai.s,ai.r,ai.dr,ai.tl,ai.hd];refine Rs t0 ?_;refine WF.ce T.c33 (r33 T o sz De) λg1=>?_
 by_cases hacc:iO (L.map EV.ev) 20=true/\(bF (L.map EV.ev)).2.2=0
 case neg=>
  have hf:(iO (L.map EV.ev) 20&&decide ((bF (L.map EV.ev)).2.2=0))=false:=by
   cases hs:iO (L.map EV.ev) 20 with
   |false=>rfl
   |true=>rw[aa4];exact ZD λz=>hacc ⟨hs,z⟩
  rw[hf];refine Rs (A2 t0 @aab) ?_;refine WF.ce T.c15 (ha _ Xx) λg2=>?_
  refine Rs t0 ?_;exact⟨Xx,rfl⟩
 obtain⟨hsh,hr⟩:=hacc;rw[hsh,ZI hr];obtain⟨sh,nl,hl,_⟩:=vm hsh De;have hl20:L.length<=20:=by
  rw[iO,aad,aah,ZL]at hsh;have:=hsh.1;omega
 have bt:(true&&true)=true:=rfl;refine Rs (A3 t0 @bt @Z7) ?_;refine WF.res T.c34 (r34 T (o.ext Xx) sh (gl.ext Xx)) ?_;rintro _ g2 ⟨V,rfl,hV,oV,wV⟩;have st:=@aD.st _ _ oV;obtain⟨K,hK⟩:∃K,K=h++g1++g2++[ak.cells V.row true false]:=⟨_,rfl⟩;have eK:Ext h K:=by rw[hK];exact Xx
 have mb:K[(h++g1++g2).length]? =some (.cells V.row true false):=by rw[hK];exact aV
 have oK:aD K V:=by rw[hK];exact oV.ext Xx
 have lb:=@eQ _ _ _ mb;rw[hr];have z0:decide ((0:Int)≠0)=false:=rfl;have h1:=Iu hr;have h2:=It hr;rw[<-hV,ZL]at h1 h2;have h1:V.ar.length<=L.length:=by simpa [RV.an]using h1
 have h2:V.aj.length<=L.length:=by simpa [RV.an]using h2
 have h3:V.lines.length<=16:=wV.l0;have q1:decide ((20:Int)<(V.ar.length:Int))=false:=ZD Om;have q2:decide ((20:Int)<(V.lines.length:Int))=false:=ZD Om;have q3:decide ((20:Int)<(V.aj.length:Int))=false:=ZD Om;refine Rs (A2 t0 @st) ?_;rw[<-hK];refine Rs (pB t0 @z0 @lb @fR @fB @fx oV.i0.aK oV.i2.aK oV.i3.aK q1 q2 q3) ?_;rw[<-hR];exact Md T o sh gl hr eK oK wV (hV▸EL hr) hV mb (Ext.refl h) ha Sn (Sq t0) Sw Sw
end
end Go.Abs
