/- A part of the proof that HouseTurns holds. No condition. -/
import Derived.Test.YtgplmdgpmbegiaaGreatDoorTu9
import Derived.Test.YtgplmdgpmbegiaaGreatDoorTu8
import Derived.Test.YtgplmdgpmbegiaaGreatDoorTu7
import Derived.Test.YtgplmdgpmbegiaaGreatDoorTu0
set_option maxHeartbeats 4000000
set_option linter.all false
open Nat (reduceAdd reduceMul reduceLeDiff reduceEqDiff)
namespace Go.Abs
def yh(k:Nat):ai:=(fn81).body.dr k
def ED(k:Nat):ai:=((fn81).body.dr k).hd
def OR:fn81=⟨110,1,[(2,none),(3,some (some 7)),(4,none),(5,none)],.seq (ED 0) (yh 1)⟩:=rfl
def OQ:yh 1=.seq (ED 1) (yh 2):=rfl
def OP:yh 2=.seq (ED 2) (yh 3):=rfl
def OO:yh 3=.seq (ED 3) (yh 4):=rfl
def ON:yh 4=.seq (ED 4) (yh 5):=rfl
def RW(M:Nat)(l:List cY):AV->ah->Prop:=λv k=>
 ∃(sc:AV) (V:RV) (C:List EV),v=.dW [sc,.agg V.row,.i (aN l).2.1,.i (aN l).2.2]/\aB k V/\V.an=(aN l).1.now/\eS V.an/\du k C sc/\C.map EV.ev=(aN l).1.eT/\C.length<=1000/\∀i,some i∈V.bl->M<i
def NR(h:ah)(l:List cY):AV->ah->Prop:=λv k=>Ext h k/\RW h.length l v k
structure Nw(h W:ah)(L:List EV)(k:Nat)(C:List EV)(A:List RV)(sc sa:AV):Prop where
 x:Ext h W
 b:W[h.length]? =some (.b ki)
 c:aI (fZ [some h.length] W) sc 5 (C.map EV.row)
 ce:∀e∈C,bh (fZ [some h.length] W) e
 a:aI (fZ [some h.length] W) sa 7 ((RV.zero::A).map RV.row)
 ae:∀R∈A,aB (fZ [some h.length] W) R
 al:∀R∈A,∀i,some i∈R.bl->h.length<i
 w:lq ⟨(L.take k).map EV.ev,C.map EV.ev,A.map RV.an⟩
 r:aN (L.map EV.ev)=fC ⟨(L.take k).map EV.ev,C.map EV.ev,A.map RV.an⟩ ((L.drop k).map EV.ev) k
def y6{W W2 b}(e:Ext W W2):jQ (fZ [some b] W) (fZ [some b] W2):=nX (λi hi _=>e.get hi) λ_ _ h=>h
def B2{W b X}:jQ (fZ [some b] W) (W.set b X):=λi c mu tl hb=>by
 obtain⟨h1,h2⟩:=rT hb;have:i≠b:=λe=>h1 (by rw[e];simp)
 rw[aaj (abo this)];exact h2
def Nw.ext{h W W2 L k C A sc sa}(s:Nw h W L k C A sc sa)(e:Ext W W2):Nw h W2 L k C A sc sa:=
 ⟨s.x.trans e,e.some s.b,s.c.sub (y6 e),λy hy=>(s.ce y hy).sub (y6 e),s.a.sub (y6 e),λy hy=>(s.ae y hy).sub (y6 e),s.al,s.w,s.r⟩
def Ln{h W}(e:Ext h W):jQ h (fZ [some h.length] W):=λi c mu tl hb=>by
 have hl:=(Z2.1 hb).1;rw[uG (by intro z;simp only[aam,aaB]at z;omega)];exact e.some hb
def Cu{h k l i e}(he:e≠0)(hr:aN l=(gO.zero,i,e))(hx:Ext h k):NR h l (.dW [.af,.agg RV.zero.row,.i i,.i e]) k:=by
 refine⟨hx,.af,RV.zero,[],by rw[hr],aB.zero,by rw[hr];rfl,eS.zero,⟨.nil,λ_ h=>by cases h⟩,by rw[hr];rfl,Si,λi hi=>by simp[RV.zero,RV.bl,sB]at hi⟩
def Le:Option AV->Option AV->Option AV->Option AV->Option AV
 |some a,some b,some c,some d=>some (.dW [a,b,c,d])
 |_,_,_,_=>none
def lP{a b c d}:Le (some a) (some b) (some c) (some d)=some (.dW [a,b,c,d]):=rfl
def gJ{ts h r s t u}:cT [r,s,t,u] ts h=Le (dJ ts h r) (dJ ts h s) (dJ ts h t) (dJ ts h u):=by
 simp only[cT,jm];cases dJ ts h r<;>cases dJ ts h s<;>cases dJ ts h t<;>cases dJ ts h u<;>rfl
def MM{A n}(hn:n=A.length):(RV.zero::A)[n]? =some (A.getLastD RV.zero):=by
 subst hn;rcases kO A with rfl|⟨m,y,rfl⟩
 ·rfl
 ·simp
def AL(A:List RV):(A.getLastD RV.zero).an=(A.map RV.an).getLastD dM.zero:=by
 rcases kO A with rfl|⟨m,y,rfl⟩
 ·rfl
 ·simp
set_option maxRecDepth 10000
attribute [local irreducible] WP WC WE WB WR WF WL WG fX WM
section
variable {P:Program}(T:fq P) {h W:ah}{ts:TS}
include T
def EC{L s}(o:du h L s)(sh:qj L)(hnl:∀x∈L,∀n∈x.ev.names,n.length<2^63)(hl:L.length<=1000){sa}(st:Nw h W L 0 [] [] .af sa)(hlen:ts.length=110)(t0:slot ts 0=s)(t3:slot ts 3=.ptr h.length 0)(t6:slot ts 6=.af)(t7:slot ts 7=sa):
  WC P bJ (yh 4) [] ts W (FQ [(2,none),(3,some (some 7)),(4,none),(5,none)] (NR h (L.map EV.ev))):=by
 rw[ON];generalize hE:yh 5=E;unfold ED fn81;simp only[ai.j,ai.s,ai.r,ai.dr,ai.tl,ai.hd];refine Rs (A4 t0 t3 t6 t7) ?_;refine WL.inv T.mix (λm ts W=>∃(k:Nat) (C:List EV) (A:List RV) (sc sa:AV),k<=L.length/\m=L.length-k/\Nw h W L k C A sc sa/\ts.length=110/\slot ts 0=s/\slot ts 3=.ptr h.length 0/\slot ts 6=sc/\slot ts 7=sa/\slot ts 8=.i k) L.length
  ⟨0,[],[],.af,sa,Om,rfl,st,Sn,(Sq t0),(Sq t3),(Sq t6),(Sq t7),ga⟩ ?_
 clear t0 t3 t6 t7 hlen st;rintro _ ts W ⟨k,C,A,sc,sa,hk,rfl,st,hlen,t0,t3,t6,t7,t8⟩;have hAC:A.length=C.length:=by have:=st.w.ln;simpa using this
 have hCl:C.length<=L.length:=by have:=st.w.le;simp only[aaa,aaQ]at this;omega
 have oW:=o.ext st.x;have Xy:=st.c.sub (jQ.fZ _ _);have sta:=st.a.sub (jQ.fZ _ _);have stae:∀R∈A,aB W R:=λR hR=>(st.ae R hR).sub (jQ.fZ _ _)
 obtain⟨N,hN⟩:∃N,N=A.getLastD RV.zero:=⟨_,rfl⟩;have hgN:(RV.zero::A)[C.length]? =some N:=by rw[hN];exact MM hAC.symm
 have hCA:C.length<(RV.zero::A).length:=by simp only[Z5];omega
 have hgN':(RV.zero::A)[C.length]=N:=by rw[Z6 hCA]at hgN;exact aa0 hgN
 have ix:bf 7 sa (.i (C.length:Int))=some (cI sa 7 C.length,.ar):=sta.c6 hCA;have ld:∀{kk:ah},Ext W kk->ao (some 7) (cI sa 7 C.length) (λb=>kk[b]?)=some (.agg N.row,.ar):=λ{kk} e=>by rw[<-hgN'];exact sta.gP hCA e
 have oN:aB (fZ [some h.length] W) N:=by
  rcases kO A with hA|⟨m,y,hA⟩
  ·rw[hN,hA];exact aB.zero
  ·have:N=y:=by rw[hN,hA];simp
   rw[this];exact st.ae y (by rw[hA];simp)
 have lN:∀i,some i∈N.bl->h.length<i:=by
  rcases kO A with hA|⟨m,y,hA⟩
  ·intro i hi;rw[hN,hA]at hi;simp[RV.zero,RV.bl,sB]at hi
  ·have:N=y:=by rw[hN,hA];simp
   rw[this];exact st.al y (by rw[hA];simp)
 have hNr:N.an=(A.map RV.an).getLastD dM.zero:=by rw[hN];exact AL A
 have wN:eS N.an:=by rw[hNr];exact st.w.now
 have hbl:=(Z2.1 st.b).1;by_cases hlt:k<L.length
 case neg=>
  have e3:=eF hlt;have e4:k=L.length:=Om
  have hr:=st.r;rw[e4,aa2]at hr;have Wg:aN (L.map EV.ev)=(⟨(L.take L.length).map EV.ev,C.map EV.ev,A.map RV.an⟩,0,0):=hr;have Tp:=oN.JV st.b;have gm:=o7 (W:=W) (b:=h.length) (V:=N) hbl;refine Rs (A7 t0 t3 t6 t7 t8 oW.sl.aH e3) ?_;rw[<-hE];unfold yh fn81;simp only[ai.j,ai.s,ai.r,ai.dr,ai.tl];refine Rs (Bn t0 t3 t6 t7 t8 Xy.aH ix @ld @Tp @aG @gm @gJ @da @db @lP) ?_;exact⟨st.x.iJ (aah _),sc,N,C,by rw[Wg],oN.sub B2,by rw[Wg,hNr];rfl,wN,⟨st.c.sub B2,λy hy=>(st.ce y hy).sub B2⟩,by rw[Wg],Om,lN⟩
 have e3:=dN hlt;have e5:=wrapN (n:=k) Om;have ik:=oW.sl.c6 (kk:=.i64) hlt;obtain⟨x,hx⟩:∃x,x=L[k]:=⟨_,rfl⟩;have Ta:x∈L:=by rw[hx];exact aad _
 have lx:∀{kk:ah},Ext W kk->ao (some 5) (cI s 5 k) (λb=>kk[b]?)=some (.agg x.row,.ar):=λ{kk} e=>by rw[hx];exact oW.sl.gP hlt e
 have lx0:∀{kk:ah},Ext W kk->ao none (jF s 5 k 0) (λb=>kk[b]?)=some (.i x.ev.num,.ar):=λ{kk} e=>oW.sl.kT hlt (by rw[<-hx];rfl) e
 have lx1:∀{kk:ah},Ext W kk->ao none (jF s 5 k 1) (λb=>kk[b]?)=some (.str x.ev.kind,.ar):=λ{kk} e=>oW.sl.kT hlt (by rw[<-hx];rfl) e
 have ox:bh W x:=oW.all x Ta;have hd:L.drop k=x::L.drop (k+1):=by rw[hx];simp
 have S9:(L.take (k+1)).map EV.ev=(L.take k).map EV.ev++[x.ev]:=by rw[aaO,Z6 hlt,aae,hx];rfl
 have SM:=st.r;rw[hd,aaX,fC]at SM;obtain⟨H,hH⟩:∃H:gO,H=⟨(L.take k).map EV.ev,C.map EV.ev,A.map RV.an⟩:=⟨_,rfl⟩;rw[<-hH]at SM;have hHe:H.c9.length=k:=by rw[hH];simp only[aaa,aaQ];omega
 have wH:lq H:=by rw[hH];exact st.w
 have hNow:N.an=H.now:=by rw[hNr,hH];rfl
 have sbz:∀{kk:ah},Ext W kk->aX 7 (.ptr h.length 0) (.agg [AV.i 0,.af,.af,.af,.af,.af,.af]) (λz=>kk[z]?)=some (az,.set h.length (.b RV.zero.row)):=λ{kk} e=>(aB.zero (h:=W)).JV (e.some st.b)
 have fin:∀{W' G:ah}{c:Int},Ext h W'->dV H x.ev=c->c≠0->NR h (L.map EV.ev) (.dW [.af,.agg RV.zero.row,.i ((k+1:Nat):Int),.i c]) (W'.set h.length (.b RV.zero.row)++G):=by
  intro W' G c e hb h0;refine Cu h0 ?_ ((e.iJ (aah _)).trans ⟨G,rfl⟩);rw[SM,aai (by rw[hb];exact h0),hb];simp
 have gmz:∀{W' G:ah},h.length<W'.length->ao (some 7) (.ptr h.length 0) (λz=>(W'.set h.length (.b RV.zero.row)++G)[z]?)=some (.agg RV.zero.row,.ar):=λ{W' G} hb=>by
  rw[aA (by rw[Z7 (by rw[aaL];exact hb)];exact aak hb)];rfl
 have U5:=(sh.e x Ta);refine Rs (A9 t0 t3 t6 t7 t8 oW.sl.aH e3 @ik @lx) ?_;refine WF.ce T.c39 (r39 T (ox.ext Xx) ⟨Om,Om⟩ (hnl x Ta)) λg1=>?_
 obtain⟨W1,Ux⟩:∃Z,Z=W++g1:=⟨_,rfl⟩;rw[<-Ux];have e1:Ext W W1:=⟨g1,Ux⟩;have lx0:∀{kk:ah},Ext W1 kk->ao none (jF s 5 k 0) (λb=>kk[b]?)=some (.i x.ev.num,.ar):=λ{kk} e=>lx0 (e1.trans e)
 have lx1:∀{kk:ah},Ext W1 kk->ao none (jF s 5 k 1) (λb=>kk[b]?)=some (.str x.ev.kind,.ar):=λ{kk} e=>lx1 (e1.trans e)
 have lx:∀{kk:ah},Ext W1 kk->ao (some 5) (cI s 5 k) (λb=>kk[b]?)=some (.agg x.row,.ar):=λ{kk} e=>lx (e1.trans e)
 have ld:∀{kk:ah},Ext W1 kk->ao (some 7) (cI sa 7 C.length) (λb=>kk[b]?)=some (.agg N.row,.ar):=λ{kk} e=>ld (e1.trans e)
 have sbz:∀{kk:ah},Ext W1 kk->aX 7 (.ptr h.length 0) (.agg [AV.i 0,.af,.af,.af,.af,.af,.af]) (λz=>kk[z]?)=some (az,.set h.length (.b RV.zero.row)):=λ{kk} e=>sbz (e1.trans e)
 have X9:h.length<W1.length:=by have:=e1.len;omega
 have Xq:=λ{G:ah}=>gmz (G:=G) X9
 have st:=st.ext e1;have stx:=st.x;have d11:decide ((11:Int)=0)=false:=rfl;have d11':decide ((11:Int)≠0)=true:=rfl;have d12:decide ((12:Int)=0)=false:=rfl;have d21:decide ((21:Int)=0)=false:=rfl;have d12':decide ((12:Int)≠0)=true:=rfl;have d21':decide ((21:Int)≠0)=true:=rfl;have d0:decide ((0:Int)=0)=true:=rfl;have d0':decide ((0:Int)≠0)=false:=rfl;by_cases h1:eA x.ev=0
 case neg=>
  have q1:decide (eA x.ev=0)=false:=Z3 h1;have q2:decide (eA x.ev≠0)=true:=Z8 h1;refine Rs (Bn t0 t3 t6 t7 t8 Xy.aH q1 q2 e5 @sbz @gJ @da @db @lP @Xq) ?_;exact fin stx (by rw[dV,aai h1]) h1
 have q1:decide (eA x.ev=0)=true:=Z8 h1;have q1':decide (eA x.ev≠0)=false:=Z3 (λz=>z h1);obtain⟨d,we⟩:=p6 h1;have hkD:=we.gx;have SN:x.ev.kind=bu d:=cA we.kd;have XN:dV H x.ev=jw H x.ev:=by rw[dV,aab (λz=>z h1)]
 by_cases h2:x.ev.num=((k+1:Nat):Int)
 case neg=>
  have q3:decide (x.ev.num≠((k+1:Nat):Int))=true:=Z8 h2;refine Rs (RX t0 t3 t6 t7 t8 Xy.aH q1 @ik @lx0 e5 q3 @d11 @d11' @sbz @gJ @da @db @lP @Xq) ?_;exact fin stx (by rw[XN,jw,aai (by rw[hHe];simpa using h2)]) De
 have q3:decide (x.ev.num≠((k+1:Nat):Int))=false:=Z3 (λz=>z h2);have hacc:¬x.ev.num≠(H.c9.length:Int)+1:=by rw[hHe];simpa using h2
 by_cases hu:d=.dR
 case pos=>
  have hK:gx x.ev=.dR:=by rw[hkD,hu]
  have q4:decide (bu d=[117,110,100,111])=true:=by rw[oT,hu];rfl
  rcases kO C with hC|⟨M,c,hC⟩
  ·have q5:decide ((C.length:Int)=0)=true:=by rw[hC];rfl
   refine Rs (Q6 t0 t3 t6 t7 t8 Xy.aH q1 @ik @lx0 @lx1 e5 q3 @SN q4 q5 @d12 @d12' @sbz @gJ @da @db @lP @Xq) ?_;refine fin (c:=12) stx ?_ De;rw[XN,jw,aab hacc,aai hK,hH,hC];rfl
  ·have hCl2:C.length=M.length+1:=by rw[hC];simp
   have q5:decide ((C.length:Int)=0)=false:=Z3 Om;have w1:IntKind.i64.wrap ((C.length:Int)-1)=(M.length:Int):=by rw[bD Om Om];omega
   have hMl:M.length<C.length:=Om
   have hcM:C[M.length]=c:=by simp[hC]
   have ic:bf 5 sc (.i (M.length:Int))=some (cI sc 5 M.length,.ar):=Xy.c6 hMl;have lc:∀{kk:ah},Ext W1 kk->ao none (jF sc 5 M.length 1) (λb=>kk[b]?)=some (.str c.ev.kind,.ar):=λ{kk} e=>Xy.kT hMl (by rw[hcM];rfl) (e1.trans e)
   obtain⟨dc,wc⟩:=st.w.cn c.ev (aao (by rw[hC];simp));have hkc:c.ev.kind=bu dc:=cA wc.kd;have hlast:H.eT.getLast? =some c.ev:=by rw[hH,hC];simp
   by_cases hr:dc=.rel
   ·have q6:decide (bu dc=[114,101,108,101,97,115,101])=true:=by rw[qV,hr];rfl
    repeat (first|simp (config:={maxSteps:=1000000}) only[aO,aT,aZ,a8,reduceAdd,reduceMul,reduceLeDiff,reduceEqDiff,bd,hlen,aal,aan,t0,t3,t6,t7,t8,Xy.aH,q1,ik,lx0,lx1,e5,q3,SN,q4,q5,w1,ic,lc,hkc,q6,d21,d21',sbz,gJ,da,db,lP,Xq]|simp (config:={maxSteps:=1000000}) (disch:=first|(simp only[Z1,Z5,Z9]<;>omega)|rfl|omega|fail) only[dX,aO,aT,aZ,a8,reduceAdd,reduceMul,reduceLeDiff,reduceEqDiff,bd,hlen,aal,aan,t0,t3,t6,t7,t8,Xy.aH,q1,ik,lx0,lx1,e5,q3,SN,q4,q5,w1,ic,lc,hkc,q6,d21,d21',sbz,gJ,da,db,lP,Xq])
    refine fin (c:=21) stx ?_ De;rw[XN,jw,aab hacc,aai hK,hlast];simp only[wc.gx,hr,aan]
   ·have q6:decide (bu dc=[114,101,108,101,97,115,101])=false:=by rw[qV];exact Z3 hr
    have T6:dV H x.ev=0:=by
     rw[XN,jw,aab hacc,aai hK,hlast];simp only[wc.gx,hr,aal]
    obtain⟨Tl,ec,hsc⟩:=st.c.Eg (lo:=none) (hi:=some (.i (M.length:Int))) (jt Om);obtain⟨sa',ea,hsa⟩:=st.a.Eg (lo:=none) (hi:=some (.i (C.length:Int))) (jt (by simp;omega));refine Rs (NT t0 t3 t6 t7 t8 Xy.aH q1 @ik @lx0 @lx1 e5 q3 @SN q4 q5 @w1 @ic @lc @hkc q6 @ec @ea) ?_;rcases kO A with hA|⟨D,R,hA⟩
    ·rw[hA]at hAC;simp only[Z9]at hAC;omega
    have hCM:List.take (M.length-0) (List.drop 0 C)=M:=by rw[hC];simp
    have hDl:D.length=M.length:=by have:=hAC;rw[hA]at this;simp only[Z1,aau]at this;omega
    have hAD:List.take (C.length-0) (List.drop 0 (RV.zero::A))=RV.zero::D:=by
     rw[hCl2,hA,Nat.sub_zero,abt,abS,<-hDl];simp
    rw[hCM]at hsc;rw[hAD]at hsa;have T0:gy H x.ev=⟨(L.take (k+1)).map EV.ev,M.map EV.ev,D.map RV.an⟩:=by
     rw[gy,aai hK,hH,S9,hC,hA];simp
    refine⟨_,Om,k+1,M,D,Tl,sa',Om,rfl,⟨stx,st.b,hsc,λy hy=>st.ce y (by rw[hC];simp[hy]),hsa,λy hy=>st.ae y (by rw[hA];simp[hy]),λy hy=>st.al y (by rw[hA];simp[hy]),?_,?_⟩,rfl,rfl,rfl⟩
    ·rw[<-T0];exact wH.add T6
    ·rw[SM,aab (λz=>z T6),T0]
 case neg=>
 have hK:gx x.ev≠.dR:=by rw[hkD];exact hu
 have q4:decide (bu d=[117,110,100,111])=false:=by rw[oT];exact Z3 hu
 have hacs:dV H x.ev=fD N.an x.ev d:=by rw[XN,jw,aab hacc,aab hK,hkD,<-hNow]
 refine Rs (J7 t0 t3 t6 t7 t8 Xy.aH q1 @ik @lx0 @lx1 @lx e5 q3 @SN q4 ix @ld) ?_;have UB:=ox.ext e1;have oN1:aB W1 N:=(oN.sub (jQ.fZ _ _)).ext e1;refine WF.res T.c129 (r129 T (d:=d) (oN1.ext Xx) wN (UB.ext Xx) we hu) ?_;rintro _ g2 ⟨V',rfl,Zk,Yk⟩;obtain⟨W2,Te⟩:∃Z,Z=W1++[ak.b [AV.i 0,.af,.af,.af,.af,.af,.af]]++g2:=⟨_,rfl⟩;rw[<-Te]at Zk ⊢;have e2:Ext W1 W2:=by rw[Te,Z4];exact⟨_,rfl⟩
 have m2:W2[W1.length]? =some (.b ki):=by
  rw[Te];exact(show Ext (W1++[ak.b ki]) _ from⟨g2,rfl⟩).some ba
 have hl2:W1.length<W2.length:=(Z2.1 m2).1;have sbn:=Zk.JV m2;obtain⟨W3,S4⟩:∃Z,Z=W2.set W1.length (.b V'.row):=⟨_,rfl⟩;have e3':Ext W1 W3:=by rw[S4];exact e2.iJ (aah _)
 have x3:Ext h W3:=stx.trans e3';have m3:W3[W1.length]? =some (.b V'.row):=by rw[S4];exact aak hl2
 have ZG:W3.length=W2.length:=by rw[S4,aaL]
 have k3:∀i,i≠W1.length->W3[i]? =W2[i]? :=λi hi=>by rw[S4,aaj (abo hi)]
 have sbz3:=sbz e3';have gmz3:ao (some 7) (.ptr h.length 0) (λz=>(W3.set h.length (.b RV.zero.row))[z]?)=some (.agg RV.zero.row,.ar):=o7 Om;have nC:=st.ext e3';by_cases h5:fD N.an x.ev d=0
 case neg=>
  have q5:decide (fD N.an x.ev d≠0)=true:=Z8 h5;have ef:=fin (W':=W3) (G:=[]) x3 hacs h5;rw[aaw]at ef;rw[S4]at sbz3 gmz3 ef;refine Rs (Bo t0 t3 t6 t7 t8 @sbn q5 e5 @sbz3 @gJ @da @db @lP @gmz3) ?_;exact ef
 have q5:decide (fD N.an x.ev d≠0)=false:=Z3 (λz=>z h5);have T6:dV H x.ev=0:=by rw[hacs,h5]
 obtain⟨hVr,hVb⟩:=Yk h5;have hVb:∀i,some i∈V'.bl->W1.length<i:=λi hi=>by have:=hVb i hi;simp only[Z1,aau]at this;omega
 refine Rs (A7 t0 t3 t6 t7 t8 @sbn q5) ?_;rw[<-S4];have stc3:=nC.c.sub (jQ.fZ _ _);refine WR.pk (N:=W3.length) (w:=88) ba (aah _) (stc3.ext Xx) (by rw[aaa];omega) λa1 y1 f1=>?_
 have p1:=f1.aY.one;obtain⟨Y,hY⟩:∃Z,Z=W3++[ak.b []]++y1:=⟨_,rfl⟩;rw[<-hY]at f1 ⊢;have eY:Ext W3 Y:=by rw[hY,Z4];exact⟨_,rfl⟩
 have lxY:∀{kk:ah},Ext Y kk->ao (some 5) (cI s 5 k) (λb=>kk[b]?)=some (.agg x.row,.ar):=λ{kk} e=>lx ((e3'.trans eY).trans e)
 have bs:=@bh.Dt _ _ ox;refine Rs (A9 t0 t3 t6 t7 t8 @ik @lxY @bs @p1) ?_;refine WR.pn (B:=W3) (cs:=C.map EV.row) f1 rfl eY De (by rw[aaa];omega) ?_;intro W4 s4 x4 Xj hn4 q4' l4 hk4;have hrow:C.map EV.row++[x.row]=(C++[x]).map EV.row:=by rw[aae];rfl
 rw[hrow]at Xj;have st4:=nC.ext x4;have sta4:=st4.a.sub (jQ.fZ _ _);refine Rs (A5 t0 t3 t6 t7 t8) ?_;refine WR.pk (N:=W4.length) (w:=152) ba (aah _) (sta4.ext Xx) (by simp only[aaa,Z5];omega) λa2 y2 f2=>?_
 have p2:=f2.aY.one;obtain⟨Y2,Vi⟩:∃Z,Z=W4++[ak.b []]++y2:=⟨_,rfl⟩;rw[<-Vi]at f2 ⊢;have VF:Ext W4 Y2:=by rw[Vi,Z4];exact⟨_,rfl⟩
 have lnx:∀{kk n a},Ext Y2 kk->ao n (.ptr W1.length a) (λz=>kk[z]?)=dG n a (.b V'.row):=λ{_ _ _} e=>aA (((x4.trans VF).trans e).some m3)
 have bv:=@aB.Dt _ _ Zk;refine Rs (A9 t0 t3 t6 t7 t8 @lnx @aG @bv @p2) ?_;refine WR.pn (B:=W4) (cs:=(RV.zero::A).map RV.row) f2 rfl VF De (by simp only[aaa,Z5];omega) ?_;intro W5 s5 x5 ZM hn5 q5' l5 hk5;have hrow2:(RV.zero::A).map RV.row++[V'.row]=(RV.zero:: (A++[V'])).map RV.row:=Si
 rw[hrow2]at ZM;have st5:=st4.ext x5;have oV5:aB W5 V':=((Zk.ar λi hi=>k3 i (by have:=hVb i hi;omega)).ext x4).ext x5;have T0:gy H x.ev=⟨(L.take (k+1)).map EV.ev,(C++[x]).map EV.ev,(A++[V']).map RV.an⟩:=by
  rw[gy,aab hK,hkD,hH,S9];simp only[aae,aaX,abF,hVr];rw[<-hNow,hH]at *
  first|rfl|simp[hNr,gO.now]
 have hlW3:h.length<W3.length:=Om
 have hl4:W3.length<=W4.length:=x4.len;refine Rs (A6 t0 t3 t6 t7 t8 e5) ?_;refine⟨_,Om,k+1,C++[x],A++[V'],s4,s5,Om,rfl,⟨x3.trans (x4.trans x5),st5.b,(Xj.ext x5).aY.fZ λb hb z=>?_,λy hy=>?_,ZM.aY.fZ λb hb z=>?_,λR hR=>?_,λR hR=>?_,?_,?_⟩,rfl,rfl,rfl⟩
 ·have:=(Xj.bQ hb).1;exact Nz
 ·rcases aac.1 hy with hy|hy
  ·exact st5.ce y hy
  ·rw[aam]at hy;rw[hy];exact(o.all x Ta).sub (Ln (x3.trans (x4.trans x5)))
 ·have:=(ZM.bQ hb).1;exact Nz
 ·rcases aac.1 hR with hR|hR
  ·exact st5.ae R hR
  ·rw[aam]at hR;rw[hR];exact oV5.fZ λi hi z=>by
    have:=hVb i hi;exact Nz
 ·rcases aac.1 hR with hR|hR
  ·exact st5.al R hR
  ·rw[aam]at hR;rw[hR];intro i hi;have:=hVb i hi;omega
 ·rw[<-T0];exact wH.add T6
 ·rw[SM,aab (λz=>z T6),T0]
def r81{L s}(o:du h L s)(sh:qj L)(hnl:∀x∈L,∀n∈x.ev.names,n.length<2^63):ay P 81 [s] h (RW h.length (L.map EV.ev)):=by
 refine .of T.mix (acv T.c81 (aax some OR)) ?_;obtain⟨ts,SH⟩:∃ts,ts=aW 110 [s]:=⟨_,rfl⟩;have hlen:ts.length=110:=by rw[SH];rfl
 have t0:slot ts 0=s:=by rw[SH];rfl
 show WC P bJ (.seq (ED 0) (yh 1)) [] (aW 110 [s]) h (FQ [(2,none),(3,some (some 7)),(4,none),(5,none)] (NR h (L.map EV.ev)));rw[<-SH];clear SH;have hsl:=sh.l;by_cases h1:1000<L.length
 ·have q1:decide ((1000:Int)<(L.length:Int))=true:=Z8 Om;have e:aN (L.map EV.ev)=(gO.zero,0,5):=by rw[aN,aai (by simpa using h1)]
  have m0:(h++[ak.b ki])[h.length]? =some (.b ki):=ba;have sbz:aX 7 (.ptr h.length 0) (.agg [AV.i 0,.af,.af,.af,.af,.af,.af]) (λz=>(h++[ak.b ki])[z]?)=some (az,.set h.length (.b RV.zero.row)):=(aB.zero (h:=h)).JV m0;unfold ki at sbz;have gmz:ao (some 7) (.ptr h.length 0) (λz=>(h++[ak.b RV.zero.row])[z]?)=some (.agg RV.zero.row,.ar):=by rw[aA ba];rfl
  unfold yh ED fn81;simp only[ai.j,ai.s,ai.r,ai.dr,ai.tl,ai.hd];refine Rs (A9 t0 o.sl.aH q1 @sbz @gJ @da @db @lP @gmz) ?_;exact Cu De e Xx
 have q1:decide ((1000:Int)<(L.length:Int))=false:=Z3 Om;rw[OQ,OP,OO];generalize hR:yh 4=R;unfold ED fn81;simp only[ai.j,ai.s,ai.r,ai.dr,ai.tl,ai.hd];refine Rs (A3 t0 o.sl.aH q1) ?_;rw[<-hR];have hx:Ext h (h++[ak.b ki]++[ak.cells RV.zero.row true true]):=Xx;have fz:Fr (h.length+1) (h++[ak.b ki]++[ak.cells RV.zero.row true true]) (.slice (h.length+1) 0 1 7) 7 [RV.zero.row]:=by
  have:=Fr.push (h:=h++[ak.b ki]) (N:=h.length+1) (es:=7) Si [RV.zero.row] (λx hx=>by rw[aam]at hx;rw[hx];rfl)
  simpa using this
 refine EC T (sa:=.slice (h.length+1) 0 1 7) (W:=h++[ak.b ki]++[ak.cells RV.zero.row true true]) o sh hnl Om ⟨hx,Si,.nil,(λ_ h=>by cases h),fz.aY.fZ λb hb z=>?_,(λ_ h=>by cases h),(λ_ h=>by cases h),lq.zero,?_⟩ Sn (Sq t0) Sw Sw (by simp only[aO,aT,aZ,a8,reduceAdd,reduceMul,reduceLeDiff,reduceEqDiff,bd,hlen,aal,aan];simp)
 ·have:=(fz.bQ hb).1;exact Nz
 ·rw[aN,aab (by simpa using h1)];rfl
end
structure Ny(L:List EV):Prop where
 n:∀x∈L,∀n∈x.ev.names,n.length<2^63
section
variable {P:Program}(T:fq P) {h:ah}
include T
def r18{L s}(o:du h L s)(sh:qj L)(nl:Ny L):ay P 18 [s] h (λv k=>∃V:RV,v=.dW [.agg V.row,.i (aN (L.map EV.ev)).2.1,.i (aN (L.map EV.ev)).2.2]/\aB k V/\V.an=(aN (L.map EV.ev)).1.now/\eS V.an/\∀i,some i∈V.bl->h.length<i):=by
 refine .kM 19 T.mix T.c18 ?_;intro ts hlen t0;unfold fn18 gA;refine Rs t0 ?_;refine WF.res T.c81 (r81 T (o.ext Xx) sh nl.n) ?_;rintro _ g ⟨sc,V,C,rfl,oV,hV,wV,oC,hC,hCl,lo⟩;have lo:∀i,some i∈V.bl->h.length+1<i:=λi hi=>by have:=lo i hi;simpa using this
 have st:=@aB.st _ _ oV;refine Rs (A3 t0 @st @aG) ?_;refine⟨V,rfl,?_,hV,wV,λi hi=>by have:=lo i hi;omega⟩;have:=oV.ar (k:=h++[ak.b V.row]++g) λj hj=>uL (by have:=lo j hj;omega)
 exact this.ext Xx
def r49{L s}(o:du h L s)(sh:qj L)(nl:Ny L){x}(ox:bh h x)(hx:x.ev.names.length<=2^30/\x.ev.cw.length<=2^30)(hn:∀n∈x.ev.names,n.length<2^63):ay P 49 [s,.agg x.row] h (λv _=>v=.i (nq (L.map EV.ev) x.ev)):=by
 refine .eX 36 T.mix T.c49 ?_;intro ts hlen t0 t1;unfold fn49 gA;have SG:=@bh.box _ _ ox;refine Rs (A3 t0 t1 @SG) ?_;refine WF.res T.c18 (r18 T (o.ext Xx) sh nl) ?_;rintro _ g ⟨V,rfl,oV,hV,wV,lo⟩;have st:=@aB.st _ _ oV;by_cases h1:(aN (L.map EV.ev)).2.2=0
 case neg=>
  have q1:decide ((aN (L.map EV.ev)).2.2=0)=false:=Z3 h1;have q2:decide ((aN (L.map EV.ev)).2.2≠0)=true:=Z8 h1;refine Rs (A5 t0 t1 @st q1 q2) ?_;rw[nq,aai h1]
 have q1:decide ((aN (L.map EV.ev)).2.2=0)=true:=Z8 h1;obtain⟨W,hW⟩:∃Z,Z=h++[ak.b x.row]++g++[ak.b V.row]:=⟨_,rfl⟩;refine Rs (A5 t0 t1 @st q1 @bR) ?_;rw[<-hW];have eW:Ext h W:=by rw[hW];exact Xx
 have me:W[h.length]? =some (.b x.row):=by
  rw[hW];exact(show Ext (h++[ak.b x.row]) _ from Xx).some ba
 refine WF.ce T.c39 (r39 T (ox.ext eW) ⟨Om,Om⟩ hn) λg1=>?_
 by_cases h2:eA x.ev=0
 case neg=>
  have q2:decide (eA x.ev≠0)=true:=Z8 h2;refine Rs (A3 t0 t1 q2) ?_;exact⟨eW.trans ⟨g1,rfl⟩,by rw[nq,aab (λz=>z h1),aai h2]⟩
 have q2:decide (eA x.ev≠0)=false:=Z3 (λz=>z h2);have hsl:=sh.l;by_cases h3:1000<=L.length
 case pos=>
  have q3:decide ((1000:Int)<=(L.length:Int))=true:=Z8 Om;refine Rs (A5 t0 t1 q2 o.sl.aH q3) ?_;exact⟨eW.trans ⟨g1,rfl⟩,by rw[nq,aab (λz=>z h1),aab (λz=>z h2),aai (by simpa using h3)]⟩
 have q3:decide ((1000:Int)<=(L.length:Int))=false:=Z3 Om;obtain⟨W1,Ux⟩:∃Z,Z=W++g1:=⟨_,rfl⟩;rw[<-Ux];have e1:Ext W W1:=⟨g1,Ux⟩;have le:∀{k n a},Ext W1 k->ao n (.ptr h.length a) (λz=>k[z]?)=dG n a (.b x.row):=λ{_ _ _} e=>aA ((e1.trans e).some me)
 have bs:=@bh.Dt _ _ ox;have oW:=o.ext (eW.trans e1);refine Rs (A5 t0 t1 q2 o.sl.aH q3) ?_;refine WR.pk (N:=W1.length) (w:=88) ba (aah _) (oW.sl.ext Xx) (by rw[aaa];omega) λa1 y1 f1=>?_
 have p1:=f1.aY.one;obtain⟨Y,hY⟩:∃Z,Z=W1++[ak.b []]++y1:=⟨_,rfl⟩;rw[<-hY]at f1 ⊢;have eY:Ext W1 Y:=by rw[hY,Z4];exact⟨_,rfl⟩
 have le:∀{k n a},Ext Y k->ao n (.ptr h.length a) (λz=>k[z]?)=dG n a (.b x.row):=λ{_ _ _} e=>le (eY.trans e)
 refine Rs (A6 t0 t1 @le @bR @bs @p1) ?_;refine WR.pn (B:=W1) (cs:=L.map EV.row) f1 rfl eY De (by rw[aaa];omega) ?_;intro W4 s4 x4 Xj hn4 q4' l4 hk4;have hrow:L.map EV.row++[x.row]=(L++[x]).map EV.row:=by rw[aae];rfl
 rw[hrow]at Xj;have o4:du W4 (L++[x]) s4:=⟨Xj.aY,λy hy=>by
  rcases aac.1 hy with hy|hy
  ·exact(oW.all y hy).ext x4
  ·rw[aam]at hy;rw[hy];exact ox.ext ((eW.trans e1).trans x4)⟩
 have sh4:qj (L++[x]):=⟨by simp;omega,λy hy=>by
  rcases aac.1 hy with hy|hy
  ·exact sh.e y hy
  ·rw[aam]at hy;rw[hy];exact hx⟩
 have nl4:Ny (L++[x]):=⟨λy hy=>by
  rcases aac.1 hy with hy|hy
  ·exact nl.n y hy
  ·rw[aam]at hy;rw[hy];exact hn⟩
 refine Rs (A2 t0 t1) ?_;refine WF.res T.c18 (r18 T o4 sh4 nl4) ?_;rintro _ g5 ⟨V5,rfl,_⟩;refine Rs (A2 t0 t1) ?_;refine⟨(eW.trans e1).trans (x4.trans ⟨g5,rfl⟩),?_⟩;rw[nq,aab (λz=>z h1),aab (λz=>z h2),aab (by simpa using h3)];simp only[aae,aaX,abF]
end
def za(e:cY):Bool:=decide (e.kind.length<=40)&&decide (e.names.length<=6)&&decide (e.cw.length<=8)&&decide (e.text.length<=200)&&e.names.all λx=>decide (x.length<=40)
section
variable {P:Program}(T:fq P) {h:ah}
include T
def r14{L s}(o:du h L s)(hl:L.length<2^63)(hn:∀x∈L,x.ev.names.length<2^63){n}(h0:n<=1000):ay P 14 [s,.i n] h (λv _=>v=.bool (gQ (L.map EV.ev) n)):=by
 refine .eX 71 T.mix T.c14 ?_;intro ts hlen t0 t1;unfold fn14 gA;by_cases h1:n<L.length
 ·have q1:decide (n<(L.length:Int))=true:=Z8 h1;refine Rs (A4 t0 t1 o.sl.aH q1) ?_;rw[gQ,Z3 (by simpa using h1)];rfl
 have q1:decide (n<(L.length:Int))=false:=Z3 h1;have hsh:gQ (L.map EV.ev) n=L.all (λy=>za y.ev):=by
  rw[gQ,Z8 (by simp;omega),abu,List.all_map];rfl
 rw[hsh];refine Rs (A4 t0 t1 o.sl.aH q1) ?_;refine WL.inv T.mix (λm ts h'=>∃k:Nat,k<=L.length/\m=L.length-k/\h' =h/\L.all (λy=>za y.ev)=(L.drop k).all (λy=>za y.ev)/\ts.length=71/\slot ts 0=s/\slot ts 5=.i k) L.length
  ⟨0,Om,rfl,rfl,rfl,Sn,(Sq t0),ga⟩ ?_
 clear t0 t1 hlen;rintro _ ts h' ⟨k,hk,rfl,rfl,hi,hlen,t0,t5⟩;by_cases hlt:k<L.length
 case neg=>
  have e3:=eF hlt;have e4:k=L.length:=Om
  rw[e4,aa2]at hi;refine Rs (A4 t0 t5 o.sl.aH e3) ?_;rw[hi];rfl
 have e3:=dN hlt;have e5:=wrapN (n:=k) Om;have ik:=o.sl.c6 (kk:=.i64) hlt;obtain⟨x,hx⟩:∃x,x=L[k]:=⟨_,rfl⟩;have Ta:x∈L:=by rw[hx];exact aad _
 have ox:=o.all x Ta;have hd:L.drop k=x::L.drop (k+1):=by rw[hx];simp
 rw[hd,abD]at hi;have l1:∀{kk:ah},Ext h' kk->ao none (jF s 5 k 1) (λb=>kk[b]?)=some (.str x.ev.kind,.ar):=λ{kk} e=>o.sl.kT hlt (by rw[<-hx];rfl) e
 have l2:∀{kk:ah},Ext h' kk->ao none (jF s 5 k 2) (λb=>kk[b]?)=some (x.sn,.ar):=λ{kk} e=>o.sl.kT hlt (by rw[<-hx];rfl) e
 have l3:∀{kk:ah},Ext h' kk->ao none (jF s 5 k 3) (λb=>kk[b]?)=some (x.sv,.ar):=λ{kk} e=>o.sl.kT hlt (by rw[<-hx];rfl) e
 have l4:∀{kk:ah},Ext h' kk->ao none (jF s 5 k 4) (λb=>kk[b]?)=some (.str x.ev.text,.ar):=λ{kk} e=>o.sl.kT hlt (by rw[<-hx];rfl) e
 have dc:∀a b:Nat,decide ((b:Int)<(a:Int))= !decide (a<=b):=λa b=>by
  by_cases hc:a<=b
  ·rw[Z8 hc,Z3 Om];rfl
  ·rw[Z3 hc,Z8 Om];rfl
 have c1:decide ((40:Int)<(x.ev.kind.length:Int))= !decide (x.ev.kind.length<=40):=dc _ 40;have c2:decide ((6:Int)<(x.ev.names.length:Int))= !decide (x.ev.names.length<=6):=dc _ 6;have c3:decide ((8:Int)<(x.ev.cw.length:Int))= !decide (x.ev.cw.length<=8):=dc _ 8;have c4:decide ((200:Int)<(x.ev.text.length:Int))= !decide (x.ev.text.length<=200):=dc _ 200;have bad:za x.ev=false->L.all (λy=>za y.ev)=false:=λhb=>by rw[hi,hb];rfl
 by_cases b1:x.ev.kind.length<=40
 case neg=>
  have d1:decide (x.ev.kind.length<=40)=false:=Z3 b1;refine Rs (A9 t0 t5 o.sl.aH e3 @ik @l1 @c1 @d1 @aay) ?_;rw[bad (by simp only[za,d1,ab0])]
 have d1:decide (x.ev.kind.length<=40)=true:=Z8 b1;by_cases b2:x.ev.names.length<=6
 case neg=>
  have d2:decide (x.ev.names.length<=6)=false:=Z3 b2;refine Rs (Bo t0 t5 o.sl.aH e3 @ik @l1 @l2 @c1 @d1 @c2 @d2 ox.n.aH @aay @aar) ?_;rw[bad (by simp only[za,d2,Bool.and_false,ab0])]
 have d2:decide (x.ev.names.length<=6)=true:=Z8 b2;by_cases b3:x.ev.cw.length<=8
 case neg=>
  have d3:decide (x.ev.cw.length<=8)=false:=Z3 b3;refine Rs (HA t0 t5 o.sl.aH e3 @ik @l1 @l2 @l3 @c1 @d1 @c2 @d2 @c3 @d3 ox.n.aH ox.v.aH @aay @aar) ?_;rw[bad (by simp only[za,d3,Bool.and_false,ab0])]
 have d3:decide (x.ev.cw.length<=8)=true:=Z8 b3;by_cases b4:x.ev.text.length<=200
 case neg=>
  have d4:decide (x.ev.text.length<=200)=false:=Z3 b4;refine Rs (Q7 t0 t5 o.sl.aH e3 @ik @l1 @l2 @l3 @l4 @c1 @d1 @c2 @d2 @c3 @d3 @c4 @d4 ox.n.aH ox.v.aH @aay @aar) ?_;rw[bad (by simp only[za,d4,Bool.and_false,ab0])]
 have d4:decide (x.ev.text.length<=200)=true:=Z8 b4;have Zx:za x.ev=x.ev.names.all λz=>decide (z.length<=40):=by simp only[za,d1,d2,d3,d4,abu]
 rw[Zx]at hi bad;refine Rs (Q8 t0 t5 o.sl.aH e3 @ik @l1 @l2 @l3 @l4 @c1 @d1 @c2 @d2 @c3 @d3 @c4 @d4 ox.n.aH ox.v.aH @aar) ?_;refine WL.inv T.mix (λm ts h1=>∃j:Nat,j<=x.ev.names.length/\m=x.ev.names.length-j/\h1=h'/\(x.ev.names.all λz=>decide (z.length<=40))=(x.ev.names.drop j).all (λz=>decide (z.length<=40))/\ts.length=71/\slot ts 0=s/\slot ts 5=.i k/\slot ts 6=.i j) x.ev.names.length
  ⟨0,Om,rfl,rfl,rfl,Sn,(Sq t0),(Sq t5),ga⟩ ?_
 clear t0 t5 hlen;rintro _ ts h1 ⟨j,hj,rfl,rfl,hij,hlen,t0,t5,t6⟩;by_cases U9:j<x.ev.names.length
 ·have f3:decide ((j:Int)<x.ev.names.length)=true:=Z8 Om;have f5:IntKind.i64.wrap ((j:Int)+1)=((j+1:Nat):Int):=wrapN Om;have ij:=ox.n.c6 (kk:=.i64) U9;have ln:=ox.n.lC (i:=j) (x:=.str x.ev.names[j]) U9 rfl (Ext.refl _);have c5:decide ((40:Int)<(x.ev.names[j].length:Int))= !decide (x.ev.names[j].length<=40):=dc _ 40;have Vz:x.ev.names.drop j=x.ev.names[j]::x.ev.names.drop (j+1):=Si
  rw[Vz,abD]at hij;cases hz:decide (x.ev.names[j].length<=40)with
  |true=>
   rw[hz,abu]at hij
   repeat (first|simp (config:={maxSteps:=1000000}) only[aO,aT,aZ,a8,reduceAdd,reduceMul,reduceLeDiff,reduceEqDiff,bd,hlen,aal,aan,t0,t5,t6,ik,l2,ox.n.aH,f3,ij,ln,c5,hz,aar,f5]|simp (config:={maxSteps:=1000000}) (disch:=first|(simp only[Z1,Z5,Z9]<;>omega)|rfl|omega|fail) only[dX,aO,aT,aZ,a8,reduceAdd,reduceMul,reduceLeDiff,reduceEqDiff,bd,hlen,aal,aan,t0,t5,t6,ik,l2,ox.n.aH,f3,ij,ln,c5,hz,aar,f5])
   exact⟨_,Om,j+1,Om,rfl,hij,rfl⟩
  |false=>
   rw[hz,ab0]at hij
   repeat (first|simp (config:={maxSteps:=1000000}) only[aO,aT,aZ,a8,reduceAdd,reduceMul,reduceLeDiff,reduceEqDiff,bd,hlen,aal,aan,t0,t5,t6,ik,l2,ox.n.aH,f3,ij,ln,c5,hz,aay]|simp (config:={maxSteps:=1000000}) (disch:=first|(simp only[Z1,Z5,Z9]<;>omega)|rfl|omega|fail) only[dX,aO,aT,aZ,a8,reduceAdd,reduceMul,reduceLeDiff,reduceEqDiff,bd,hlen,aal,aan,t0,t5,t6,ik,l2,ox.n.aH,f3,ij,ln,c5,hz,aay])
   rw[bad hij]
 ·have f3:decide ((j:Int)<x.ev.names.length)=false:=Z3 Om;have f4:j=x.ev.names.length:=Om
  rw[f4,aa2]at hij;rw[hij,List.all_nil,abu]at hi;refine Rs (A8 t0 t5 t6 @ik @l2 ox.n.aH @f3 e5) ?_;exact⟨_,Om,k+1,Om,rfl,hi,rfl⟩
end
theorem qT{α:Type}{row:α->List AV}{Q:α->Prop}:∀{cs:List (List AV)},(∀c∈cs,∃x,c=row x/\Q x)->∃L:List α,cs=L.map row/\∀x∈L,Q x
 |[],_=>⟨[],rfl,λ_ h=>by cases h⟩
 |c::cs,h=>by
  obtain⟨x,rfl,hx⟩:=h c (aaS ..);obtain⟨L,rfl,hL⟩:=qT (cs:=cs) λc hc=>h c (aaH _ hc)
  exact⟨x::L,rfl,λy hy=>(aaJ.1 hy).elim (λe=>e▸hx) (hL y)⟩
def jC{n}(h:n<=maxLen):n<2^63:=by unfold maxLen at h;omega
def BL{h k a}(x:TY h (.int k) a):∃z,a=.int k z/\(Lit.int k z).wf=true:=by rw[TY]at x;exact x
def xX{h a}(x:TY h .str a):∃s:By,a=.str s/\s.length<=maxLen:=by rw[TY]at x;exact x
def BK{h r a}(x:TY h (.sl r) a):∃cs:List (List AV),aI h a r.length cs/\cs.length<=maxLen/\∀c∈cs,jz h r c:=by rw[TY]at x;exact x
def uk{h l}(x:jz h [] l):l=[]:=by rw[jz]at x;exact x
def jH{h t ts l}(x:jz h (t::ts) l):∃a l',l=a::l'/\TY h t a/\jz h ts l':=by rw[jz]at x;exact x
def BJ{h l}(x:tj h [] l):l=[]:=by rw[tj]at x;exact x
def tu{h t ts l}(x:tj h (t::ts) l):∃a l',l=a::l'/\Hu h t a/\tj h ts l':=by rw[tj]at x;exact x
def Eb{h:ah}{a:AV}(x:TY h (.sl [.str]) a):∃L:List (By),aI h a 1 (L.map aq)/\L.length<=maxLen/\∀s∈L,s.length<=maxLen:=by
 obtain⟨cs,hs,hl,hc⟩:=BK x;obtain⟨L,rfl,hL⟩:=qT (row:=aq) (Q:=λs=>s.length<=maxLen) λc XM=>by
  obtain⟨_,_,rfl,h1,x⟩:=jH (hc c XM);obtain rfl:=uk x;obtain⟨s,rfl,hs⟩:=xX h1;exact⟨s,rfl,hs⟩
 exact⟨L,hs,by simpa using hl,hL⟩
def Ec{h:ah}{a:AV}(x:TY h (.sl [.int .i64]) a):∃L:List Int,aI h a 1 (L.map aM)/\L.length<=maxLen/\∀z∈L,(Lit.int .i64 z).wf=true:=by
 obtain⟨cs,hs,hl,hc⟩:=BK x;obtain⟨L,rfl,hL⟩:=qT (row:=aM) (Q:=λz=>(Lit.int .i64 z).wf=true) λc XM=>by
  obtain⟨_,_,rfl,h1,x⟩:=jH (hc c XM);obtain rfl:=uk x;obtain⟨s,rfl,hs⟩:=BL h1;exact⟨s,rfl,hs⟩
 exact⟨L,hs,by simpa using hl,hL⟩
def yH:List CT:=[.int .i64,.str,.sl [.str],.sl [.int .i64],.str]
structure DX(x:EV):Prop where
 n:x.ev.names.length<2^63
 v:x.ev.cw.length<2^63
 nn:∀n∈x.ev.names,n.length<2^63
 i:(Lit.int .i64 x.ev.num).wf=true
 k:x.ev.kind.length<2^63
 t:x.ev.text.length<2^63
 iv:∀z∈x.ev.cw,(Lit.int .i64 z).wf=true
def BI{h c}(x:jz h yH c):∃y:EV,c=y.row/\bh h y/\DX y:=by
 obtain⟨_,_,rfl,h1,x⟩:=jH x;obtain⟨_,_,rfl,h2,x⟩:=jH x;obtain⟨sn,_,rfl,h3,x⟩:=jH x;obtain⟨sv,_,rfl,h4,x⟩:=jH x;obtain⟨_,_,rfl,h5,x⟩:=jH x;obtain rfl:=uk x;obtain⟨n,rfl,hn⟩:=BL h1;obtain⟨k,rfl,hk⟩:=xX h2;obtain⟨N,hN,hNl,hNs⟩:=Eb h3;obtain⟨W,hW,hWl,hWs⟩:=Ec h4;obtain⟨t,rfl,ht⟩:=xX h5;exact⟨⟨⟨n,k,N,W,t⟩,sn,sv⟩,rfl,⟨hN,hW⟩,⟨jC hNl,jC hWl,λs hs=>jC (hNs s hs),hn,jC hk,jC ht,hWs⟩⟩
def HQ{h a}(x:Hu h (.agg yH) a):∃y:EV,a=.agg y.row/\bh h y/\DX y:=by
 obtain⟨l,rfl,x⟩:=x;obtain⟨y,rfl,o⟩:=BI x;exact⟨y,rfl,o⟩
structure zZ(L:List EV):Prop where
 l:L.length<2^63
 e:∀x∈L,DX x
def Ea{h:ah}{a:AV}(x:Hu h (.one (.sl yH)) a):∃L:List EV,du h L a/\zZ L:=by
 obtain⟨cs,hs,hl,hc⟩:=BK (h:=h) x;obtain⟨L,rfl,hL⟩:=qT (row:=EV.row) (Q:=λy=>bh h y/\DX y) λc XM=>BI (hc c XM)
 exact⟨L,⟨hs,λy hy=>(hL y hy).1⟩,⟨jC (by simpa using hl),λy hy=>(hL y hy).2⟩⟩
def n9{L n}(h:gQ (L.map EV.ev) n=true)(hn:n<=1000):qj L/\Ny L/\L.length<=1000/\∀x∈L,za x.ev=true:=by
 rw[gQ,aaD,aaK,aaa]at h;have ha:∀x∈L,za x.ev=true:=λx hx=>aaE.1 h.2 _ (aao hx)
 have key:∀x∈L,x.ev.names.length<=6/\x.ev.cw.length<=8/\∀n∈x.ev.names,n.length<=40:=λx hx=>by
  have:=ha x hx;simp only[za,aaD,aaK,aaE]at this;exact⟨this.1.1.1.2,this.1.1.2,this.2⟩
 refine⟨⟨Om,λx hx=>?_⟩,⟨λx hx n hn=>?_⟩,Om,ha⟩
 ·have:=key x hx;omega
 ·have:=(key x hx).2.2 n hn;omega
def Ff{α:Type}{f:α->By}{n:By}{L:List α}:decide (cV (λx=>decide (f x=n)) L<0)= !decide (n∈L.map f):=by
 rw[<-fM];by_cases h:0<=cV (λx=>decide (f x=n)) L
 ·rw[Z8 h,Z3 Om];rfl
 ·rw[Z3 h,Z8 Om];rfl
def L7(V:RV)(n:By):decide (cV (λy:jc×AV=>decide (y.1.name=n)) V.aj<0)= !dD V.an 2 n:=by
 rw[Ff (f:=λy:jc×AV=>y.1.name),<-gV];rfl
def HM(a b c:Int):bW (decide (bj a b c≠0)) 3=bj a b c:=by
 by_cases h:bj a b c=0
 ·rw[Z3 (λz=>z h),h];rfl
 ·rw[Z8 h,uA h];rfl
def Ay(l:List cY)(t:Nat)(n:By)(r:List Int):aQ ((aN l).2.2::bW (!dD (aN l).1.now t n) 10::r)=aQ ((iF l t n).2::r):=by
 unfold iF;by_cases h:(aN l).2.2=0
 ·rw[aab (λz=>z h),aQ,aai h]
 ·rw[aai h,aQ,aab h,aQ,aab h]
def EM{l t n}(h:(iF l t n).2=0):(iF l t n).1=(aN l).1.now/\dD (aN l).1.now t n=true:=by
 unfold iF at h ⊢;by_cases h1:(aN l).2.2=0
 ·rw[aab (λz=>z h1)]at h ⊢;refine⟨rfl,?_⟩;cases hc:dD (aN l).1.now t n with
  |true=>rfl
  |false=>simp only[hc]at h;exact absurd h De
 ·rw[aai h1]at h;exact absurd h h1
def Am(k:Nat):ai:=(fn3).body.dr k
def rz(k:Nat):ai:=((fn3).body.dr k).hd
def OF:Am 9=.seq (rz 9) (Am 10):=rfl
def LA:Am 10=.seq (rz 10) (Am 11):=rfl
def OG:fn3=⟨101,3,[(6,none)],.seq (rz 0) (.seq (rz 1) (.seq (rz 2) (.seq (rz 3) (.seq (rz 4) (.seq (rz 5) (.seq (rz 6) (.seq (rz 7) (.seq (rz 8) (Am 9)))))))))⟩:=rfl
def Ag{R t}(w:eS R):(fK R t).length<=64:=by
 have h1:(fK R t).length<=R.aj.length:=by rw[fK,aaa];exact aaF _ _
 have:=w.l2;omega
section
variable {P:Program}(T:fq P) {h:ah}
include T
def r19(c:Bool)(e:Int):ay P 19 [.bool c,.i e] h (λv _=>v=.i (bW c e)):=by
 refine .eX 8 T.mix T.c19 ?_;intro ts hlen t0 t1;unfold fn19 gA;refine Rs (A2 t0 t1) ?_;refine WF.ce T.c82 (r82 T _ _) λg=>?_
 exact Rs (A2 t0 t1) Tv
def r21{s l}(hs:aI h s 1 (l.map aM))(hl:l.length<2^40):ay P 21 [s] h (λv _=>v=.i (aQ l)):=by
 refine .kM 5 T.mix T.c21 ?_;intro ts hlen t0;unfold fn21 gA;refine Rs t0 ?_;refine WF.ce T.c83 (r83 T hs Om) λg=>?_
 exact Rs t0 Tv
def J4(h:ah):AV->ah->Prop:=λv k=>Ext h k/\v=.bool true
def B5(ha:∀k,Ext h k->ay P 15 [] k (λv _=>v=.bool true)){K:ah}{ts:TS}{b:Bool}{one two:Int}{u w:AV}{X:List (By)}(eK:Ext h K)(hu:aI K u 1 (X.map aq))(hw:aI K w 1 (X.map aq))(hX:X.length<2^40)(hlen:ts.length=101)
  (t7:slot ts 7=.bool b) (t8:slot ts 8=.i one) (t9:slot ts 9=u) (t10:slot ts 10=.i two) (t15:slot ts 15=.i one) (t16:slot ts 16=.i two) (t17:slot ts 17=.bool b) (t18:slot ts 18=w):
  WC P bJ (Am 11) [] ts K (FQ [(6,none)] (J4 h)):=by
 unfold Am fn3 gA;simp only[ai.j,ai.s,ai.r,ai.dr,ai.tl];have d3:(b==b)=true:=Si
 refine Rs (mU t7 t8 t9 t10 t15 t16 t17 t18 @aaq @d3) ?_;refine WF.ce T.c25 (r25 T hu hw hX hX) λg1=>?_
 refine Rs (A9 t7 t8 t9 t10 t15 t16 t17 t18 @aaq) ?_;refine WF.ce T.c15 (ha _ (eK.trans ⟨g1,rfl⟩)) λg2=>?_
 refine Rs t7 ?_;exact⟨eK.trans (by rw[Z4];exact⟨_,rfl⟩),rfl⟩
def B4(ha:∀k,Ext h k->ay P 15 [] k (λv _=>v=.bool true)){K:ah}{ts:TS}{b:Bool}{one:Int}{u:AV}{V:RV}{kb:Nat}{l:List cY}{t:Int}(eK:Ext h K)(oV:aB K V)(wV:eS V.an)(hV:V.an=(aN l).1.now)(mb:K[kb]? =some (.b V.row))(hu:aI K u 1 ((fU l t).1.map aq))(hlen:ts.length=101)
  (t2:slot ts 2=.i t) (t7:slot ts 7=.bool b) (t8:slot ts 8=.i one) (t9:slot ts 9=u) (t10:slot ts 10=.i (fU l t).2) (t11:slot ts 11=.ptr kb 0) (t15:slot ts 15=.i one) (t16:slot ts 16=.i (aQ [(aN l).2.2,jV t])) (t17:slot ts 17=.bool b) (t18:slot ts 18=.af):
  WC P bJ (Am 10) [] ts K (FQ [(6,none)] (J4 h)):=by
 have lb:=@dB _ _ _ mb;obtain⟨two,h2⟩:∃z,z=aQ [(aN l).2.2,jV t]:=⟨_,rfl⟩;rw[<-h2]at t16;rw[LA];generalize hR:Am 11=R;unfold rz fn3 gA;simp only[ai.j,ai.s,ai.r,ai.dr,ai.tl,ai.hd];by_cases hz:two=0
 ·have hq:fU l t=(fK (aN l).1.now t,0):=by rw[fU,<-h2,aab (λz=>z hz)]
  have q:decide (two=0)=true:=Z8 hz;refine Rs (D3 t2 t7 t8 t9 t10 t11 t15 t16 t17 t18 q @lb @aG) ?_;refine WF.res T.c24 (r24 T oV wV.len wV.vj t) ?_;rintro w g hw;refine Rs (mU t2 t7 t8 t9 t10 t11 t15 t16 t17 t18) ?_;rw[<-hR];have hul:=Ag (t:=t) wV;rw[hV]at hw hul;rw[hq]at hu t10;refine B5 T ha (X:=fK (aN l).1.now t) (b:=b) (one:=one) (two:=two) (eK.trans ⟨g,rfl⟩) (hu.ext ⟨g,rfl⟩) hw Om Sn (Sq t7) (Sq t8) (Sq t9) ?_ (Sq t15) (Sq t16) (Sq t17) (Sq t18);exact Zs (A2 t10 @hz) Tv
 ·have hq:fU l t=([],two):=by rw[fU,<-h2,aai hz]
  have q:decide (two=0)=false:=Z3 hz;refine Rs (lI t2 t7 t8 t9 t10 t11 t15 t16 t17 t18 q) ?_;rw[<-hR];rw[hq]at hu t10;exact B5 T ha (X:=[]) (b:=b) (one:=one) (two:=two) eK hu .nil Si Sn (Sq t7) (Sq t8) (Sq t9) (Sq t10) (Sq t15) (Sq t16) (Sq t17) (Sq t18)
def HZ(ha:∀k,Ext h k->ay P 15 [] k (λv _=>v=.bool true)){K ts n u V kb l t}(eK:Ext h K)(oV:aB K V)(wV:eS V.an)(hV:V.an=(aN l).1.now)(mb:K[kb]? =some (.b V.row))(hu:aI K u 1 ((fU l t).1.map aq))(hlen:ts.length=101)
  (t1:slot ts 1=.str n) (t2:slot ts 2=.i t) (t7:slot ts 7=.bool (lR l n t).1) (t8:slot ts 8=.i (lR l n t).2) (t9:slot ts 9=u) (t10:slot ts 10=.i (fU l t).2) (t11:slot ts 11=.ptr kb 0) (t15:slot ts 15=.i (aQ [(iF l 2 n).2,jV t])) (t16:slot ts 16=.i (aQ [(aN l).2.2,jV t])) (t17:slot ts 17=.bool false) (t18:slot ts 18=.af):
  WC P bJ (Am 9) [] ts K (FQ [(6,none)] (J4 h)):=by
 have lb:=@dB _ _ _ mb;obtain⟨one,h1⟩:∃z,z=aQ [(iF l 2 n).2,jV t]:=⟨_,rfl⟩;rw[<-h1]at t15;rw[OF];generalize hR:Am 10=R;unfold rz fn3 gA;simp only[ai.j,ai.s,ai.r,ai.dr,ai.tl,ai.hd];by_cases hz:one=0
 ·have q:decide (one=0)=true:=Z8 hz;obtain⟨a1,a2⟩:=yF (h1.symm.trans hz);obtain⟨SJ,Yc⟩:=EM a1;have hq:lR l n t=(eD (aN l).1.now (lQ (aN l).1.now n) t,0):=by rw[lR,<-h1,aab (λz=>z hz),SJ]
  rw[<-hV]at Yc hq;have Vr:n∈kj V.an:=abk Yc;have hps:=cN Vr;have Up:bn (kj V.an) n<V.aj.length:=by simpa [kj,RV.an]using hps
  have ix:bf 3 V.s2 (.i ((bn (kj V.an) n:Nat):Int))=some (cI V.s2 3 (bn (kj V.an) n),.ar):=oV.i2.c6 Up;obtain⟨y,hy⟩:∃y,y=V.aj[bn (kj V.an) n]:=⟨_,rfl⟩;have Ua:y∈V.aj:=by rw[hy];exact aad _
  have XV:y.1=lQ V.an n:=by
   rw[lQ,de (f:=jc.name) (l:=V.an.aj) (d:=CP) Vr,hy];exact BB
  have ly:∀{kk:ah},Ext K kk->ao (some 3) (cI V.s2 3 (bn (kj V.an) n)) (λb=>kk[b]?)=some (.agg (aU y),.ar):=λ{kk} e=>by rw[hy];exact oV.i2.gP Up e
  have oy:=oV.e2 y Ua;have Uk:=wV.vj.sh y Ua;refine Rs (Bn t1 t2 t7 t8 t9 t10 t11 t15 t16 t17 t18 q @lb @dC @aG) ?_;refine WF.ce T.c22 (r22 T oV wV.len n) λg1=>?_
  have ei:cV (λy:jc×AV=>decide (y.1.name=n)) V.aj=(bn (kj V.an) n:Int):=by
   rw[gV];exact fp (f:=λy:jc×AV=>y.1.name) (by rw[<-gV];exact Vr)
  rw[ei];refine Rs (D3 t1 t2 t7 t8 t9 t10 t11 t15 t16 t17 t18 ix @ly) ?_;refine WF.ce T.c23 (r23 T (oV.ext Xx) wV.len (oy.ext Xx) Uk.2 Uk.1 t) λg2=>?_
  rw[XV];refine Rs (lI t1 t2 t7 t8 t9 t10 t11 t15 t16 t17 t18) ?_;rw[<-hR];rw[hq]at t7 t8;have ex:Ext K (K++g1++g2):=Xx;refine B4 T ha (b:=eD V.an (lQ V.an n) t) (one:=one) (eK.trans ex) (oV.ext ex) wV hV (ex.some mb) (hu.ext ex) Sn (Sq t2) (Sq t7) ?_ (Sq t9) (Sq t10) (Sq t11) (Sq t15) (Sq t16) Sw (Sq t18);exact Zs (A2 t8 @hz) Tv
 ·have hq:lR l n t=(false,one):=by rw[lR,<-h1,aai hz]
  have q:decide (one=0)=false:=Z3 hz;refine Rs (nT t1 t2 t7 t8 t9 t10 t11 t15 t16 t17 t18 q) ?_;rw[<-hR];rw[hq]at t7 t8;exact B4 T ha (b:=false) (one:=one) eK oV wV hV mb hu Sn (Sq t2) (Sq t7) (Sq t8) (Sq t9) (Sq t10) (Sq t11) (Sq t15) (Sq t16) (Sq t17) (Sq t18)
def r3(ha:∀k,Ext h k->ay P 15 [] k (λv _=>v=.bool true)){L s}(o:du h L s)(sz:zZ L)(gl:Gl h){n:By}(_hn:n.length<2^63)(t:Int):ay P 3 [s,.str n,.i t] h (λv _=>v=.bool true):=by
 refine .of T.mix (acv T.c3 (aax some OG)) ?_;obtain⟨ts,SH⟩:∃ts,ts=aW 101 [s,.str n,.i t]:=⟨_,rfl⟩;have hlen:ts.length=101:=by rw[SH];rfl
 have t0:slot ts 0=s:=by rw[SH];rfl
 have t1:slot ts 1=.str n:=by rw[SH];rfl
 have t2:slot ts 2=.i t:=by rw[SH];rfl
 show WC P bJ (.seq (rz 0) (.seq (rz 1) (.seq (rz 2) (.seq (rz 3) (.seq (rz 4) (.seq (rz 5) (.seq (rz 6) (.seq (rz 7) (.seq (rz 8) (Am 9)))))))))) [] (aW 101 [s,.str n,.i t]) h (FQ [(6,none)] (J4 h));rw[<-SH];clear SH;generalize hR:Am 9=R;unfold rz fn3 gA;simp only[ai.j,ai.s,ai.r,ai.dr,ai.tl,ai.hd];refine Rs (A3 t0 t1 t2) ?_;refine WF.ce T.c14 (r14 T o sz.l (λx hx=>(sz.e x hx).n) De) λg1=>?_
 cases hsh:gQ (L.map EV.ev) 24 with
 |false=>
  refine Rs (A4 t0 t1 t2 @aay) ?_;exact KB
 |true=>
 obtain⟨sh,nl,_,_⟩:=n9 hsh De;by_cases hn40:(40:Int)<(n.length:Int)
 ·have q:decide ((40:Int)<(n.length:Int))=true:=Z8 hn40;refine Rs (A5 t0 t1 t2 @aar q) ?_;exact KB
 have q:decide ((40:Int)<(n.length:Int))=false:=Z3 hn40;refine Rs (A5 t0 t1 t2 @aar q) ?_;refine WF.ce T.c16 (r16 T (o.ext Xx) sh (gl.ext Xx) n t) λg2=>?_
 refine Rs (A3 t0 t1 t2) ?_;refine WF.res T.c17 (r17 T (o.ext Xx) sh (gl.ext Xx) t) ?_;rintro _ g3 ⟨u,rfl,hu⟩;refine Rs (A3 t0 t1 t2) ?_;refine WF.res T.c18 (r18 T (o.ext Xx) sh nl) ?_;rintro _ g4 ⟨V,rfl,oV,hV,wV,lo⟩;have st:=@aB.st _ _ oV;obtain⟨l,hl⟩:∃l,l=L.map EV.ev:=⟨_,rfl⟩;rw[<-hl]at hV hu ⊢;obtain⟨K,hK⟩:∃K,K=h++g1++g2++g3++g4:=⟨_,rfl⟩;have eK:Ext h K:=by rw[hK];exact Xx
 have hu:aI K u 1 ((fU l t).1.map aq):=hu.ext (by rw[hK];exact Xx);rw[<-hK]at oV ⊢;clear hK lo;have lb:∀{k' n' a},Ext (K++[ak.b V.row]) k'->ao n' (.ptr K.length a) (λz=>k'[z]?)=dG n' a (.b V.row):=λ{_ _ _} e=>aA (e.some ba)
 refine Rs (A4 t0 t1 t2 @st) ?_;obtain⟨K1,U7⟩:∃Z,Z=K++[ak.b V.row]:=⟨_,rfl⟩;have e1:Ext K K1:=by rw[U7];exact⟨_,rfl⟩
 rw[<-U7]at lb ⊢;have oV:=oV.ext e1;have hu:=hu.ext e1;have eK:=eK.trans e1;refine WF.ce T.c20 (r20 T _ _ _) λg5=>?_
 refine Rs (A3 t0 t1 t2) ?_;refine WF.ce T.c19 (r19 T _ _) λg6=>?_
 rw[HM];refine Rs (A5 t0 t1 t2 @lb @aG) ?_;refine WF.ce T.c22 (r22 T (oV.ext Xx) wV.len n) λg7=>?_
 have hsi:=L7 V n;rw[hV]at hsi;refine Rs (A4 t0 t1 t2 @hsi) ?_;refine WF.ce T.c19 (r19 T _ _) λg8=>?_
 refine Rs (A3 t0 t1 t2) ?_;refine WF.ce T.c21 (r21 T (cg [_,_,_]) Si) λg9=>?_
 refine Rs (A3 t0 t1 t2) ?_;refine WF.ce T.c21 (r21 T (cg [_,_]) Si) λg10=>?_
 have hone:aQ [(aN l).2.2,bW (!dD (aN l).1.now 2 n) 10,bj t 0 999999999]=aQ [(iF l 2 n).2,jV t]:=Ay l 2 n _;rw[hone];have htwo:aQ [(aN l).2.2,bj t 0 999999999]=aQ [(aN l).2.2,jV t]:=rfl;rw[htwo];refine Rs (A3 t0 t1 t2) ?_;rw[<-hR];have mb:K1[K.length]? =some (.b V.row):=by rw[U7];exact ba
 obtain⟨K2,ZW⟩:∃Z,Z=K1++g5++g6++g7++g8++[ak.cells [.i (aN l).2.2,.i (bW (!dD (aN l).1.now 2 n) 10),.i (bj t 0 999999999)] true true]++g9++[ak.cells [.i (aN l).2.2,.i (bj t 0 999999999)] true true]++g10:=⟨_,rfl⟩;have e2:Ext K1 K2:=by rw[ZW];exact Xx
 refine HZ T ha (l:=l) (n:=n) (t:=t) (eK.trans ?_) (oV.ext ?_) wV hV (Ext.some ?_ mb) (hu.ext ?_) Sn (Sq t1) (Sq t2) Sw Sw Sw Sw Sw Sw Sw Sw Sw
 all_goals exact Xx
end
def oE{l:List cY}(h:(aN l).2.2=0):l.length<=1000:=by
 unfold aN at h;split at h
 ·exact absurd h De
 ·omega
def zi{l m:List cY}(h:(aN (l++m)).2.2=0):(aN l).2.2=0:=by
 have hl:=oE h;rw[Z1]at hl;rw[aN,aab (by rw[Z1];omega),rD]at h;rw[aN,aab Om];by_cases g:(fC gO.zero l 0).2.2=0
 ·exact g
 ·rw[aai g]at h;exact absurd h g
def CB{l m:List cY}{e:cY}(h:(aN (l++e::m)).2.2=0):(aN l).2.2=0/\dV (aN l).1 e=0/\aN (l++[e])=(gy (aN l).1 e,0,0):=by
 have h1:(aN (l++[e])).2.2=0:=zi (m:=m) (by simpa using h);have h2:=zi h1;have hl:=oE h1;rw[Z1,aau]at hl;rw[kv h2 Om]at h1 ⊢;by_cases hb:dV (aN l).1 e=0
 ·rw[aab (λz=>z hb)];exact⟨h2,hb,rfl⟩
 ·rw[aai hb]at h1;exact absurd h1 hb
def EP{H:gO}{e:cY}(hk:gx e≠.dR):(gy H e).now=fQ H.now e (gx e):=by
 rw[gy,aab hk];show(H.cM++[_]).getLastD _=_;simp[abC]
theorem zg:∀(l:List cY) (H:gO) (i:Nat),(fC H l i).2.2=0->(fC H l i).1.c9=H.c9++l
 |[],H,i,_=>by simp[fC]
 |e::l,H,i,h=>by
  rw[fC]at h ⊢;by_cases hb:dV H e=0
  ·rw[aab (λz=>z hb)]at h ⊢;rw[zg l _ _ h];have:(gy H e).c9=H.c9++[e]:=by unfold gy;split<;>rfl
   rw[this,Z4];rfl
  ·rw[aai hb]at h;exact absurd h hb
def ux{l:List cY}(h:(aN l).2.2=0):(aN l).1.c9=l:=by
 have hl:=oE h;have e:aN l=fC gO.zero l 0:=by rw[aN,aab Om]
 rw[e]at h ⊢;rw[zg l _ _ h];rfl
def Fo{R:dM}{e:cY}{d:Kd}(h:fD R e d=0):ka d R e=0/\bz R e d=0:=by
 unfold fD at h;split at h
 ·exact absurd h De
 split at h
 case isTrue h1=>exact absurd h h1
 case isFalse h1=>exact⟨abN.1 h1,h⟩
def du.cut{h:ah}{L:List EV}{s:AV}(o:du h L s){i:Nat}(hi:i<=L.length):∃s',Al 5 s none (some (.int .i64 (i:Int)))=some (s',.ar)/\du h (L.take i) s':=by
 obtain⟨s',e,h'⟩:=o.sl.Eg (lo:=none) (hi:=some (.int .i64 (i:Int))) (l:=0) (u:=i) (jt hi);exact⟨s',e,by simpa using h',λx hx=>o.all x (aa4 hx)⟩
def qj.cut{L:List EV}(sh:qj L)(i:Nat):qj (L.take i):=⟨by have:=sh.l;rw[aaQ];omega,λx hx=>sh.e x (aa4 hx)⟩
def Lz{y:jc×AV}(o:y.2.one=true){b:Nat}{a0 a1 a2:AV}{tl:Bool}:kN 3 0 (.agg (aU y)) b (.cells [a0,a1,a2] true tl)=some (az,.set b (.cells (aU y) true tl)):=by
 refine(n6 (l:=aU y) rfl ?_ (by show 0+3<=3;omega)).trans rfl;show(true&&(true&&(y.2.one&&true)))=true;rw[o];rfl
def Mh{y:gN}{b:Nat}{a0 a1 a2:AV}{tl:Bool}:kN 3 0 (.agg (bw y)) b (.cells [a0,a1,a2] true tl)=some (az,.set b (.cells (bw y) true tl)):=by
 refine(n6 (l:=bw y) rfl ?_ (by show 0+3<=3;omega)).trans rfl;simp[bw,AV.one]
section
variable {P:Program}(T:fq P) {h:ah}
include T
def r33{L:List EV}{s:AV}(o:du h L s)(sz:zZ L){n:Int}(hn:n<=1000):ay P 33 [s,.int .i64 n] h (λv _=>v=.bool (gQ (L.map EV.ev) n&&decide ((aN (L.map EV.ev)).2.2=0))):=by
 refine .eX 20 T.mix T.c33 ?_;intro ts hlen t0 t1;unfold fn33 gA;refine Rs (A2 t0 t1) ?_;refine WF.ce T.c14 (r14 T o sz.l (λx hx=>(sz.e x hx).n) hn) λg1=>?_
 cases hsh:gQ (L.map EV.ev) n with
 |false=>exact Rs (A4 t0 t1 @aay @ab0) Tv
 |true=>
 obtain⟨sh,nl,_,_⟩:=n9 hsh hn;refine Rs (A3 t0 t1 @aar) ?_;refine WF.res T.c18 (r18 T (o.ext Xx) sh nl) ?_;rintro _ g2 ⟨V,rfl,oV,hV,wV,lo⟩;have st:=@aB.st _ _ oV;exact Rs (A4 t0 t1 @st @abu) Tv
end
section
variable {P:Program}(T:fq P) {h:ah}
include T
def r32{L M:List EV}{s t:AV}(o:du h L s)(p:du h M t)(e:L.map EV.ev=M.map EV.ev)(hl:L.length<2^40)(hn:∀x∈L,x.ev.names.length<2^40/\x.ev.cw.length<2^40):ay P 32 [s,t] h (λv _=>v=.bool true):=by
 have Vt:L.length=M.length:=by have:=aax List.length e;simpa using this
 refine .eX 82 T.mix T.c32 ?_;intro ts hlen t0 t1;unfold fn32;have q0:decide ((L.length:Int)≠M.length)=false:=Z3 Om;refine Rs (A5 t0 t1 o.sl.aH p.sl.aH q0) ?_;refine WL.inv T.mix (λm ts h'=>∃k:Nat,k<=L.length/\m=L.length-k/\Ext h h'/\ts.length=82/\slot ts 0=s/\slot ts 1=t/\slot ts 5=.int .i64 k) L.length
  ⟨0,Om,rfl,Ext.refl h,Sn,(Sq t0),(Sq t1),ga⟩ ?_
 rintro _ ts W ⟨k,hk,rfl,eW,hlen,t0,t1,t5⟩;have o:=o.ext eW;have p:=p.ext eW;by_cases hlt:k<L.length
 ·have Vs:k<M.length:=Om
  have e3:=dN hlt;have e5:=wrapN (n:=k) Om;have ix:=o.sl.c6 (kk:=.i64) hlt;have iy:=p.sl.c6 (kk:=.i64) Vs;obtain⟨x,hx⟩:∃x,x=L[k]:=⟨_,rfl⟩;obtain⟨y,hy⟩:∃y,y=M[k]:=⟨_,rfl⟩;have V9:y.ev=x.ev:=by
   have h1:(L.map EV.ev)[k]? =some x.ev:=by rw[aa7,Z6 hlt,hx];rfl
   have h2:(M.map EV.ev)[k]? =some y.ev:=by rw[aa7,Z6 Vs,hy];rfl
   rw[e,h2]at h1;exact aa0 h1
  have Ta:x∈L:=by rw[hx];exact aad _
  have Ua:y∈M:=by rw[hy];exact aad _
  have ox:=o.all x Ta;have oy:=p.all y Ua;have oyn:=oy.n;have oyv:=oy.v;rw[V9]at oyn oyv;have a0:∀{kk:ah},Ext W kk->ao none (jF s 5 k 0) (λb=>kk[b]?)=some (.int .i64 x.ev.num,.ar):=λ{kk} e=>o.sl.kT hlt (by rw[<-hx];rfl) e
  have a1:∀{kk:ah},Ext W kk->ao none (jF s 5 k 1) (λb=>kk[b]?)=some (.str x.ev.kind,.ar):=λ{kk} e=>o.sl.kT hlt (by rw[<-hx];rfl) e
  have a2:∀{kk:ah},Ext W kk->ao none (jF s 5 k 2) (λb=>kk[b]?)=some (x.sn,.ar):=λ{kk} e=>o.sl.kT hlt (by rw[<-hx];rfl) e
  have a3:∀{kk:ah},Ext W kk->ao none (jF s 5 k 3) (λb=>kk[b]?)=some (x.sv,.ar):=λ{kk} e=>o.sl.kT hlt (by rw[<-hx];rfl) e
  have a4:∀{kk:ah},Ext W kk->ao none (jF s 5 k 4) (λb=>kk[b]?)=some (.str x.ev.text,.ar):=λ{kk} e=>o.sl.kT hlt (by rw[<-hx];rfl) e
  have b0:∀{kk:ah},Ext W kk->ao none (jF t 5 k 0) (λb=>kk[b]?)=some (.int .i64 x.ev.num,.ar):=λ{kk} e=>by rw[<-V9];exact p.sl.kT Vs (by rw[<-hy];rfl) e
  have b1:∀{kk:ah},Ext W kk->ao none (jF t 5 k 1) (λb=>kk[b]?)=some (.str x.ev.kind,.ar):=λ{kk} e=>by rw[<-V9];exact p.sl.kT Vs (by rw[<-hy];rfl) e
  have b2:∀{kk:ah},Ext W kk->ao none (jF t 5 k 2) (λb=>kk[b]?)=some (y.sn,.ar):=λ{kk} e=>p.sl.kT Vs (by rw[<-hy];rfl) e
  have b3:∀{kk:ah},Ext W kk->ao none (jF t 5 k 3) (λb=>kk[b]?)=some (y.sv,.ar):=λ{kk} e=>p.sl.kT Vs (by rw[<-hy];rfl) e
  have b4:∀{kk:ah},Ext W kk->ao none (jF t 5 k 4) (λb=>kk[b]?)=some (.str x.ev.text,.ar):=λ{kk} e=>by rw[<-V9];exact p.sl.kT Vs (by rw[<-hy];rfl) e
  have n0:decide (x.ev.num≠x.ev.num)=false:=Si
  have n1:decide (x.ev.kind≠x.ev.kind)=false:=Si
  have n4:decide (x.ev.text≠x.ev.text)=false:=Si
  refine Rs (Bn t0 t1 t5 e3 o.sl.aH ix @iy @a0 @b0 @a1 @b1 @a2 @b2 @n0 @n1) ?_;refine WF.ce T.c25 (r25 T ox.n oyn (hn x Ta).1 (hn x Ta).1) λg1=>?_
  refine Rs (A9 t0 t1 t5 ix @iy @a3 @b3 @aaq @aar) ?_;refine WF.ce T.c62 (r62 T (ox.v.ext Xx) (oyv.ext Xx) (hn x Ta).2 (hn x Ta).2) λg2=>?_
  refine Rs (lI t0 t1 t5 ix @iy @a4 @b4 @n4 @aaq @aar e5) ?_;exact NA
 ·have e3:=eF hlt;refine Rs (A5 t0 t1 t5 e3 o.sl.aH) ?_;exact⟨eW,trivial⟩
end
def pK(k:Nat):ai:=(fn46).body.dr k
def vH(k:Nat):ai:=((fn46).body.dr k).hd
def OD:pK 2=.seq (vH 2) (pK 3):=rfl
def OC:pK 3=.seq (vH 3) (pK 4):=rfl
def OB:pK 4=.seq (vH 4) (pK 5):=rfl
def OA:pK 5=.seq (vH 5) (pK 6):=rfl
def Oz:pK 6=.seq (vH 6) (pK 7):=rfl
def Oy:pK 7=.seq (vH 7) (pK 8):=rfl
def OE:fn46=⟨248,2,[(4,none)],.seq (vH 0) (.seq (vH 1) (pK 2))⟩:=rfl
def Dh{x:gN}:nO true (mQ (.agg [.s,.i,.b]) (.agg (bw x)) (.agg (bw x)))=some (.bool false):=by
 rw[NN rfl rfl];simp[bw,dm,cX,nO]
def Hl{x:sR}:nO true (mQ (.agg [.s,.i]) (.agg (cB x)) (.agg (cB x)))=some (.bool false):=by
 rw[NN rfl rfl];simp[cB,dm,cX,nO]
def Hn{x:qM}:nO true (mQ (.agg [.s,.s,.i,.b]) (.agg (cD x)) (.agg (cD x)))=some (.bool false):=by
 rw[NN rfl rfl];simp[cD,dm,cX,nO]
def JO(h:ah):AV->ah->Prop:=λv k=>Ext h k/\v=.bool true
def yC{α β:Type}{l m:List (α×β)}(h:l.map Prod.fst=m.map Prod.fst){k:Nat}(a:k<l.length)(b:k<m.length):m[k].1=l[k].1:=by
 have h1:(l.map Prod.fst)[k]? =some l[k].1:=by rw[aa7,Z6 a];rfl
 rw[h,aa7,Z6 b]at h1;exact aa0 h1
section
variable {P:Program}(T:fq P) {h K:ah}{ts:TS}{V U:RV}{b c:Nat}(o:aB K V) (p:aB K U) (e:V.an=U.an) (w:eS V.an) (eh:Ext h K) (mv:K[b]? =some (.cells V.row true false)) (mu:K[c]? =some (.cells U.row true false))
include T o p e w eh mv mu
def R5{W:ah}(eW:Ext K W)(hlen:ts.length=248)(t2:slot ts 2=.ptr b 0)(t3:slot ts 3=.ptr c 0):WC P bJ (pK 7) [] ts W (FQ [(4,none)] (JO h)):=by
 have hL:V.aJ.length<=16:=by have:=w.l5;simpa [RV.an]using this
 have he:V.aJ=U.aJ:=aax dM.aJ e;have hU:V.aJ.length=U.aJ.length:=aax List.length he;rw[Oy];generalize hR:pK 8=R;unfold vH fn46;simp only[ai.j,ai.s,ai.r,ai.dr,ai.tl,ai.hd];refine Rs (A2 t2 t3) ?_;refine WL.inv T.mix (λm ts h'=>∃k:Nat,k<=V.aJ.length/\m=V.aJ.length-k/\Ext K h'/\ts.length=248/\slot ts 2=.ptr b 0/\slot ts 3=.ptr c 0/\slot ts 16=.int .i64 k) V.aJ.length
  ⟨0,Om,rfl,eW,Sn,(Sq t2),(Sq t3),ga⟩ ?_
 clear t2 t3 hlen eW;rintro _ ts W ⟨k,hk,rfl,eW,hlen,t2,t3,t16⟩;have lv:=@dB _ _ _ (eW.some mv);have lu:=@dB _ _ _ (eW.some mu);have oW:=o.ext eW;have pW:=p.ext eW;by_cases hlt:k<V.aJ.length
 ·have TO:k<U.aJ.length:=Om
  have e3:=dN hlt;have e5:=wrapN (n:=k) Om;have ix:=oW.i5.c6 (kk:=.i64) hlt;have iy:=pW.i5.c6 (kk:=.i64) TO;obtain⟨x,hx⟩:∃x,x=V.aJ[k]:=⟨_,rfl⟩;have dx:∀{k':ah},Ext W k'->ao (some 4) (cI V.s5 4 k) (λb=>k'[b]?)=some (.agg (cD x),.ar):=λ{k'} e=>by rw[hx];exact oW.i5.gP hlt e
  have dy:∀{k':ah},Ext W k'->ao (some 4) (cI U.s5 4 k) (λb=>k'[b]?)=some (.agg (cD x),.ar):=λ{k'} e=>by
   have:x=U.aJ[k]:=by rw[hx];simp only[he]
   rw[this];exact pW.i5.gP TO e
  repeat (first|simp (config:={maxSteps:=1000000}) only[aO,aT,aZ,a8,reduceAdd,reduceMul,reduceLeDiff,reduceEqDiff,bd,hlen,aal,aan,t2,t3,t16,e3,oW.i5.aH,lv,lu,fL,ix,iy,dx,dy,Hn,e5]|simp (config:={maxSteps:=1000000}) (disch:=first|(simp only[Z1,Z5,Z9]<;>omega)|rfl|omega|fail) only[dX,aO,aT,aZ,a8,reduceAdd,reduceMul,reduceLeDiff,reduceEqDiff,bd,hlen,aal,aan,t2,t3,t16,e3,oW.i5.aH,lv,lu,fL,ix,iy,dx,dy,Hn,e5])
  exact z139
 ·have e3:=eF hlt
  repeat (first|simp (config:={maxSteps:=1000000}) only[aO,aT,aZ,a8,reduceAdd,reduceMul,reduceLeDiff,reduceEqDiff,bd,hlen,aal,aan,t2,t3,t16,e3,oW.i5.aH,lv,fL]|simp (config:={maxSteps:=1000000}) (disch:=first|(simp only[Z1,Z5,Z9]<;>omega)|rfl|omega|fail) only[dX,aO,aT,aZ,a8,reduceAdd,reduceMul,reduceLeDiff,reduceEqDiff,bd,hlen,aal,aan,t2,t3,t16,e3,oW.i5.aH,lv,fL])
  rw[<-hR];unfold pK fn46;simp only[ai.j,ai.s,ai.r,ai.dr,ai.tl,ai.hd];refine Rs t2 ?_;exact⟨eh.trans eW,rfl⟩
def R6{W:ah}(eW:Ext K W)(hlen:ts.length=248)(t2:slot ts 2=.ptr b 0)(t3:slot ts 3=.ptr c 0):WC P bJ (pK 6) [] ts W (FQ [(4,none)] (JO h)):=by
 have hL:V.aF.length<=16:=by have:=w.l4;simpa [RV.an]using this
 have he:V.aF.map Prod.fst=U.aF.map Prod.fst:=aax dM.aF e;have hU:V.aF.length=U.aF.length:=by have:=aax List.length he;simpa using this
 rw[Oz];generalize hR:pK 7=R;unfold vH fn46;simp only[ai.j,ai.s,ai.r,ai.dr,ai.tl,ai.hd];refine Rs (A2 t2 t3) ?_;refine WL.inv T.mix (λm ts h'=>∃k:Nat,k<=V.aF.length/\m=V.aF.length-k/\Ext K h'/\ts.length=248/\slot ts 2=.ptr b 0/\slot ts 3=.ptr c 0/\slot ts 13=.int .i64 k) V.aF.length
  ⟨0,Om,rfl,eW,Sn,(Sq t2),(Sq t3),ga⟩ ?_
 clear t2 t3 hlen eW;rintro _ ts W ⟨k,hk,rfl,eW,hlen,t2,t3,t13⟩;have lv:=@dB _ _ _ (eW.some mv);have lu:=@dB _ _ _ (eW.some mu);have oW:=o.ext eW;have pW:=p.ext eW;by_cases hlt:k<V.aF.length
 ·have TO:k<U.aF.length:=Om
  have e3:=dN hlt;have e5:=wrapN (n:=k) Om;have ix:=oW.i4.c6 (kk:=.i64) hlt;have iy:=pW.i4.c6 (kk:=.i64) TO;obtain⟨x,hx⟩:∃x,x=V.aF[k]:=⟨_,rfl⟩;have dx:∀{k':ah},Ext W k'->ao (some 3) (cI V.s4 3 k) (λb=>k'[b]?)=some (.agg (bF x),.ar):=λ{k'} e=>by rw[hx];exact oW.i4.gP hlt e
  obtain⟨y,hy⟩:∃y,y=U.aF[k]:=⟨_,rfl⟩;have V9:y.1=x.1:=by rw[hx,hy];exact yC he hlt TO
  have dy:∀{k':ah},Ext W k'->ao (some 3) (cI U.s4 3 k) (λb=>k'[b]?)=some (.agg (bF y),.ar):=λ{k'} e=>by rw[hy];exact pW.i4.gP TO e
  have Ta:x∈V.aF:=by rw[hx];exact aad _
  have Ua:y∈U.aF:=by rw[hy];exact aad _
  have ox:=oW.e4 x Ta;have oy:=pW.e4 y Ua;rw[V9]at oy;have UB:=ox.one;have UA:=oy.one;have hin:x.1.bE.length<2^40:=by have:=(w.jb x.1 (aao Ta)).2.2.1;omega
  have n0:=ne_self x.1.name;have n1:=ne_self x.1.mod;have TM:bF y=[AV.str x.1.name,AV.str x.1.mod,y.2]:=by rw[<-V9];rfl
  rw[TM]at dy;have XC:bF x=[AV.str x.1.name,AV.str x.1.mod,x.2]:=rfl;rw[XC]at dx;clear TM XC
  repeat (first|simp (config:={maxSteps:=1000000}) only[aO,aT,aZ,a8,reduceAdd,reduceMul,reduceLeDiff,reduceEqDiff,bd,hlen,aal,aan,t2,t3,t13,e3,oW.i4.aH,lv,lu,fc,ix,iy,dx,dy,UB,UA,n0,n1]|simp (config:={maxSteps:=1000000}) (disch:=first|(simp only[Z1,Z5,Z9]<;>omega)|rfl|omega|fail) only[dX,aO,aT,aZ,a8,reduceAdd,reduceMul,reduceLeDiff,reduceEqDiff,bd,hlen,aal,aan,t2,t3,t13,e3,oW.i4.aH,lv,lu,fc,ix,iy,dx,dy,UB,UA,n0,n1])
  refine WF.ce T.c62 (r62 T (ox.ext Xx) (oy.ext Xx) hin hin) λg1=>?_
  refine Rs (A6 t2 t3 t13 @aaq @aar e5) ?_;exact NA
 ·have e3:=eF hlt
  repeat (first|simp (config:={maxSteps:=1000000}) only[aO,aT,aZ,a8,reduceAdd,reduceMul,reduceLeDiff,reduceEqDiff,bd,hlen,aal,aan,t2,t3,t13,e3,oW.i4.aH,lv,fc]|simp (config:={maxSteps:=1000000}) (disch:=first|(simp only[Z1,Z5,Z9]<;>omega)|rfl|omega|fail) only[dX,aO,aT,aZ,a8,reduceAdd,reduceMul,reduceLeDiff,reduceEqDiff,bd,hlen,aal,aan,t2,t3,t13,e3,oW.i4.aH,lv,fc])
  rw[<-hR];exact R5 T o p e w eh mv mu eW Sn (Sq t2) (Sq t3)
def R7{W:ah}(eW:Ext K W)(hlen:ts.length=248)(t2:slot ts 2=.ptr b 0)(t3:slot ts 3=.ptr c 0):WC P bJ (pK 5) [] ts W (FQ [(4,none)] (JO h)):=by
 have hL:V.aC.length<=32:=by have:=w.l3;simpa [RV.an]using this
 have he:V.aC.map Prod.fst=U.aC.map Prod.fst:=aax dM.aC e;have hU:V.aC.length=U.aC.length:=by have:=aax List.length he;simpa using this
 rw[OA];generalize hR:pK 6=R;unfold vH fn46;simp only[ai.j,ai.s,ai.r,ai.dr,ai.tl,ai.hd];refine Rs (A2 t2 t3) ?_;refine WL.inv T.mix (λm ts h'=>∃k:Nat,k<=V.aC.length/\m=V.aC.length-k/\Ext K h'/\ts.length=248/\slot ts 2=.ptr b 0/\slot ts 3=.ptr c 0/\slot ts 10=.int .i64 k) V.aC.length
  ⟨0,Om,rfl,eW,Sn,(Sq t2),(Sq t3),ga⟩ ?_
 clear t2 t3 hlen eW;rintro _ ts W ⟨k,hk,rfl,eW,hlen,t2,t3,t10⟩;have lv:=@dB _ _ _ (eW.some mv);have lu:=@dB _ _ _ (eW.some mu);have oW:=o.ext eW;have pW:=p.ext eW;by_cases hlt:k<V.aC.length
 ·have TO:k<U.aC.length:=Om
  have e3:=dN hlt;have e5:=wrapN (n:=k) Om;have ix:=oW.i3.c6 (kk:=.i64) hlt;have iy:=pW.i3.c6 (kk:=.i64) TO;obtain⟨x,hx⟩:∃x,x=V.aC[k]:=⟨_,rfl⟩;have dx:∀{k':ah},Ext W k'->ao (some 4) (cI V.s3 4 k) (λb=>k'[b]?)=some (.agg (aR x),.ar):=λ{k'} e=>by rw[hx];exact oW.i3.gP hlt e
  obtain⟨y,hy⟩:∃y,y=U.aC[k]:=⟨_,rfl⟩;have V9:y.1=x.1:=by rw[hx,hy];exact yC he hlt TO
  have dy:∀{k':ah},Ext W k'->ao (some 4) (cI U.s3 4 k) (λb=>k'[b]?)=some (.agg (aR y),.ar):=λ{k'} e=>by rw[hy];exact pW.i3.gP TO e
  have Ta:x∈V.aC:=by rw[hx];exact aad _
  have Ua:y∈U.aC:=by rw[hy];exact aad _
  have ox:=oW.e3 x Ta;have oy:=pW.e3 y Ua;rw[V9]at oy;have UB:=ox.one;have UA:=oy.one;have hin:x.1.bC.length<2^40:=by have:=(w.md x.1 (aao Ta)).2.1;omega
  have n0:=ne_self x.1.name;have n1:=ne_self x.1.gives;have n2:=ne_self x.1.line;have TM:aR y=[AV.str x.1.name,AV.str x.1.gives,AV.str x.1.line,y.2]:=by rw[<-V9];rfl
  rw[TM]at dy;have XC:aR x=[AV.str x.1.name,AV.str x.1.gives,AV.str x.1.line,x.2]:=rfl;rw[XC]at dx;clear TM XC
  repeat (first|simp (config:={maxSteps:=1000000}) only[aO,aT,aZ,a8,reduceAdd,reduceMul,reduceLeDiff,reduceEqDiff,bd,hlen,aal,aan,t2,t3,t10,e3,oW.i3.aH,lv,lu,eU,ix,iy,dx,dy,UB,UA,n0,n1,n2]|simp (config:={maxSteps:=1000000}) (disch:=first|(simp only[Z1,Z5,Z9]<;>omega)|rfl|omega|fail) only[dX,aO,aT,aZ,a8,reduceAdd,reduceMul,reduceLeDiff,reduceEqDiff,bd,hlen,aal,aan,t2,t3,t10,e3,oW.i3.aH,lv,lu,eU,ix,iy,dx,dy,UB,UA,n0,n1,n2])
  refine WF.ce T.c25 (r25 T (ox.ext Xx) (oy.ext Xx) hin hin) λg1=>?_
  refine Rs (A6 t2 t3 t10 @aaq @aar e5) ?_;exact NA
 ·have e3:=eF hlt
  repeat (first|simp (config:={maxSteps:=1000000}) only[aO,aT,aZ,a8,reduceAdd,reduceMul,reduceLeDiff,reduceEqDiff,bd,hlen,aal,aan,t2,t3,t10,e3,oW.i3.aH,lv,eU]|simp (config:={maxSteps:=1000000}) (disch:=first|(simp only[Z1,Z5,Z9]<;>omega)|rfl|omega|fail) only[dX,aO,aT,aZ,a8,reduceAdd,reduceMul,reduceLeDiff,reduceEqDiff,bd,hlen,aal,aan,t2,t3,t10,e3,oW.i3.aH,lv,eU])
  rw[<-hR];exact R6 T o p e w eh mv mu eW Sn (Sq t2) (Sq t3)
def R8{W:ah}(eW:Ext K W)(hlen:ts.length=248)(t2:slot ts 2=.ptr b 0)(t3:slot ts 3=.ptr c 0):WC P bJ (pK 4) [] ts W (FQ [(4,none)] (JO h)):=by
 have hL:V.aj.length<=64:=by have:=w.l2;simpa [RV.an]using this
 have he:V.aj.map Prod.fst=U.aj.map Prod.fst:=aax dM.aj e;have hU:V.aj.length=U.aj.length:=by have:=aax List.length he;simpa using this
 rw[OB];generalize hR:pK 5=R;unfold vH fn46;simp only[ai.j,ai.s,ai.r,ai.dr,ai.tl,ai.hd];refine Rs (A2 t2 t3) ?_;refine WL.inv T.mix (λm ts h'=>∃k:Nat,k<=V.aj.length/\m=V.aj.length-k/\Ext K h'/\ts.length=248/\slot ts 2=.ptr b 0/\slot ts 3=.ptr c 0/\slot ts 7=.int .i64 k) V.aj.length
  ⟨0,Om,rfl,eW,Sn,(Sq t2),(Sq t3),ga⟩ ?_
 clear t2 t3 hlen eW;rintro _ ts W ⟨k,hk,rfl,eW,hlen,t2,t3,t7⟩;have lv:=@dB _ _ _ (eW.some mv);have lu:=@dB _ _ _ (eW.some mu);have oW:=o.ext eW;have pW:=p.ext eW;by_cases hlt:k<V.aj.length
 ·have TO:k<U.aj.length:=Om
  have e3:=dN hlt;have e5:=wrapN (n:=k) Om;have ix:=oW.i2.c6 (kk:=.i64) hlt;have iy:=pW.i2.c6 (kk:=.i64) TO;obtain⟨x,hx⟩:∃x,x=V.aj[k]:=⟨_,rfl⟩;have dx:∀{k':ah},Ext W k'->ao (some 3) (cI V.s2 3 k) (λb=>k'[b]?)=some (.agg (aU x),.ar):=λ{k'} e=>by rw[hx];exact oW.i2.gP hlt e
  obtain⟨y,hy⟩:∃y,y=U.aj[k]:=⟨_,rfl⟩;have V9:y.1=x.1:=by rw[hx,hy];exact yC he hlt TO
  have dy:∀{k':ah},Ext W k'->ao (some 3) (cI U.s2 3 k) (λb=>k'[b]?)=some (.agg (aU y),.ar):=λ{k'} e=>by rw[hy];exact pW.i2.gP TO e
  have Ta:x∈V.aj:=by rw[hx];exact aad _
  have Ua:y∈U.aj:=by rw[hy];exact aad _
  have ox:=oW.e2 x Ta;have oy:=pW.e2 y Ua;rw[V9]at oy;have UB:=ox.one;have UA:=oy.one;have hin:x.1.aE.length<2^40:=by have:=(w.vj.sh x Ta).2;omega
  have n0:=ne_self x.1.name;have n1:=ne_self x.1.line;have TM:aU y=[AV.str x.1.name,AV.str x.1.line,y.2]:=by rw[<-V9];rfl
  rw[TM]at dy;have XC:aU x=[AV.str x.1.name,AV.str x.1.line,x.2]:=rfl;rw[XC]at dx;clear TM XC
  repeat (first|simp (config:={maxSteps:=1000000}) only[aO,aT,aZ,a8,reduceAdd,reduceMul,reduceLeDiff,reduceEqDiff,bd,hlen,aal,aan,t2,t3,t7,e3,oW.i2.aH,lv,lu,dC,ix,iy,dx,dy,UB,UA,n0,n1]|simp (config:={maxSteps:=1000000}) (disch:=first|(simp only[Z1,Z5,Z9]<;>omega)|rfl|omega|fail) only[dX,aO,aT,aZ,a8,reduceAdd,reduceMul,reduceLeDiff,reduceEqDiff,bd,hlen,aal,aan,t2,t3,t7,e3,oW.i2.aH,lv,lu,dC,ix,iy,dx,dy,UB,UA,n0,n1])
  refine WF.ce T.c25 (r25 T (ox.ext Xx) (oy.ext Xx) hin hin) λg1=>?_
  refine Rs (A6 t2 t3 t7 @aaq @aar e5) ?_;exact NA
 ·have e3:=eF hlt
  repeat (first|simp (config:={maxSteps:=1000000}) only[aO,aT,aZ,a8,reduceAdd,reduceMul,reduceLeDiff,reduceEqDiff,bd,hlen,aal,aan,t2,t3,t7,e3,oW.i2.aH,lv,dC]|simp (config:={maxSteps:=1000000}) (disch:=first|(simp only[Z1,Z5,Z9]<;>omega)|rfl|omega|fail) only[dX,aO,aT,aZ,a8,reduceAdd,reduceMul,reduceLeDiff,reduceEqDiff,bd,hlen,aal,aan,t2,t3,t7,e3,oW.i2.aH,lv,dC])
  rw[<-hR];exact R7 T o p e w eh mv mu eW Sn (Sq t2) (Sq t3)
def R9{W:ah}(eW:Ext K W)(hlen:ts.length=248)(t2:slot ts 2=.ptr b 0)(t3:slot ts 3=.ptr c 0):WC P bJ (pK 3) [] ts W (FQ [(4,none)] (JO h)):=by
 have hL:V.aE.length<=16:=by have:=w.l1;simpa [RV.an]using this
 have he:V.aE=U.aE:=aax dM.aE e;have hU:V.aE.length=U.aE.length:=aax List.length he;rw[OC];generalize hR:pK 4=R;unfold vH fn46;simp only[ai.j,ai.s,ai.r,ai.dr,ai.tl,ai.hd];refine Rs (A2 t2 t3) ?_;refine WL.inv T.mix (λm ts h'=>∃k:Nat,k<=V.aE.length/\m=V.aE.length-k/\Ext K h'/\ts.length=248/\slot ts 2=.ptr b 0/\slot ts 3=.ptr c 0/\slot ts 6=.int .i64 k) V.aE.length
  ⟨0,Om,rfl,eW,Sn,(Sq t2),(Sq t3),ga⟩ ?_
 clear t2 t3 hlen eW;rintro _ ts W ⟨k,hk,rfl,eW,hlen,t2,t3,t6⟩;have lv:=@dB _ _ _ (eW.some mv);have lu:=@dB _ _ _ (eW.some mu);have oW:=o.ext eW;have pW:=p.ext eW;by_cases hlt:k<V.aE.length
 ·have TO:k<U.aE.length:=Om
  have e3:=dN hlt;have e5:=wrapN (n:=k) Om;have ix:=oW.i1.c6 (kk:=.i64) hlt;have iy:=pW.i1.c6 (kk:=.i64) TO;obtain⟨x,hx⟩:∃x,x=V.aE[k]:=⟨_,rfl⟩;have dx:∀{k':ah},Ext W k'->ao (some 2) (cI V.s1 2 k) (λb=>k'[b]?)=some (.agg (cB x),.ar):=λ{k'} e=>by rw[hx];exact oW.i1.gP hlt e
  have dy:∀{k':ah},Ext W k'->ao (some 2) (cI U.s1 2 k) (λb=>k'[b]?)=some (.agg (cB x),.ar):=λ{k'} e=>by
   have:x=U.aE[k]:=by rw[hx];simp only[he]
   rw[this];exact pW.i1.gP TO e
  repeat (first|simp (config:={maxSteps:=1000000}) only[aO,aT,aZ,a8,reduceAdd,reduceMul,reduceLeDiff,reduceEqDiff,bd,hlen,aal,aan,t2,t3,t6,e3,oW.i1.aH,lv,lu,gR,ix,iy,dx,dy,Hl,e5]|simp (config:={maxSteps:=1000000}) (disch:=first|(simp only[Z1,Z5,Z9]<;>omega)|rfl|omega|fail) only[dX,aO,aT,aZ,a8,reduceAdd,reduceMul,reduceLeDiff,reduceEqDiff,bd,hlen,aal,aan,t2,t3,t6,e3,oW.i1.aH,lv,lu,gR,ix,iy,dx,dy,Hl,e5])
  exact z139
 ·have e3:=eF hlt
  repeat (first|simp (config:={maxSteps:=1000000}) only[aO,aT,aZ,a8,reduceAdd,reduceMul,reduceLeDiff,reduceEqDiff,bd,hlen,aal,aan,t2,t3,t6,e3,oW.i1.aH,lv,gR]|simp (config:={maxSteps:=1000000}) (disch:=first|(simp only[Z1,Z5,Z9]<;>omega)|rfl|omega|fail) only[dX,aO,aT,aZ,a8,reduceAdd,reduceMul,reduceLeDiff,reduceEqDiff,bd,hlen,aal,aan,t2,t3,t6,e3,oW.i1.aH,lv,gR])
  rw[<-hR];exact R8 T o p e w eh mv mu eW Sn (Sq t2) (Sq t3)
def Sa{W:ah}(eW:Ext K W)(hlen:ts.length=248)(t2:slot ts 2=.ptr b 0)(t3:slot ts 3=.ptr c 0):WC P bJ (pK 2) [] ts W (FQ [(4,none)] (JO h)):=by
 have hL:V.lines.length<=16:=by have:=w.l0;simpa [RV.an]using this
 have he:V.lines=U.lines:=aax dM.lines e;have hU:V.lines.length=U.lines.length:=aax List.length he;rw[OD];generalize hR:pK 3=R;unfold vH fn46;simp only[ai.j,ai.s,ai.r,ai.dr,ai.tl,ai.hd];refine Rs (A2 t2 t3) ?_;refine WL.inv T.mix (λm ts h'=>∃k:Nat,k<=V.lines.length/\m=V.lines.length-k/\Ext K h'/\ts.length=248/\slot ts 2=.ptr b 0/\slot ts 3=.ptr c 0/\slot ts 5=.int .i64 k) V.lines.length
  ⟨0,Om,rfl,eW,Sn,(Sq t2),(Sq t3),ga⟩ ?_
 clear t2 t3 hlen eW;rintro _ ts W ⟨k,hk,rfl,eW,hlen,t2,t3,t5⟩;have lv:=@dB _ _ _ (eW.some mv);have lu:=@dB _ _ _ (eW.some mu);have oW:=o.ext eW;have pW:=p.ext eW;by_cases hlt:k<V.lines.length
 ·have TO:k<U.lines.length:=Om
  have e3:=dN hlt;have e5:=wrapN (n:=k) Om;have ix:=oW.i0.c6 (kk:=.i64) hlt;have iy:=pW.i0.c6 (kk:=.i64) TO;obtain⟨x,hx⟩:∃x,x=V.lines[k]:=⟨_,rfl⟩;have dx:∀{k':ah},Ext W k'->ao (some 3) (cI V.s0 3 k) (λb=>k'[b]?)=some (.agg (bw x),.ar):=λ{k'} e=>by rw[hx];exact oW.i0.gP hlt e
  have dy:∀{k':ah},Ext W k'->ao (some 3) (cI U.s0 3 k) (λb=>k'[b]?)=some (.agg (bw x),.ar):=λ{k'} e=>by
   have:x=U.lines[k]:=by rw[hx];simp only[he]
   rw[this];exact pW.i0.gP TO e
  repeat (first|simp (config:={maxSteps:=1000000}) only[aO,aT,aZ,a8,reduceAdd,reduceMul,reduceLeDiff,reduceEqDiff,bd,hlen,aal,aan,t2,t3,t5,e3,oW.i0.aH,lv,lu,eJ,ix,iy,dx,dy,Dh,e5]|simp (config:={maxSteps:=1000000}) (disch:=first|(simp only[Z1,Z5,Z9]<;>omega)|rfl|omega|fail) only[dX,aO,aT,aZ,a8,reduceAdd,reduceMul,reduceLeDiff,reduceEqDiff,bd,hlen,aal,aan,t2,t3,t5,e3,oW.i0.aH,lv,lu,eJ,ix,iy,dx,dy,Dh,e5])
  exact z139
 ·have e3:=eF hlt
  repeat (first|simp (config:={maxSteps:=1000000}) only[aO,aT,aZ,a8,reduceAdd,reduceMul,reduceLeDiff,reduceEqDiff,bd,hlen,aal,aan,t2,t3,t5,e3,oW.i0.aH,lv,eJ]|simp (config:={maxSteps:=1000000}) (disch:=first|(simp only[Z1,Z5,Z9]<;>omega)|rfl|omega|fail) only[dX,aO,aT,aZ,a8,reduceAdd,reduceMul,reduceLeDiff,reduceEqDiff,bd,hlen,aal,aan,t2,t3,t5,e3,oW.i0.aH,lv,eJ])
  rw[<-hR];exact R9 T o p e w eh mv mu eW Sn (Sq t2) (Sq t3)
end
section
variable {P:Program}(T:fq P) {h:ah}
include T
def r46{V U:RV}(o:aB h V)(p:aB h U)(e:V.an=U.an)(w:eS V.an):ay P 46 [.agg V.row,.agg U.row] h (λv _=>v=.bool true):=by
 refine .of T.mix (acv T.c46 (aax some OE)) ?_;obtain⟨ts,SH⟩:∃ts,ts=aW 248 [.agg V.row,.agg U.row]:=⟨_,rfl⟩;have hlen:ts.length=248:=by rw[SH];rfl
 have t0:slot ts 0=.agg V.row:=by rw[SH];rfl
 have t1:slot ts 1=.agg U.row:=by rw[SH];rfl
 show WC P bJ (.seq (vH 0) (.seq (vH 1) (pK 2))) [] (aW 248 [.agg V.row,.agg U.row]) h (FQ [(4,none)] (JO h));rw[<-SH];clear SH;have hv:=@aB.box _ _ o;have hu:=@aB.box _ _ p;generalize hR:pK 2=R;unfold vH fn46;simp only[ai.j,ai.s,ai.r,ai.dr,ai.tl,ai.hd];obtain⟨K,hK⟩:∃K,K=h++[ak.cells V.row true false]++[.cells U.row true false]:=⟨_,rfl⟩;have mv:K[h.length]? =some (.cells V.row true false):=by rw[hK];exact qa
 have mu:K[h.length+1]? =some (.cells U.row true false):=by rw[hK];simp
 have eK:Ext h K:=by rw[hK];exact Xx
 have lv:=@dB _ _ _ mv;have lu:=@dB _ _ _ mu;have et:U.tick=V.tick:=aax dM.tick e.symm;have q0:U.lines.length=V.lines.length:=aax List.length (aax dM.lines e.symm);have q1:U.aE.length=V.aE.length:=aax List.length (aax dM.aE e.symm);have q2:U.aj.length=V.aj.length:=by have:=aax List.length (aax dM.aj e.symm);simpa [RV.an]using this
 have q3:U.aC.length=V.aC.length:=by have:=aax List.length (aax dM.aC e.symm);simpa [RV.an]using this
 have q4:U.aF.length=V.aF.length:=by have:=aax List.length (aax dM.aF e.symm);simpa [RV.an]using this
 have q5:U.aJ.length=V.aJ.length:=aax List.length (aax dM.aJ e.symm);refine Rs (A4 t0 t1 @hv @hu) ?_;rw[<-hK];have e0:=ne_self V.tick;have hx1:(h++[ak.cells V.row true false]).length=h.length+1:=Si
 have e1:=@ne_self Int _
 repeat (first|simp (config:={maxSteps:=1000000}) only[aO,aT,aZ,a8,reduceAdd,reduceMul,reduceLeDiff,reduceEqDiff,bd,hlen,aal,aan,t0,t1,lv,lu,mZ,eJ,gR,dC,eU,fc,fL,hx1,et,e0,e1,o.i0.aH,o.i1.aH,o.i2.aH,o.i3.aH,o.i4.aH,o.i5.aH,p.i0.aH,p.i1.aH,p.i2.aH,p.i3.aH,p.i4.aH,p.i5.aH,q0,q1,q2,q3,q4,q5]|simp (config:={maxSteps:=1000000}) (disch:=first|(simp only[Z1,Z5,Z9]<;>omega)|rfl|omega|fail) only[dX,aO,aT,aZ,a8,reduceAdd,reduceMul,reduceLeDiff,reduceEqDiff,bd,hlen,aal,aan,t0,t1,lv,lu,mZ,eJ,gR,dC,eU,fc,fL,hx1,et,e0,e1,o.i0.aH,o.i1.aH,o.i2.aH,o.i3.aH,o.i4.aH,o.i5.aH,p.i0.aH,p.i1.aH,p.i2.aH,p.i3.aH,p.i4.aH,p.i5.aH,q0,q1,q2,q3,q4,q5])
 rw[<-hR];exact Sa T (o.ext eK) (p.ext eK) e w eK mv mu (Ext.refl K) Sn Sw (Sq @hx1)
end
def oD(k:Nat):ai:=(fn47).body.dr k
def vQ(k:Nat):ai:=((fn47).body.dr k).hd
def OX:oD 2=.seq (vQ 2) (oD 3):=rfl
def OW:oD 3=.seq (vQ 3) (oD 4):=rfl
def OV:oD 4=.seq (vQ 4) (oD 5):=rfl
def OU:oD 5=.seq (vQ 5) (oD 6):=rfl
def OT:oD 6=.seq (vQ 6) (oD 7):=rfl
def OS:oD 7=.seq (vQ 7) (oD 8):=rfl
def OY:fn47=⟨104,1,[(2,some (some 7))],.seq (vQ 0) (.seq (vQ 1) (oD 2))⟩:=rfl
structure vp(h:ah)(r:List AV)(t:Int)(W:ah)(Ss:List AV)(Fs:List (Nat×List (List AV))):Prop where
 ex:Ext h W
 b1:W[h.length]? =some (.cells r true false)
 b2:W[h.length+1]? =some (.cells ki true false)
 b3:W[h.length+2]? =some (.cells (.int .i64 t::Ss) true false)
 fr:∀(i:Nat) u es cs,Ss[i]? =some u->Fs[i]? =some (es,cs)->Fr h.length W u es cs
 lo:∀(i:Nat) u b,Ss[i]? =some u->sB u=some b->h.length+3<=b/\b<W.length
 di:∀(i j:Nat) u v b,i≠j->Ss[i]? =some u->Ss[j]? =some v->sB u=some b->sB v≠some b
 ln:Ss.length=6
def vp.lt{h r t W Ss Fs}(s:vp h r t W Ss Fs):h.length+3<=W.length:=(Z2.1 s.b3).1
def vp.next{h r t W W1 Ss Fs}(s:vp h r t W Ss Fs)(e:Ext W W1){f es:Nat}{cs:List (List AV)}{z:List AV}{u s':AV}{g':ah}{n:Nat}(hu:Ss[f]? =some u)(hF:Fs[f]? =some (es,cs))(hs:s' =.slice W1.length 0 n es)
  (hl:(h++g').length=W1.length+1) (hff:Fr h.length (h++g') s' es (cs++[z])) (hkp:∀b,b<W1.length->(∀b0 o n e,u=.slice b0 o n e->b≠b0)->(h++g')[b]? =W1[b]?):
  vp h r t ((h++g').set (h.length+2) (.cells (.int .i64 t::Ss.set f s') true false)) (Ss.set f s') (Fs.set f (es,cs++[z])):=by
 have l3:=s.lt;have le:=e.len;have Tg:=(Z2.1 hu).1;have hFl:=(Z2.1 hF).1;obtain⟨W2,Te⟩:∃W2,W2=h++g':=⟨_,rfl⟩;have ex2:Ext h W2:=by rw[Te];exact⟨g',rfl⟩
 rw[<-Te]at hl hff hkp ⊢;obtain⟨X,hX⟩:∃X,X=ak.cells (.int .i64 t::Ss.set f s') true false:=⟨_,rfl⟩;rw[<-hX];have k2:∀b,b<W1.length->sB u≠some b->W2[b]? =W1[b]? :=λb hb hn=>hkp b hb λb0 o n e he z=>hn (by rw[he,z];rfl)
 have g3:∀i,i≠h.length+2->(W2.set (h.length+2) X)[i]? =W2[i]? :=λi hi=>aaj (abo hi)
 have ar:∀b,b<W.length->sB u≠some b->b≠h.length+2->(W2.set (h.length+2) X)[b]? =W[b]? :=λb hb h1 h2=>by rw[g3 b h2,k2 b Om h1,e.get hb]
 have ulo:∀b,sB u=some b->h.length+3<=b:=λb hb=>(s.lo f u b hu hb).1
 have hsb:sB s' =some W1.length:=by rw[hs];rfl
 refine⟨ex2.iJ Om,?_,?_,?_,λi v es' cs' h1 h2=>?_,λi v b h1 h2=>?_,λi j v v' b hij h1 h2 h3 h4=>?_,by rw[aaL];exact s.ln⟩
 ·rw[ar _ Om (λz=>by have:=ulo _ z;omega) Om];exact s.b1
 ·rw[ar _ Om (λz=>by have:=ulo _ z;omega) Om];exact s.b2
 ·rw[aak Om,hX]
 ·by_cases hi:i=f
  ·subst hi;rw[aak Tg]at h1;rw[aak hFl]at h2;cases h1;cases h2;exact hff.aD λb hb=>g3 b (by rw[hsb]at hb;cases hb;omega)
  ·rw[aaj (abo hi)]at h1 h2;exact(s.fr i v es' cs' h1 h2).aD λb hb=>by
    have:=s.lo i v b h1 hb;exact ar b this.2 (s.di i f v u b hi h1 hu hb) Om
 ·rw[aaL];by_cases hi:i=f
  ·subst hi;rw[aak Tg]at h1;cases h1;rw[hsb]at h2;cases h2;omega
  ·rw[aaj (abo hi)]at h1;have:=s.lo i v b h1 h2;omega
 ·by_cases hi:i=f
  ·subst hi;rw[aak Tg]at h1;rw[aaj hij]at h2;cases h1;rw[hsb]at h3;cases h3;have:=s.lo j v' _ h2 h4;omega
  ·rw[aaj (abo hi)]at h1;by_cases hj:j=f
   ·subst hj;rw[aak Tg]at h2;cases h2;rw[hsb]at h4;cases h4;have:=s.lo i v _ h1 h3;omega
   ·rw[aaj (abo hj)]at h2;exact s.di i j v v' b hij h1 h2 h3 h4
def Hw(h:ah)(V:RV):AV->ah->Prop:=λv h'=>Ext h h'/\∃V':RV,V'.an=V.an/\v=.agg V'.row/\aB h' V'
def pO{α β:Type}{l:List α}{f:α->β}{k:Nat}(h:k<l.length):(l.map f).take (k+1)=(l.map f).take k++[f l[k]]:=by
 rw[aaO,aa7,Z6 h];rfl
def pP{α β:Type}{l:List α}{f:α->β}{k:Nat}(h:¬k<l.length):(l.map f).take k=l.map f:=aaM (by rw[aaa];omega)
section
variable {P:Program}(T:fq P) {h W:ah}{ts:TS}{V:RV}{Ss:List AV}(o:aB h V) (w:eS V.an)
include T o
theorem Sb(s:vp h V.row V.tick W Ss [(3,V.lines.map bw),(2,V.aE.map cB),(3,V.aj.map aU),(4,V.aC.map aR),(3,V.aF.map bF),(4,V.aJ.map cD)])(hlen:ts.length=104)(t2:slot ts 2=.ptr (h.length+1) 0)(t3:slot ts 3=.ptr (h.length+2) 0):
  WC P bJ (oD 8) [] ts W (FQ [(2,some (some 7))] (Hw h V)):=by
 have hS:∃s0 s1 s2 s3 s4 s5,Ss=[s0,s1,s2,s3,s4,s5]:=by
  have:=s.ln
  match Ss,this with
  |[a,b,c,d,e,f],_=>exact⟨a,b,c,d,e,f,rfl⟩
 obtain⟨s0,s1,s2,s3,s4,s5,rfl⟩:=hS;have f0:=(s.fr 0 _ _ _ rfl rfl).aY;have f1:=(s.fr 1 _ _ _ rfl rfl).aY;have f2:=(s.fr 2 _ _ _ rfl rfl).aY;have f3:=(s.fr 3 _ _ _ rfl rfl).aY;have f4:=(s.fr 4 _ _ _ rfl rfl).aY;have f5:=(s.fr 5 _ _ _ rfl rfl).aY;obtain⟨V',hV⟩:∃V':RV,V' ={V with s0:=s0,s1:=s1,s2:=s2,s3:=s3,s4:=s4,s5:=s5}:=⟨_,rfl⟩;have hr:AV.int .i64 V.tick:: [s0,s1,s2,s3,s4,s5]=V'.row:=by rw[hV];rfl
 have Wr:=s.b3;rw[hr]at Wr;have oW:=o.ext s.ex;have oV:aB W V':=by rw[hV];exact⟨f0,f1,f2,f3,f4,f5,oW.e2,oW.e3,oW.e4⟩
 have lb:=@dB _ _ _ Wr;have sb:=@aK 7 (h.length+1) 0 (.agg V'.row) (λz=>W[z]?) _ s.b2;have st:=@aB.st _ _ oV;unfold ki at sb;rw[st]at sb;have hl:=(Z2.1 s.b2).1;have gm:(W.set (h.length+1) (.cells V'.row true false))[h.length+1]? =some (.cells V'.row true false):=aak hl;unfold oD fn47 gA;simp only[ai.j,ai.s,ai.r,ai.dr,ai.tl,ai.hd]
 repeat (first|simp (config:={maxSteps:=1000000}) only[aO,aT,aZ,a8,reduceAdd,reduceMul,reduceLeDiff,reduceEqDiff,bd,hlen,aal,aan,t2,t3,lb,sb,aG,aA gm]|simp (config:={maxSteps:=1000000}) (disch:=first|(simp only[Z1,Z5,Z9]<;>omega)|rfl|omega|fail) only[dX,aO,aT,aZ,a8,reduceAdd,reduceMul,reduceLeDiff,reduceEqDiff,bd,hlen,aal,aan,t2,t3,lb,sb,aG,aA gm])
 refine⟨s.ex.iJ Om,V',by rw[hV];rfl,rfl,?_⟩;have kp:∀(i:Nat) (u:AV) (es:Nat) (cs:List (List AV)),[s0,s1,s2,s3,s4,s5][i]? =some u->[(3,V.lines.map bw),(2,V.aE.map cB),(3,V.aj.map aU),(4,V.aC.map aR),(3,V.aF.map bF),(4,V.aJ.map cD)][i]? =some (es,cs)->aI (W.set (h.length+1) (.cells V'.row true false)) u es cs:=λi u es cs h1 h2=>
  ((s.fr i u es cs h1 h2).aD λb hb=>aaj (by have:=(s.lo i u b h1 hb).1;omega)).aY
 have oZ:=o.ext (s.ex.iJ (X:=.cells V'.row true false) (b:=h.length+1) Om);rw[hV]at kp oZ ⊢;exact⟨kp 0 _ _ _ rfl rfl,kp 1 _ _ _ rfl rfl,kp 2 _ _ _ rfl rfl,kp 3 _ _ _ rfl rfl,kp 4 _ _ _ rfl rfl,kp 5 _ _ _ rfl rfl,oZ.e2,oZ.e3,oZ.e4⟩
include w
def Sc(s:vp h V.row V.tick W Ss [(3,V.lines.map bw),(2,V.aE.map cB),(3,V.aj.map aU),(4,V.aC.map aR),(3,V.aF.map bF),(4,(V.aJ.map cD).take 0)])(hlen:ts.length=104)(t1:slot ts 1=.ptr h.length 0)(t2:slot ts 2=.ptr (h.length+1) 0)(t3:slot ts 3=.ptr (h.length+2) 0):
  WC P bJ (oD 7) [] ts W (FQ [(2,some (some 7))] (Hw h V)):=by
 have hL:V.aJ.length<=16:=by have:=w.l5;simpa [RV.an]using this
 rw[OS];generalize hR:oD 8=R;unfold vQ fn47 gA;simp only[ai.j,ai.s,ai.r,ai.dr,ai.tl,ai.hd];have lb:=@dB _ _ _ s.b1;have oW:=o.ext s.ex;refine Rs (A6 t1 t2 t3 @lb @fL oW.i5.aH) ?_;refine WL.inv T.mix (λm ts h'=>∃(k:Nat) (Ss:List AV),k<=V.aJ.length/\m=V.aJ.length-k/\vp h V.row V.tick h' Ss [(3,V.lines.map bw),(2,V.aE.map cB),(3,V.aj.map aU),(4,V.aC.map aR),(3,V.aF.map bF),(4,(V.aJ.map cD).take k)]/\ts.length=104/\slot ts 1=.ptr h.length 0/\slot ts 2=.ptr (h.length+1) 0/\slot ts 3=.ptr (h.length+2) 0/\slot ts 90=V.s5/\slot ts 91=.int .i64 V.aJ.length/\slot ts 92=.int .i64 k) V.aJ.length
  ⟨0,Ss,Om,rfl,s,Sn,(Sq t1),(Sq t2),(Sq t3),Sw,Sw,ga⟩ ?_
 clear t1 t2 t3 hlen s lb oW;rintro _ ts W ⟨k,Ss,hk,rfl,s,hlen,t1,t2,t3,t90,t91,t92⟩;have oW:=o.ext s.ex;by_cases hlt:k<V.aJ.length
 ·have e3:=dN hlt;have e5:=wrapN (n:=k) Om;have ix:=oW.i5.c6 (kk:=.i64) hlt;obtain⟨x,hx⟩:∃x,x=V.aJ[k]:=⟨_,rfl⟩;have Ta:x∈V.aJ:=by rw[hx];exact aad _
  have ld:∀{k':ah},Ext W k'->ao (some 4) (cI V.s5 4 k) (λb=>k'[b]?)=some (.agg (cD x),.ar):=λ{k'} e=>by rw[hx];exact oW.i5.gP hlt e
  unfold cD at ld;have Xc:=s.ln;obtain⟨u,hu⟩:∃u,Ss[5]? =some u:=⟨_,Z6 Om⟩;have hr:(AV.int .i64 V.tick::Ss)[6]? =some u:=hu;have lr:=@dB _ _ _ s.b3;refine Rs (lI t1 t2 t3 t90 t91 t92 e3 ix @ld @lr @hr) ?_;obtain⟨z,hz⟩:∃z:List AV,z=cD x:=⟨_,rfl⟩;have TH:[AV.str x.name,AV.str x.Bt,AV.int .i64 x.mi,AV.bool x.rel]=z:=hz.symm;rw[TH];have Ue:Ext W (W++[ak.cells z true false]++[.cells z true true]):=Xx;have UM:aI (W++[ak.cells z true false]++[.cells z true true]) (AV.slice (W++[ak.cells z true false]).length 0 1 4) 4 [z]:=by
   exact z51
  have hfr:=s.fr 5 u _ _ hu rfl;refine WR.fg (h0:=h) (cs:=(V.aJ.map cD).take k) (ys:=[z]) (hfr.ext Ue) UM De Si (by simp only[aaQ,aaa,Z5,Z9];omega) (s.ex.trans Ue) ?_;intro g' SP hff hkp;obtain⟨s',SI⟩:∃s',s' =AV.slice (W++[ak.cells z true false]++[ak.cells z true true]).length 0 ((V.aJ.map cD).take k++[z]).length 4:=⟨_,rfl⟩;rw[<-SI]at hff;rw[<-SI];have nx:=s.next Ue hu rfl SI SP hff hkp;have q1:s'.one=true:=by rw[SI];rfl
  have hub:sB u≠some (h.length+2):=λz=>by have:=(s.lo 5 u _ hu z).1;omega
  have mB:(h++g')[h.length+2]? =some (.cells (.int .i64 V.tick::Ss) true false):=by
   exact JR
  have Tp:aX 1 (.ptr (h.length+2) 6) s' (λz=>(h++g')[z]?)=some (az,.set (h.length+2) (.cells (.int .i64 V.tick::Ss.set 5 s') true false)):=(aK mB).trans (bP q1 (by rw[Z5,Xc];decide));obtain⟨W5,T3⟩:∃W5,W5=h++g':=⟨_,rfl⟩;rw[<-T3]at Tp nx ⊢;refine Rs (A9 t1 t2 t3 t90 t91 t92 @Tp q1 e5) ?_;refine⟨_,Om,k+1,Ss.set 5 s',Om,rfl,?_,rfl⟩;have:(V.aJ.map cD).take (k+1)=(V.aJ.map cD).take k++[z]:=by rw[pO hlt,hz,hx]
  rw[this];exact nx
 ·have e3:=eF hlt;rw[pP hlt]at s;refine Rs (A7 t1 t2 t3 t90 t91 t92 e3) ?_;rw[<-hR];exact Sb T o s Sn (Sq t2) (Sq t3)
def Sd(s:vp h V.row V.tick W Ss [(3,V.lines.map bw),(2,V.aE.map cB),(3,V.aj.map aU),(4,V.aC.map aR),(3,(V.aF.map bF).take 0),(4,[])])(hlen:ts.length=104)(t1:slot ts 1=.ptr h.length 0)(t2:slot ts 2=.ptr (h.length+1) 0)(t3:slot ts 3=.ptr (h.length+2) 0):
  WC P bJ (oD 6) [] ts W (FQ [(2,some (some 7))] (Hw h V)):=by
 have hL:V.aF.length<=16:=by have:=w.l4;simpa [RV.an]using this
 rw[OT];generalize hR:oD 7=R;unfold vQ fn47 gA;simp only[ai.j,ai.s,ai.r,ai.dr,ai.tl,ai.hd];have lb:=@dB _ _ _ s.b1;have oW:=o.ext s.ex;refine Rs (A6 t1 t2 t3 @lb @fc oW.i4.aH) ?_;refine WL.inv T.mix (λm ts h'=>∃(k:Nat) (Ss:List AV),k<=V.aF.length/\m=V.aF.length-k/\vp h V.row V.tick h' Ss [(3,V.lines.map bw),(2,V.aE.map cB),(3,V.aj.map aU),(4,V.aC.map aR),(3,(V.aF.map bF).take k),(4,[])]/\ts.length=104/\slot ts 1=.ptr h.length 0/\slot ts 2=.ptr (h.length+1) 0/\slot ts 3=.ptr (h.length+2) 0/\slot ts 76=V.s4/\slot ts 77=.int .i64 V.aF.length/\slot ts 78=.int .i64 k) V.aF.length
  ⟨0,Ss,Om,rfl,s,Sn,(Sq t1),(Sq t2),(Sq t3),Sw,Sw,ga⟩ ?_
 clear t1 t2 t3 hlen s lb oW;rintro _ ts W ⟨k,Ss,hk,rfl,s,hlen,t1,t2,t3,t76,t77,t78⟩;have oW:=o.ext s.ex;by_cases hlt:k<V.aF.length
 ·have e3:=dN hlt;have e5:=wrapN (n:=k) Om;have ix:=oW.i4.c6 (kk:=.i64) hlt;obtain⟨x,hx⟩:∃x,x=V.aF[k]:=⟨_,rfl⟩;have Ta:x∈V.aF:=by rw[hx];exact aad _
  have ld:∀{k':ah},Ext W k'->ao (some 3) (cI V.s4 3 k) (λb=>k'[b]?)=some (.agg (bF x),.ar):=λ{k'} e=>by rw[hx];exact oW.i4.gP hlt e
  have UB:=(oW.e4 x Ta).one;unfold bF at ld;have Xc:=s.ln;obtain⟨u,hu⟩:∃u,Ss[4]? =some u:=⟨_,Z6 Om⟩;have hr:(AV.int .i64 V.tick::Ss)[5]? =some u:=hu;have lr:=@dB _ _ _ s.b3;refine Rs (nT t1 t2 t3 t76 t77 t78 e3 ix @ld @lr @hr @UB) ?_;obtain⟨z,hz⟩:∃z:List AV,z=bF x:=⟨_,rfl⟩;have TH:[AV.str x.1.name,AV.str x.1.mod,x.2]=z:=hz.symm;rw[TH];have Ue:Ext W (W++[ak.cells z true false]++[.cells z true true]):=Xx;have UM:aI (W++[ak.cells z true false]++[.cells z true true]) (AV.slice (W++[ak.cells z true false]).length 0 1 3) 3 [z]:=by
   exact z24
  have hfr:=s.fr 4 u _ _ hu rfl;refine WR.fg (h0:=h) (cs:=(V.aF.map bF).take k) (ys:=[z]) (hfr.ext Ue) UM De Si (by simp only[aaQ,aaa,Z5,Z9];omega) (s.ex.trans Ue) ?_;intro g' SP hff hkp;obtain⟨s',SI⟩:∃s',s' =AV.slice (W++[ak.cells z true false]++[ak.cells z true true]).length 0 ((V.aF.map bF).take k++[z]).length 3:=⟨_,rfl⟩;rw[<-SI]at hff;rw[<-SI];have nx:=s.next Ue hu rfl SI SP hff hkp;have q1:s'.one=true:=by rw[SI];rfl
  have hub:sB u≠some (h.length+2):=λz=>by have:=(s.lo 4 u _ hu z).1;omega
  have mB:(h++g')[h.length+2]? =some (.cells (.int .i64 V.tick::Ss) true false):=by
   exact JR
  have Tp:aX 1 (.ptr (h.length+2) 5) s' (λz=>(h++g')[z]?)=some (az,.set (h.length+2) (.cells (.int .i64 V.tick::Ss.set 4 s') true false)):=(aK mB).trans (bP q1 (by rw[Z5,Xc];decide));obtain⟨W5,T3⟩:∃W5,W5=h++g':=⟨_,rfl⟩;rw[<-T3]at Tp nx ⊢;refine Rs (A9 t1 t2 t3 t76 t77 t78 @Tp q1 e5) ?_;refine⟨_,Om,k+1,Ss.set 4 s',Om,rfl,?_,rfl⟩;have:(V.aF.map bF).take (k+1)=(V.aF.map bF).take k++[z]:=by rw[pO hlt,hz,hx]
  rw[this];exact nx
 ·have e3:=eF hlt;rw[pP hlt]at s;refine Rs (A7 t1 t2 t3 t76 t77 t78 e3) ?_;rw[<-hR];exact Sc T o w s Sn (Sq t1) (Sq t2) (Sq t3)
def Se(s:vp h V.row V.tick W Ss [(3,V.lines.map bw),(2,V.aE.map cB),(3,V.aj.map aU),(4,(V.aC.map aR).take 0),(3,[]),(4,[])])(hlen:ts.length=104)(t1:slot ts 1=.ptr h.length 0)(t2:slot ts 2=.ptr (h.length+1) 0)(t3:slot ts 3=.ptr (h.length+2) 0):
  WC P bJ (oD 5) [] ts W (FQ [(2,some (some 7))] (Hw h V)):=by
 have hL:V.aC.length<=32:=by have:=w.l3;simpa [RV.an]using this
 rw[OU];generalize hR:oD 6=R;unfold vQ fn47 gA;simp only[ai.j,ai.s,ai.r,ai.dr,ai.tl,ai.hd];have lb:=@dB _ _ _ s.b1;have oW:=o.ext s.ex;refine Rs (A6 t1 t2 t3 @lb @eU oW.i3.aH) ?_;refine WL.inv T.mix (λm ts h'=>∃(k:Nat) (Ss:List AV),k<=V.aC.length/\m=V.aC.length-k/\vp h V.row V.tick h' Ss [(3,V.lines.map bw),(2,V.aE.map cB),(3,V.aj.map aU),(4,(V.aC.map aR).take k),(3,[]),(4,[])]/\ts.length=104/\slot ts 1=.ptr h.length 0/\slot ts 2=.ptr (h.length+1) 0/\slot ts 3=.ptr (h.length+2) 0/\slot ts 62=V.s3/\slot ts 63=.int .i64 V.aC.length/\slot ts 64=.int .i64 k) V.aC.length
  ⟨0,Ss,Om,rfl,s,Sn,(Sq t1),(Sq t2),(Sq t3),Sw,Sw,ga⟩ ?_
 clear t1 t2 t3 hlen s lb oW;rintro _ ts W ⟨k,Ss,hk,rfl,s,hlen,t1,t2,t3,t62,t63,t64⟩;have oW:=o.ext s.ex;by_cases hlt:k<V.aC.length
 ·have e3:=dN hlt;have e5:=wrapN (n:=k) Om;have ix:=oW.i3.c6 (kk:=.i64) hlt;obtain⟨x,hx⟩:∃x,x=V.aC[k]:=⟨_,rfl⟩;have Ta:x∈V.aC:=by rw[hx];exact aad _
  have ld:∀{k':ah},Ext W k'->ao (some 4) (cI V.s3 4 k) (λb=>k'[b]?)=some (.agg (aR x),.ar):=λ{k'} e=>by rw[hx];exact oW.i3.gP hlt e
  have UB:=(oW.e3 x Ta).one;unfold aR at ld;have Xc:=s.ln;obtain⟨u,hu⟩:∃u,Ss[3]? =some u:=⟨_,Z6 Om⟩;have hr:(AV.int .i64 V.tick::Ss)[4]? =some u:=hu;have lr:=@dB _ _ _ s.b3;refine Rs (nT t1 t2 t3 t62 t63 t64 e3 ix @ld @lr @hr @UB) ?_;obtain⟨z,hz⟩:∃z:List AV,z=aR x:=⟨_,rfl⟩;have TH:[AV.str x.1.name,AV.str x.1.gives,AV.str x.1.line,x.2]=z:=hz.symm;rw[TH];have Ue:Ext W (W++[ak.cells z true false]++[.cells z true true]):=Xx;have UM:aI (W++[ak.cells z true false]++[.cells z true true]) (AV.slice (W++[ak.cells z true false]).length 0 1 4) 4 [z]:=by
   exact z51
  have hfr:=s.fr 3 u _ _ hu rfl;refine WR.fg (h0:=h) (cs:=(V.aC.map aR).take k) (ys:=[z]) (hfr.ext Ue) UM De Si (by simp only[aaQ,aaa,Z5,Z9];omega) (s.ex.trans Ue) ?_;intro g' SP hff hkp;obtain⟨s',SI⟩:∃s',s' =AV.slice (W++[ak.cells z true false]++[ak.cells z true true]).length 0 ((V.aC.map aR).take k++[z]).length 4:=⟨_,rfl⟩;rw[<-SI]at hff;rw[<-SI];have nx:=s.next Ue hu rfl SI SP hff hkp;have q1:s'.one=true:=by rw[SI];rfl
  have hub:sB u≠some (h.length+2):=λz=>by have:=(s.lo 3 u _ hu z).1;omega
  have mB:(h++g')[h.length+2]? =some (.cells (.int .i64 V.tick::Ss) true false):=by
   exact JR
  have Tp:aX 1 (.ptr (h.length+2) 4) s' (λz=>(h++g')[z]?)=some (az,.set (h.length+2) (.cells (.int .i64 V.tick::Ss.set 3 s') true false)):=(aK mB).trans (bP q1 (by rw[Z5,Xc];decide));obtain⟨W5,T3⟩:∃W5,W5=h++g':=⟨_,rfl⟩;rw[<-T3]at Tp nx ⊢;refine Rs (A9 t1 t2 t3 t62 t63 t64 @Tp q1 e5) ?_;refine⟨_,Om,k+1,Ss.set 3 s',Om,rfl,?_,rfl⟩;have:(V.aC.map aR).take (k+1)=(V.aC.map aR).take k++[z]:=by rw[pO hlt,hz,hx]
  rw[this];exact nx
 ·have e3:=eF hlt;rw[pP hlt]at s;refine Rs (A7 t1 t2 t3 t62 t63 t64 e3) ?_;rw[<-hR];exact Sd T o w s Sn (Sq t1) (Sq t2) (Sq t3)
def Sf(s:vp h V.row V.tick W Ss [(3,V.lines.map bw),(2,V.aE.map cB),(3,(V.aj.map aU).take 0),(4,[]),(3,[]),(4,[])])(hlen:ts.length=104)(t1:slot ts 1=.ptr h.length 0)(t2:slot ts 2=.ptr (h.length+1) 0)(t3:slot ts 3=.ptr (h.length+2) 0):
  WC P bJ (oD 4) [] ts W (FQ [(2,some (some 7))] (Hw h V)):=by
 have hL:V.aj.length<=64:=by have:=w.l2;simpa [RV.an]using this
 rw[OV];generalize hR:oD 5=R;unfold vQ fn47 gA;simp only[ai.j,ai.s,ai.r,ai.dr,ai.tl,ai.hd];have lb:=@dB _ _ _ s.b1;have oW:=o.ext s.ex;refine Rs (A6 t1 t2 t3 @lb @dC oW.i2.aH) ?_;refine WL.inv T.mix (λm ts h'=>∃(k:Nat) (Ss:List AV),k<=V.aj.length/\m=V.aj.length-k/\vp h V.row V.tick h' Ss [(3,V.lines.map bw),(2,V.aE.map cB),(3,(V.aj.map aU).take k),(4,[]),(3,[]),(4,[])]/\ts.length=104/\slot ts 1=.ptr h.length 0/\slot ts 2=.ptr (h.length+1) 0/\slot ts 3=.ptr (h.length+2) 0/\slot ts 48=V.s2/\slot ts 49=.int .i64 V.aj.length/\slot ts 50=.int .i64 k) V.aj.length
  ⟨0,Ss,Om,rfl,s,Sn,(Sq t1),(Sq t2),(Sq t3),Sw,Sw,ga⟩ ?_
 clear t1 t2 t3 hlen s lb oW;rintro _ ts W ⟨k,Ss,hk,rfl,s,hlen,t1,t2,t3,t48,t49,t50⟩;have oW:=o.ext s.ex;by_cases hlt:k<V.aj.length
 ·have e3:=dN hlt;have e5:=wrapN (n:=k) Om;have ix:=oW.i2.c6 (kk:=.i64) hlt;obtain⟨x,hx⟩:∃x,x=V.aj[k]:=⟨_,rfl⟩;have Ta:x∈V.aj:=by rw[hx];exact aad _
  have ld:∀{k':ah},Ext W k'->ao (some 3) (cI V.s2 3 k) (λb=>k'[b]?)=some (.agg (aU x),.ar):=λ{k'} e=>by rw[hx];exact oW.i2.gP hlt e
  have UB:=(oW.e2 x Ta).one;unfold aU at ld;have Xc:=s.ln;obtain⟨u,hu⟩:∃u,Ss[2]? =some u:=⟨_,Z6 Om⟩;have hr:(AV.int .i64 V.tick::Ss)[3]? =some u:=hu;have lr:=@dB _ _ _ s.b3;refine Rs (nT t1 t2 t3 t48 t49 t50 e3 ix @ld @lr @hr @UB) ?_;obtain⟨z,hz⟩:∃z:List AV,z=aU x:=⟨_,rfl⟩;have TH:[AV.str x.1.name,AV.str x.1.line,x.2]=z:=hz.symm;rw[TH];have Ue:Ext W (W++[ak.cells z true false]++[.cells z true true]):=Xx;have UM:aI (W++[ak.cells z true false]++[.cells z true true]) (AV.slice (W++[ak.cells z true false]).length 0 1 3) 3 [z]:=by
   exact z24
  have hfr:=s.fr 2 u _ _ hu rfl;refine WR.fg (h0:=h) (cs:=(V.aj.map aU).take k) (ys:=[z]) (hfr.ext Ue) UM De Si (by simp only[aaQ,aaa,Z5,Z9];omega) (s.ex.trans Ue) ?_;intro g' SP hff hkp;obtain⟨s',SI⟩:∃s',s' =AV.slice (W++[ak.cells z true false]++[ak.cells z true true]).length 0 ((V.aj.map aU).take k++[z]).length 3:=⟨_,rfl⟩;rw[<-SI]at hff;rw[<-SI];have nx:=s.next Ue hu rfl SI SP hff hkp;have q1:s'.one=true:=by rw[SI];rfl
  have hub:sB u≠some (h.length+2):=λz=>by have:=(s.lo 2 u _ hu z).1;omega
  have mB:(h++g')[h.length+2]? =some (.cells (.int .i64 V.tick::Ss) true false):=by
   exact JR
  have Tp:aX 1 (.ptr (h.length+2) 3) s' (λz=>(h++g')[z]?)=some (az,.set (h.length+2) (.cells (.int .i64 V.tick::Ss.set 2 s') true false)):=(aK mB).trans (bP q1 (by rw[Z5,Xc];decide));obtain⟨W5,T3⟩:∃W5,W5=h++g':=⟨_,rfl⟩;rw[<-T3]at Tp nx ⊢;refine Rs (A9 t1 t2 t3 t48 t49 t50 @Tp q1 e5) ?_;refine⟨_,Om,k+1,Ss.set 2 s',Om,rfl,?_,rfl⟩;have:(V.aj.map aU).take (k+1)=(V.aj.map aU).take k++[z]:=by rw[pO hlt,hz,hx]
  rw[this];exact nx
 ·have e3:=eF hlt;rw[pP hlt]at s;refine Rs (A7 t1 t2 t3 t48 t49 t50 e3) ?_;rw[<-hR];exact Se T o w s Sn (Sq t1) (Sq t2) (Sq t3)
def Sg(s:vp h V.row V.tick W Ss [(3,V.lines.map bw),(2,(V.aE.map cB).take 0),(3,[]),(4,[]),(3,[]),(4,[])])(hlen:ts.length=104)(t1:slot ts 1=.ptr h.length 0)(t2:slot ts 2=.ptr (h.length+1) 0)(t3:slot ts 3=.ptr (h.length+2) 0):
  WC P bJ (oD 3) [] ts W (FQ [(2,some (some 7))] (Hw h V)):=by
 have hL:V.aE.length<=16:=by have:=w.l1;simpa [RV.an]using this
 rw[OW];generalize hR:oD 4=R;unfold vQ fn47 gA;simp only[ai.j,ai.s,ai.r,ai.dr,ai.tl,ai.hd];have lb:=@dB _ _ _ s.b1;have oW:=o.ext s.ex;refine Rs (A6 t1 t2 t3 @lb @gR oW.i1.aH) ?_;refine WL.inv T.mix (λm ts h'=>∃(k:Nat) (Ss:List AV),k<=V.aE.length/\m=V.aE.length-k/\vp h V.row V.tick h' Ss [(3,V.lines.map bw),(2,(V.aE.map cB).take k),(3,[]),(4,[]),(3,[]),(4,[])]/\ts.length=104/\slot ts 1=.ptr h.length 0/\slot ts 2=.ptr (h.length+1) 0/\slot ts 3=.ptr (h.length+2) 0/\slot ts 34=V.s1/\slot ts 35=.int .i64 V.aE.length/\slot ts 36=.int .i64 k) V.aE.length
  ⟨0,Ss,Om,rfl,s,Sn,(Sq t1),(Sq t2),(Sq t3),Sw,Sw,ga⟩ ?_
 clear t1 t2 t3 hlen s lb oW;rintro _ ts W ⟨k,Ss,hk,rfl,s,hlen,t1,t2,t3,t34,t35,t36⟩;have oW:=o.ext s.ex;by_cases hlt:k<V.aE.length
 ·have e3:=dN hlt;have e5:=wrapN (n:=k) Om;have ix:=oW.i1.c6 (kk:=.i64) hlt;obtain⟨x,hx⟩:∃x,x=V.aE[k]:=⟨_,rfl⟩;have Ta:x∈V.aE:=by rw[hx];exact aad _
  have ld:∀{k':ah},Ext W k'->ao (some 2) (cI V.s1 2 k) (λb=>k'[b]?)=some (.agg (cB x),.ar):=λ{k'} e=>by rw[hx];exact oW.i1.gP hlt e
  unfold cB at ld;have Xc:=s.ln;obtain⟨u,hu⟩:∃u,Ss[1]? =some u:=⟨_,Z6 Om⟩;have hr:(AV.int .i64 V.tick::Ss)[2]? =some u:=hu;have lr:=@dB _ _ _ s.b3;refine Rs (lI t1 t2 t3 t34 t35 t36 e3 ix @ld @lr @hr) ?_;obtain⟨z,hz⟩:∃z:List AV,z=cB x:=⟨_,rfl⟩;have TH:[AV.str x.name,AV.int .i64 x.last]=z:=hz.symm;rw[TH];have Ue:Ext W (W++[ak.cells z true false]++[.cells z true true]):=Xx;have UM:aI (W++[ak.cells z true false]++[.cells z true true]) (AV.slice (W++[ak.cells z true false]).length 0 1 2) 2 [z]:=by
   have:=(Fr.push (N:=0) (es:=2) (h:=W++[ak.cells z true false]) (aaC _) [z] (λx hx=>by rw[aam]at hx;rw[hx,hz];rfl)).aY
   simpa only[aa5,abW,aaw,Z5,Z9,aaP]using this
  have hfr:=s.fr 1 u _ _ hu rfl;refine WR.fg (h0:=h) (cs:=(V.aE.map cB).take k) (ys:=[z]) (hfr.ext Ue) UM De Si (by simp only[aaQ,aaa,Z5,Z9];omega) (s.ex.trans Ue) ?_;intro g' SP hff hkp;obtain⟨s',SI⟩:∃s',s' =AV.slice (W++[ak.cells z true false]++[ak.cells z true true]).length 0 ((V.aE.map cB).take k++[z]).length 2:=⟨_,rfl⟩;rw[<-SI]at hff;rw[<-SI];have nx:=s.next Ue hu rfl SI SP hff hkp;have q1:s'.one=true:=by rw[SI];rfl
  have hub:sB u≠some (h.length+2):=λz=>by have:=(s.lo 1 u _ hu z).1;omega
  have mB:(h++g')[h.length+2]? =some (.cells (.int .i64 V.tick::Ss) true false):=by
   exact JR
  have Tp:aX 1 (.ptr (h.length+2) 2) s' (λz=>(h++g')[z]?)=some (az,.set (h.length+2) (.cells (.int .i64 V.tick::Ss.set 1 s') true false)):=(aK mB).trans (bP q1 (by rw[Z5,Xc];decide));obtain⟨W5,T3⟩:∃W5,W5=h++g':=⟨_,rfl⟩;rw[<-T3]at Tp nx ⊢;refine Rs (A9 t1 t2 t3 t34 t35 t36 @Tp q1 e5) ?_;refine⟨_,Om,k+1,Ss.set 1 s',Om,rfl,?_,rfl⟩;have:(V.aE.map cB).take (k+1)=(V.aE.map cB).take k++[z]:=by rw[pO hlt,hz,hx]
  rw[this];exact nx
 ·have e3:=eF hlt;rw[pP hlt]at s;refine Rs (A7 t1 t2 t3 t34 t35 t36 e3) ?_;rw[<-hR];exact Sf T o w s Sn (Sq t1) (Sq t2) (Sq t3)
def Sh(s:vp h V.row V.tick W Ss [(3,(V.lines.map bw).take 0),(2,[]),(3,[]),(4,[]),(3,[]),(4,[])])(hlen:ts.length=104)(t1:slot ts 1=.ptr h.length 0)(t2:slot ts 2=.ptr (h.length+1) 0)(t3:slot ts 3=.ptr (h.length+2) 0):
  WC P bJ (oD 2) [] ts W (FQ [(2,some (some 7))] (Hw h V)):=by
 have hL:V.lines.length<=16:=by have:=w.l0;simpa [RV.an]using this
 rw[OX];generalize hR:oD 3=R;unfold vQ fn47 gA;simp only[ai.j,ai.s,ai.r,ai.dr,ai.tl,ai.hd];have lb:=@dB _ _ _ s.b1;have oW:=o.ext s.ex;refine Rs (A6 t1 t2 t3 @lb @eJ oW.i0.aH) ?_;refine WL.inv T.mix (λm ts h'=>∃(k:Nat) (Ss:List AV),k<=V.lines.length/\m=V.lines.length-k/\vp h V.row V.tick h' Ss [(3,(V.lines.map bw).take k),(2,[]),(3,[]),(4,[]),(3,[]),(4,[])]/\ts.length=104/\slot ts 1=.ptr h.length 0/\slot ts 2=.ptr (h.length+1) 0/\slot ts 3=.ptr (h.length+2) 0/\slot ts 20=V.s0/\slot ts 21=.int .i64 V.lines.length/\slot ts 22=.int .i64 k) V.lines.length
  ⟨0,Ss,Om,rfl,s,Sn,(Sq t1),(Sq t2),(Sq t3),Sw,Sw,ga⟩ ?_
 clear t1 t2 t3 hlen s lb oW;rintro _ ts W ⟨k,Ss,hk,rfl,s,hlen,t1,t2,t3,t20,t21,t22⟩;have oW:=o.ext s.ex;by_cases hlt:k<V.lines.length
 ·have e3:=dN hlt;have e5:=wrapN (n:=k) Om;have ix:=oW.i0.c6 (kk:=.i64) hlt;obtain⟨x,hx⟩:∃x,x=V.lines[k]:=⟨_,rfl⟩;have Ta:x∈V.lines:=by rw[hx];exact aad _
  have ld:∀{k':ah},Ext W k'->ao (some 3) (cI V.s0 3 k) (λb=>k'[b]?)=some (.agg (bw x),.ar):=λ{k'} e=>by rw[hx];exact oW.i0.gP hlt e
  unfold bw at ld;have Xc:=s.ln;obtain⟨u,hu⟩:∃u,Ss[0]? =some u:=⟨_,Z6 Om⟩;have hr:(AV.int .i64 V.tick::Ss)[1]? =some u:=hu;have lr:=@dB _ _ _ s.b3;refine Rs (lI t1 t2 t3 t20 t21 t22 e3 ix @ld @lr @hr) ?_;obtain⟨z,hz⟩:∃z:List AV,z=bw x:=⟨_,rfl⟩;have TH:[AV.str x.name,AV.int .i64 x.want,AV.bool x.acc]=z:=hz.symm;rw[TH];have Ue:Ext W (W++[ak.cells z true false]++[.cells z true true]):=Xx;have UM:aI (W++[ak.cells z true false]++[.cells z true true]) (AV.slice (W++[ak.cells z true false]).length 0 1 3) 3 [z]:=by
   exact z24
  have hfr:=s.fr 0 u _ _ hu rfl;refine WR.fg (h0:=h) (cs:=(V.lines.map bw).take k) (ys:=[z]) (hfr.ext Ue) UM De Si (by simp only[aaQ,aaa,Z5,Z9];omega) (s.ex.trans Ue) ?_;intro g' SP hff hkp;obtain⟨s',SI⟩:∃s',s' =AV.slice (W++[ak.cells z true false]++[ak.cells z true true]).length 0 ((V.lines.map bw).take k++[z]).length 3:=⟨_,rfl⟩;rw[<-SI]at hff;rw[<-SI];have nx:=s.next Ue hu rfl SI SP hff hkp;have q1:s'.one=true:=by rw[SI];rfl
  have hub:sB u≠some (h.length+2):=λz=>by have:=(s.lo 0 u _ hu z).1;omega
  have mB:(h++g')[h.length+2]? =some (.cells (.int .i64 V.tick::Ss) true false):=by
   exact JR
  have Tp:aX 1 (.ptr (h.length+2) 1) s' (λz=>(h++g')[z]?)=some (az,.set (h.length+2) (.cells (.int .i64 V.tick::Ss.set 0 s') true false)):=(aK mB).trans (bP q1 (by rw[Z5,Xc];decide));obtain⟨W5,T3⟩:∃W5,W5=h++g':=⟨_,rfl⟩;rw[<-T3]at Tp nx ⊢;refine Rs (A9 t1 t2 t3 t20 t21 t22 @Tp q1 e5) ?_;refine⟨_,Om,k+1,Ss.set 0 s',Om,rfl,?_,rfl⟩;have:(V.lines.map bw).take (k+1)=(V.lines.map bw).take k++[z]:=by rw[pO hlt,hz,hx]
  rw[this];exact nx
 ·have e3:=eF hlt;rw[pP hlt]at s;refine Rs (A7 t1 t2 t3 t20 t21 t22 e3) ?_;rw[<-hR];exact Sg T o w s Sn (Sq t1) (Sq t2) (Sq t3)
end
section
variable {P:Program}(T:fq P) {h:ah}
include T
def r47{V:RV}(o:aB h V)(w:eS V.an):ay P 47 [.agg V.row] h (λv h'=>∃V':RV,V'.an=V.an/\v=.agg V'.row/\aB h' V'):=by
 refine .of T.mix (acv T.c47 (aax some OY)) ?_;obtain⟨ts,SH⟩:∃ts,ts=aW 104 [.agg V.row]:=⟨_,rfl⟩;have hlen:ts.length=104:=by rw[SH];rfl
 have t0:slot ts 0=.agg V.row:=by rw[SH];rfl
 show WC P bJ (.seq (vQ 0) (.seq (vQ 1) (oD 2))) [] (aW 104 [.agg V.row]) h (FQ [(2,some (some 7))] (Hw h V));rw[<-SH];clear SH;have hv:=@aB.box _ _ o;generalize hR:oD 2=R;unfold vQ fn47 gA;simp only[ai.j,ai.s,ai.r,ai.dr,ai.tl,ai.hd];obtain⟨K,hK⟩:∃K,K=h++[ak.cells V.row true false]++[.cells ki true false]:=⟨_,rfl⟩;have m1:K[h.length]? =some (.cells V.row true false):=by rw[hK];exact qa
 have m2:K[h.length+1]? =some (.cells ki true false):=by rw[hK];simp
 have hKl:K.length=h.length+2:=by rw[hK];simp
 have eK:Ext h K:=by rw[hK];exact Xx
 have lv:=@dB _ _ _ m1;refine Rs (A2 t0 @hv) ?_;have hK':h++[ak.cells V.row true false]++[.cells [.int .i64 0,.af,.af,.af,.af,.af,.af] true false]=K:=hK.symm;rw[hK']
 repeat (first|simp (config:={maxSteps:=1000000}) only[aO,aT,aZ,a8,reduceAdd,reduceMul,reduceLeDiff,reduceEqDiff,bd,hlen,aal,aan,t0,lv,mZ]|simp (config:={maxSteps:=1000000}) (disch:=first|(simp only[Z1,Z5,Z9]<;>omega)|rfl|omega|fail) only[dX,aO,aT,aZ,a8,reduceAdd,reduceMul,reduceLeDiff,reduceEqDiff,bd,hlen,aal,aan,t0,lv,mZ])
 rw[<-hR];have b3:(K++[ak.cells (.int .i64 V.tick:: [.af,.af,.af,.af,.af,.af]) true false])[h.length+2]? =some (.cells (.int .i64 V.tick:: [.af,.af,.af,.af,.af,.af]) true false):=by rw[<-hKl];exact ba
 have hn:∀(i:Nat) (u:AV),[AV.af,.af,.af,.af,.af,.af][i]? =some u->u=.af:=λi u hu=>by
  have:=aaW hu
  simpa using this
 have hf:∀(i es:Nat) (cs:List (List AV)),[(3,[]),(2,[]),(3,[]),(4,[]),(3,[]),(4,([] :List (List AV)))][i]? =some (es,cs)->cs=[]:=λi es cs hu=>by
  have:=aaW hu;simp at this;rcases this with h|h|h|h|h|h<;>exact h.2
 refine Sh T o w (Ss:=[.af,.af,.af,.af,.af,.af]) ⟨eK.trans Xx,(show Ext K _ from Xx).some m1,(show Ext K _ from Xx).some m2,b3,λi u es cs h1 h2=>?_,λi u b h1 h2=>?_,λi j u v b hij h1 h2 h3=>?_,rfl⟩ Sn Sw (by simp only[aO,aT,aZ,a8,reduceAdd,reduceMul,reduceLeDiff,reduceEqDiff,bd,hlen,aal,aan];simp) (Sq @hKl)
 ·rw[hn i u h1,hf i es cs (by simpa using h2)];exact .nil
 ·rw[hn i u h1]at h2;cases h2
 ·rw[hn i u h1]at h3;cases h3
end
def zL{e:cY}{d:Kd}(w:j8 e d):eA e=0:=by
 have h1:∀n∈e.names,¬(!eE n)=true:=λn hn=>by simp[w.nm n hn]
 have h2:∀v∈e.cw,¬decide (bj v 0 999999999≠0)=true:=λv hv=>by
  have:=w.vr v hv;have e:bj v 0 999999999=0:=by unfold bj;rw[aab Om]
  simp[e]
 have h0:=w.nu;unfold eA;rw[aab (by rw[bj,aab Om];decide),w.kd];simp only;rw[aab (by rw[w.nl,w.vl];simp),aab (by rw[abx];rintro⟨x,hx,h⟩;exact h1 x hx h),aab (by rw[abx];rintro⟨x,hx,h⟩;exact h2 x hx h),aab (by rw[w.tx];simp)]
def Is{R:dM}{e:cY}{d:Kd}(h:sU R e d):ka d R e=0:=by
 have a:∀(l:List (Nat×Bool)) (i:Nat),(∀j t,l[j]? =some (t,true)->aL e (i+j)∈GH R t)->lO R e l i=false:=by
  intro l
  induction l with
  |nil=>intros;rfl
  |cons r l ih=>
   intro i h;rw[lO,ih (i+1) λj t hj=>by have:=h (j+1) t (by simpa using hj);rwa [Nat.add_assoc,acn 1 j]];obtain⟨t,b⟩:=r;cases b with
   |false=>rfl
   |true=>have:=h 0 t Si;simp only[ab8]at this;simp[dD,this]
 have b:∀(l:List (Nat×Bool)) (i:Nat),(∀j t,l[j]? =some (t,false)->aL e (i+j)∉GH R t)->pN R e l i=false:=by
  intro l
  induction l with
  |nil=>intros;rfl
  |cons r l ih=>
   intro i h;rw[pN,ih (i+1) λj t hj=>by have:=h (j+1) t (by simpa using hj);rwa [Nat.add_assoc,acn 1 j]];obtain⟨t,b⟩:=r;cases b with
   |true=>rfl
   |false=>have:=h 0 t Si;simp only[ab8]at this;simp[dD,this]
 unfold ka;rw[a _ 0 λj t hj=>by rw[aaP];exact h.kn j t hj,b _ 0 λj t hj=>by rw[aaP];exact h.fr j t hj];rfl
structure yU(n:By)(R A:dM):Prop where
 tk:A.tick<=R.tick
 ln:A.lines=R.lines.filter λx=>decide (x.name=n)
 tp:A.aE=R.aE
 sh:A.aj=R.aj.filter λx=>decide (x.line=n)
 md:A.aC=R.aC.filter λx=>decide (x.line=n)
theorem yU.zero{n:By}:yU n dM.zero dM.zero:=⟨Int.le_refl _,rfl,rfl,rfl,rfl⟩
section
variable {n:By}{R A:dM}(s:yU n R A) (w:eS R) {e:cY}{d:Kd}
include s
theorem yU.tJ:tJ A n=Go.Abs.tJ R n:=by
 unfold Go.Abs.tJ;rw[s.sh,List.filter_filter];simp
def yU.read(t:Int)(m:By):gT A t m=gT R t m:=by unfold gT jI;rw[s.tp]
def yU.safe(x:jc)(t:Int):eD A x t=eD R x t:=by
 unfold eD;have:gT A t=gT R t:=funext λm=>s.read t m
 rw[this]
def yU.mem:n∈eP A↔n∈eP R:=by
 unfold eP;rw[s.ln];simp only[aaA,aa6,aaK];exact⟨λ⟨x,⟨h1,_⟩,h2⟩=>⟨x,h1,h2⟩,λ⟨x,h1,h2⟩=>⟨x,⟨h1,h2⟩,h2⟩⟩
include w
def yU.line(h:n∈eP R):cC A n=cC R n:=by
 have h1:cC R n∈R.lines:=hP h;have h2:(cC R n).name=n:=fB h;have h3:cC R n∈A.lines:=by rw[s.ln,aa6];exact⟨h1,Z8 h2⟩
 have h4:(A.lines.map gN.name).Nodup:=by rw[s.ln];exact(List.Sublist.map _ List.filter_sublist).nodup w.n0.nd
 have:=qX (d:=Az) h4 h3;rw[h2]at this;exact this
end
def kU{α:Type}(p:α->Bool)(l:List α):(l.filter p).length<=l.length:=aaF ..
def yU.step{n:By}{R A:dM}(s:yU n R A)(w:eS R)(hn:n≠[]){e:cY}{d:Kd}(we:j8 e d)(hd:d≠.dR)(h:fD R e d=0):
  (fH n e=true->fD A e d=0/\yU n (fQ R e d) (fQ A e d))/\(fH n e=false->yU n (fQ R e d) A):=by
 have ht:=xA h;obtain⟨h1,h2⟩:=Fo h;have k:=wg h1;have hk:=we.gx;have ta:¬bI e 0<A.tick:=by have:=s.tk;omega
 have key:sU A e d->bz A e d=0->fD A e d=0:=λa b=>by rw[fD,aab ta,Is a,aab (λz=>z rfl),b]
 have tk:(fQ A e d).tick<=(fQ R e d).tick:=Int.le_refl _;have Xv:A.tick<=(fQ R e d).tick:=Int.le_trans s.tk ht;have sf:∀x t,eD A x t=eD R x t:=s.safe;have l0:A.lines.length<=R.lines.length:=by rw[s.ln];exact kU ..
 have l2:A.aj.length<=R.aj.length:=by rw[s.sh];exact kU ..
 have l3:A.aC.length<=R.aC.length:=by rw[s.md];exact kU ..
 have tpA:iQ A=iQ R:=by unfold iQ;rw[s.tp]
 have lnA:∀m,m∉eP R->m∉eP A:=λm hm z=>hm (by
  obtain⟨x,hx,rfl⟩:=aaA.1 z;rw[s.ln]at hx;exact aao (aa6.1 hx).1)
 have shA:∀m,m∉kj R->m∉kj A:=λm hm z=>hm (by
  obtain⟨x,hx,rfl⟩:=aaA.1 z;rw[s.sh]at hx;exact aao (aa6.1 hx).1)
 have mdA:∀m,m∉iC R->m∉iC A:=λm hm z=>hm (by
  obtain⟨x,hx,rfl⟩:=aaA.1 z;rw[s.md]at hx;exact aao (aa6.1 hx).1)
 unfold fH;rw[hk];cases d with
 |dR=>exact absurd rfl hd
 |line=>
  simp only[wE,aaK,abl];have f0:aL e 0∉eP R:=k.fr 0 0 rfl;simp only[bz]at h2;split at h2
  ·cases h2
  rename_i r1;split at h2
  ·cases h2
  rename_i r2;refine⟨λhm=>⟨key ⟨λi t hi=>?_,λi t hi=>?_⟩ ?_,⟨tk,?_,s.tp,s.sh,s.md⟩⟩,λhm=>⟨Xv,?_,s.tp,s.sh,s.md⟩⟩
  ·match i,hi with
   | 0,hi=>cases hi
  ·match i,hi with
   | 0,hi=>cases hi;exact lnA _ f0
  ·simp only[bz];rw[aab r1,aab Om]
  ·show A.lines++_=(R.lines++_).filter _;rw[aaZ,s.ln];simp[hm]
  ·show A.lines=(R.lines++_).filter _;rw[aaZ,s.ln];simp[hm]
 |tape=>
  have f0:aL e 0∉iQ R:=k.fr 0 1 rfl;refine⟨λ_=>⟨key ⟨λi t hi=>?_,λi t hi=>?_⟩ ?_,⟨tk,s.ln,?_,s.sh,s.md⟩⟩,λhm=>(by cases hm)⟩
  ·match i,hi with
   | 0,hi=>cases hi
  ·match i,hi with
   | 0,hi=>cases hi;show aL e 0∉iQ A;rw[tpA];exact f0
  ·simp only[bz]at h2 ⊢;rw[s.tp];exact h2
  ·show A.aE++_=R.aE++_;rw[s.tp]
 |gK=>
  simp only[wE,aaK,abl];have f0:aL e 0∉kj R:=k.fr 0 2 rfl;have f1:aL e 1∈eP R:=k.kn 1 0 rfl;have f2:aL e 2∈iQ R:=k.kn 2 1 rfl;simp only[bz]at h2;split at h2
  ·cases h2
  rename_i r1;split at h2
  ·cases h2
  rename_i r2;split at h2
  ·cases h2
  rename_i r3;refine⟨λhm=>⟨key ⟨λi t hi=>?_,λi t hi=>?_⟩ ?_,⟨tk,s.ln,s.tp,?_,s.md⟩⟩,λhm=>⟨Xv,s.ln,s.tp,?_,s.md⟩⟩
  ·match i,hi with
   | 0,hi=>cases hi
   | 1,hi=>cases hi;show aL e 1∈eP A;rw[hm];exact s.mem.2 (hm▸f1)
   | 2,hi=>cases hi;show aL e 2∈iQ A;rw[tpA];exact f2
  ·match i,hi with
   | 0,hi=>cases hi;exact shA _ f0
   | 1,hi=>cases hi
   | 2,hi=>cases hi
  ·have h5:cC A (aL e 1)=cC R (aL e 1):=by rw[hm];exact s.line w (hm▸f1)
   simp only[bz];rw[h5,aab r1,s.read,aab r2,aab Om]
  ·show A.aj++_=(R.aj++_).filter _;rw[aaZ,s.sh];simp[hm]
  ·show A.aj=(R.aj++_).filter _;rw[aaZ,s.sh];simp[hm]
 |copy=>
  have f0:aL e 0∈iQ R:=k.kn 0 1 rfl;have f1:aL e 1∈iQ R:=k.kn 1 1 rfl;refine⟨λ_=>⟨key ⟨λi t hi=>?_,λi t hi=>?_⟩ ?_,⟨tk,s.ln,s.tp,?_,s.md⟩⟩,λhm=>(by cases hm)⟩
  ·match i,hi with
   | 0,hi=>cases hi;show aL e 0∈iQ A;rw[tpA];exact f0
   | 1,hi=>cases hi;show aL e 1∈iQ A;rw[tpA];exact f1
  ·match i,hi with
   | 0,hi=>cases hi
   | 1,hi=>cases hi
  ·simp only[bz]at h2 ⊢;rw[s.read,s.read];exact h2
  ·show A.aj.map _=(R.aj.map _).filter _;rw[abA,s.sh];congr 1;refine List.filter_congr λx _=>?_
   show _=decide ((jS _ _ x).line=n);have:(jS (aL e 0) (aL e 1) x).line=x.line:=by unfold jS;split<;>rfl
   rw[this]
 |accept=>
  simp only[wE,aaK,abl];have f0:aL e 0∈eP R:=k.kn 0 0 rfl;have em:∀y:gN,y.name=aL e 0->∀i,i=bn (eP R) (aL e 0)->(R.lines.set i y).filter (λx=>decide (x.name=n))=if aL e 0=n then [y]else R.lines.filter λx=>decide (x.name=n):=by
   intro y hy i hi;have hi':i<R.lines.length:=by rw[hi];have:=cN f0;simpa [eP]using this
   have hg:(R.lines[i]).name=aL e 0:=by
    have:=oG f0;subst hi
    simpa [eP]using this
   have e1:=List.set_eq_take_append_cons_drop (l:=R.lines) (i:=i) (a:=y);rw[aai hi']at e1;have e2:R.lines=R.lines.take i++R.lines[i]::R.lines.drop (i+1):=by rw[List.getElem_cons_drop,abn]
   have nd:=w.n0.nd;unfold eP at nd;rw[e2,aae,aaX,hg,List.nodup_append]at nd;obtain⟨_,n2,n3⟩:=nd;have a1:∀x∈R.lines.take i,x.name≠aL e 0:=λx hx=>n3 _ (aao hx) _ (aaS ..)
   have a2:∀x∈R.lines.drop (i+1),x.name≠aL e 0:=λx hx z=>(ab6.1 n2).1 (by rw[<-z];exact aao hx)
   rw[e1];by_cases hm:aL e 0=n
   ·rw[aai hm,aaZ,abi,aai (by rw[hy];exact Z8 hm)];have b1:(R.lines.take i).filter (λx=>decide (x.name=n))=[]:=aci.2 λx hx=>by simpa using λz=>a1 x hx (z.trans hm.symm)
    have b2:(R.lines.drop (i+1)).filter (λx=>decide (x.name=n))=[]:=aci.2 λx hx=>by simpa using λz=>a2 x hx (z.trans hm.symm)
    rw[b1,b2];rfl
   ·rw[aab hm]
    conv=>rhs;rw[e2]
    rw[aaZ,aaZ,abi,abi,aab (by rw[hy];simpa using hm),aab (by rw[hg];simpa using hm)]
  simp only[bz]at h2;refine⟨λhm=>⟨key ⟨λi t hi=>?_,λi t hi=>?_⟩ ?_,⟨tk,?_,s.tp,s.sh,s.md⟩⟩,λhm=>⟨Xv,?_,s.tp,s.sh,s.md⟩⟩
  ·match i,hi with
   | 0,hi=>cases hi;show aL e 0∈eP A;rw[hm];exact s.mem.2 (hm▸f0)
  ·match i,hi with
   | 0,hi=>cases hi
  ·have h5:cC A (aL e 0)=cC R (aL e 0):=by rw[hm];exact s.line w (hm▸f0)
   have h6:Go.Abs.tJ A (aL e 0)=Go.Abs.tJ R (aL e 0):=by rw[hm];exact s.tJ
   simp only[bz];rw[h5,h6];simp only[sf];exact h2
  ·have h5:cC A (aL e 0)=cC R (aL e 0):=by rw[hm];exact s.line w (hm▸f0)
   have h7:(cC R (aL e 0)).name=aL e 0:=fB f0;show A.lines.set (bn (eP A) (aL e 0)) {cC A (aL e 0)with acc:=true} =(R.lines.set (bn (eP R) (aL e 0)) {cC R (aL e 0)with acc:=true}).filter _;rw[em {cC R (aL e 0)with acc:=true} h7 _ rfl,aai hm,h5];have h8:A.lines=[cC R (aL e 0)]:=by
    rw[s.ln];have h9:R.lines.set (bn (eP R) (aL e 0)) (cC R (aL e 0))=R.lines:=by
     have hi':bn (eP R) (aL e 0)<R.lines.length:=by have:=cN f0;simpa [eP]using this
     have:cC R (aL e 0)=R.lines[bn (eP R) (aL e 0)]:=de f0;exact D7
    have:=em (cC R (aL e 0)) h7 _ rfl;rw[h9,aai hm]at this;exact this
   have h10:bn (eP A) (aL e 0)=0:=by
    unfold eP bn;rw[h8];simp[h7]
   rw[h10,h8];rfl
  ·have h7:(cC R (aL e 0)).name=aL e 0:=fB f0;show A.lines=(R.lines.set (bn (eP R) (aL e 0)) {cC R (aL e 0)with acc:=true}).filter _;rw[em {cC R (aL e 0)with acc:=true} h7 _ rfl,aab hm,s.ln]
 |source=>
  simp only[wE,aaK,abl];have f0:aL e 0∉iC R:=k.fr 0 3 rfl;have f1:aL e 1∈eP R:=k.kn 1 0 rfl;refine⟨λhm=>⟨key ⟨λi t hi=>?_,λi t hi=>?_⟩ ?_,⟨tk,s.ln,s.tp,s.sh,?_⟩⟩,λhm=>⟨Xv,s.ln,s.tp,s.sh,?_⟩⟩
  ·match i,hi with
   | 0,hi=>cases hi
   | 1,hi=>cases hi;show aL e 1∈eP A;rw[hm];exact s.mem.2 (hm▸f1)
  ·match i,hi with
   | 0,hi=>cases hi;exact mdA _ f0
   | 1,hi=>cases hi
  ·simp only[bz]at h2 ⊢;split at h2
   ·cases h2
   ·rw[aab Om]
  ·show A.aC++_=(R.aC++_).filter _;rw[aaZ,s.md];simp[hm]
  ·show A.aC=(R.aC++_).filter _;rw[aaZ,s.md];simp[hm]
 |gu=>
  exact K9
 |merge=>
  exact K9
 |run=>exact⟨λhm=>(by cases hm),λ_=>⟨Xv,s.ln,s.tp,s.sh,s.md⟩⟩
 |gp=>exact⟨λhm=>(by cases hm),λ_=>⟨Xv,s.ln,s.tp,s.sh,s.md⟩⟩
 |fail=>exact⟨λhm=>(by cases hm),λ_=>⟨Xv,s.ln,s.tp,s.sh,s.md⟩⟩
 |gL=>exact⟨λhm=>(by cases hm),λ_=>⟨Xv,s.ln,s.tp,s.sh,s.md⟩⟩
 |rel=>exact⟨λhm=>(by cases hm),λ_=>⟨Xv,s.ln,s.tp,s.sh,s.md⟩⟩
def tg(R:dM)(l:List cY):dM:=l.foldl (λr e=>fQ r e (gx e)) R
theorem rK:∀(l:List cY) (R:dM),(gS R l).getLastD R=tg R l
 |[],_=>rfl
 |e::l,R=>by
  rw[gS,List.getLastD_cons,rK l];rfl
theorem uv{n:By}(hn:n≠[]):∀(l:List cY) (R A:dM),eS R->yU n R A->wa R l->wa A (l.filter (fH n))/\yU n (tg R l) (tg A (l.filter (fH n)))
 |[],R,A,_,s,_=>⟨trivial,s⟩
 |e::l,R,A,w,s,h=>by
  obtain⟨⟨d,we,hd⟩,h2,h3⟩:=h;have hk:=we.gx;have w2:eS (fQ R e (gx e)):=by rw[hk]at h2 ⊢;exact w.step we hd h2
  obtain⟨p,q⟩:=s.step w hn we hd (hk▸h2);rw[<-hk]at p q;cases ha:fH n e with
  |true=>
   obtain⟨p1,p2⟩:=p ha;rw[abi,aai ha];obtain⟨r1,r2⟩:=uv hn l _ _ w2 p2 h3;exact⟨⟨⟨d,we,hd⟩,p1,r1⟩,r2⟩
  |false=>
   rw[abi,aab (by rw[ha];decide)];exact uv hn l _ _ w2 (q ha) h3
def jn(i:Nat):List cY->List cY
 |[]=>[]
 |e::l=>{e with num:=(i:Int)+1} ::jn (i+1) l
theorem rH:∀(l:List cY) (i:Nat),jn i l=l.mapIdx λj e=>{e with num:=((j+i:Nat):Int)+1}
 |[],_=>rfl
 |e::l,i=>by
  rw[jn,List.mapIdx_cons,rH l];simp only[aaP];congr 2;funext j x;have:j+(i+1)=j+1+i:=Om
  rw[this]
def CC(l:List cY):rF l=jn 0 l:=by rw[rH];rfl
theorem rG:∀(l:List cY) (i:Nat),jn i (jn i l)=jn i l
 |[],_=>rfl
 |e::l,i=>by rw[jn,jn,rG l]
def Fm(R:dM)(e:cY)(k:Int)(d:Kd):fD R {e with num:=k} d=fD R e d:=by cases d<;>rfl
def zq(R:dM)(e:cY)(k:Int)(d:Kd):fQ R {e with num:=k} d=fQ R e d:=by cases d<;>rfl
theorem zj:∀(l:List cY) (R:dM) (i:Nat),i+l.length<=1000->wa R l->wa R (jn i l)
 |[],_,_,_,_=>trivial
 |e::l,R,i,hi,h=>by
  obtain⟨⟨d,we,hd⟩,h2,h3⟩:=h;rw[Z5]at hi;refine⟨⟨d,{we with nu:=by show 1<=(i:Int)+1/\(i:Int)+1<=1000;omega},hd⟩,?_,?_⟩
  ·show fD R _ (gx e)=0;rw[Fm];exact h2
  ·show wa (fQ R _ (gx e)) _;rw[zq];exact zj l _ _ Om h3
theorem vT:∀(l:List cY) (R:dM) (i:Nat),tg R (jn i l)=tg R l
 |[],_,_=>rfl
 |e::l,R,i=>by
  show tg (fQ R _ (gx e)) (jn (i+1) l)=tg (fQ R e (gx e)) l;rw[zq,vT l]
theorem rI(n:By):∀(l:List cY) (i:Nat),(∀e∈l,fH n e=true)->(jn i l).filter (fH n)=jn i l
 |[],_,_=>rfl
 |e::l,i,h=>by
  have h1:fH n {e with num:=(i:Int)+1} =true:=h e (aaS ..);rw[jn,abi,aai h1,rI n l _ λx hx=>h x (aaH _ hx)]
theorem zf:∀(l:List cY) (H:gO) (i:Nat),H.c9.length=i->i+l.length<=1000->wa H.now (jn i l)->∃K:gO,fC H (jn i l) i=(K,0,0)/\K.eT=H.eT++jn i l/\K.now=tg H.now (jn i l)
 |[],H,i,_,_,_=>⟨H,rfl,by simp[jn],rfl⟩
 |e::l,H,i,he,hi,h=>by
  obtain⟨⟨d,we,hd⟩,h2,h3⟩:=h;rw[Z5]at hi;obtain⟨x,hx⟩:∃x:cY,x={e with num:=(i:Int)+1}:=⟨_,rfl⟩;rw[jn]at *;rw[<-hx]at we h2 h3 ⊢;have hu:gx x≠.dR:=by rw[we.gx];exact hd
  have hb:dV H x=0:=by
   rw[dV,zL we,aab (λz=>z rfl),jw,aab (by rw[hx,he];simp),aab hu];exact h2
  have T0:gy H x=⟨H.c9++[x],H.eT++[x],H.cM++[fQ H.now x (gx x)]⟩:=by rw[gy,aab hu]
  have UD:=EP (H:=H) hu;rw[<-UD]at h3;obtain⟨K,k1,k2,k3⟩:=zf l (gy H x) (i+1) (by rw[T0];simp[he]) Om h3;refine⟨K,by rw[fC,aab (λz=>z hb)];exact k1,by rw[k2,T0];simp,by rw[k3,UD];rfl⟩
def EF{l:List cY}(h:wa dM.zero l)(hl:l.length<=1000):(aN (rF l)).2.1=0/\(aN (rF l)).2.2=0/\(aN (rF l)).1.eT=rF l/\(aN (rF l)).1.now=tg dM.zero l:=by
 rw[CC];have hlen:(jn 0 l).length=l.length:=by rw[rH,List.length_mapIdx]
 obtain⟨K,k1,k2,k3⟩:=zf l gO.zero 0 rfl Om (zj l _ 0 Om h);have e:aN (jn 0 l)=fC gO.zero (jn 0 l) 0:=by rw[aN,aab Om]
 rw[e,k1];exact⟨rfl,rfl,by rw[k2];rfl,by rw[k3];exact vT l _ 0⟩
def DL{l m:List cY}{e:cY}(h:(aN (l++e::m)).2.2=0):po l e=0:=by
 obtain⟨h1,h2,h3⟩:=CB h;have hl:=oE h;rw[Z1,Z5]at hl;rw[<-pq,nq,aab (λz=>z h1),(yO h2).1,aab (λz=>z rfl),aab Om,h3]
structure Hv(l:List cY)(x:gN)(Y:List cY):Prop where
 q:jJ l x.name=(Y,0)
 ln:Y.length<=l.length
 nu:∀i (h:i<Y.length),(Y[i]).num=(i:Int)+1/\(Y[i]).kind≠bu .dR
 ac:∀i (h:i<Y.length),po (Y.take i) Y[i]=0
 r0:(aN Y).2.2=0
 ag:jJ Y x.name=(Y,0)
 l1:(aN Y).1.now.lines=[x]
 tp:(aN Y).1.now.aE=(aN l).1.now.aE
 sh:(aN Y).1.now.aj=(aN l).1.now.aj.filter λs=>decide (s.line=x.name)
def y7{l:List cY}{n:By}(h:(aN l).2.2=0)(hh:dD (aN l).1.now 0 n=true):jJ l n=(rF ((aN l).1.eT.filter (fH n)),0):=by
 unfold jJ;rw[aab];rw[hh,h];simp[aQ,bW]
def HU{l:List cY}(h:(aN l).2.2=0){x:gN}(hx:x∈(aN l).1.now.lines):∃Y,Hv l x Y:=by
 obtain⟨c,wh⟩:=uy h;have w:=wh.now;have hl:=oE h;have hle:=wh.le;rw[ux h]at hle;have hn:x.name∈eP (aN l).1.now:=aao hx;have hne:x.name≠[]:=λz=>by have:=w.n0.nm _ hn;rw[z]at this;cases this
 obtain⟨C,hC⟩:∃C,C=(aN l).1.eT.filter (fH x.name):=⟨_,rfl⟩;have hCl:C.length<=(aN l).1.eT.length:=by rw[hC];exact kU ..
 have hCa:∀e∈C,fH x.name e=true:=λe he=>by rw[hC]at he;exact(aa6.1 he).2
 obtain⟨s1,s2⟩:=uv hne _ _ _ eS.zero (yU.zero (n:=x.name)) c.ok;rw[<-hC]at s1 s2;have UD:(aN l).1.now=tg dM.zero (aN l).1.eT:=by rw[<-rK,gO.now,c.rg]
 rw[<-UD]at s2;obtain⟨r1,r2,r3,r4⟩:=EF s1 Om;obtain⟨Y,hY⟩:∃Y,Y=rF C:=⟨_,rfl⟩;have ZV:Y.length=C.length:=by rw[hY];exact List.length_mapIdx
 rw[<-hY]at r1 r2 r3 r4;rw[<-r4]at s2;have f1:((aN l).1.now.lines.filter λy=>decide (y.name=x.name))=[x]:=by
  have nd:=w.n0.nd;unfold eP at nd;obtain⟨a,b,hab⟩:=List.append_of_mem hx;rw[hab]at nd ⊢;rw[aae,aaX,List.nodup_append]at nd;obtain⟨_,n2,n3⟩:=nd;rw[aaZ,abi,aai Si];have b1:a.filter (λy=>decide (y.name=x.name))=[]:=aci.2 λy hy=>by simpa using n3 _ (aao hy) _ (aaS ..)
  have b2:b.filter (λy=>decide (y.name=x.name))=[]:=aci.2 λy hy=>by simpa using λz:y.name=x.name=>(ab6.1 n2).1 (by rw[<-z];exact aao hy)
  rw[b1,b2];rfl
 have lY:(aN Y).1.now.lines=[x]:=by rw[s2.ln,f1]
 have Wf:∀i (h:i<Y.length),Y=Y.take i++Y[i]::Y.drop (i+1):=λi h=>by rw[List.getElem_cons_drop,abn]
 refine⟨Y,⟨by rw[y7 h (Z8 hn),<-hC,<-hY],Om,λi hi=>?_,λi hi=>DL (m:=Y.drop (i+1)) (by rw[<-Wf i hi];exact r2),r2,?_,lY,s2.tp,s2.sh⟩⟩
 ·constructor
  ·subst hY;simp[rF]
  ·intro z;have hm:Y[i]∈Y:=aad _;obtain⟨c2,_⟩:=uy r2;have:=c2.ok;rw[r3]at this;obtain⟨l1,l2,he⟩:=List.append_of_mem hm;rw[he]at this;obtain⟨d,wd,hd⟩:=(xK l1 l2 dM.zero _ 0 this eS.zero).2.1;have:=wd.kd;rw[z,jD]at this;cases this;exact hd rfl
 ·rw[y7 r2 (Z8 (show x.name∈eP _ by unfold eP;rw[lY];simp)),r3,hY];simp only[CC];rw[rI _ _ _ hCa,rG]
def BG{l:List cY}{e u:cY}(h:(aN l).2.2=0)(ha:po l e=0)(hl:l.length<=900)(hu:u=⟨(l.length:Int)+2,bu .dR,[],[],[]⟩)(he:gx e≠.dR):
  (gx e=.rel->(aN (l++[e]++[u])).2.1=(l.length:Int)+2/\(aN (l++[e]++[u])).2.2=21)/\(gx e≠.rel->(aN (l++[e]++[u])).2.2=0/\(aN (l++[e]++[u])).1.now=(aN l).1.now):=by
 rw[<-pq,nq,aab (λz=>z h)]at ha;split at ha
 case isTrue hc=>exact absurd ha hc
 rename_i hc;rw[aab Om,kv h Om]at ha;have hb:dV (aN l).1 e=0:=by
  by_cases z:dV (aN l).1 e=0
  ·exact z
  ·rw[aai z]at ha;exact absurd ha z
 have h1:aN (l++[e])=(gy (aN l).1 e,0,0):=by rw[kv h Om,aab (λz=>z hb)]
 have h2:(aN (l++[e])).2.2=0:=by rw[h1]
 have T0:gy (aN l).1 e=⟨(aN l).1.c9++[e],(aN l).1.eT++[e],(aN l).1.cM++[fQ (aN l).1.now e (gx e)]⟩:=by rw[gy,aab he]
 have wu:j8 u .dR:=by
  rw[hu];exact⟨rfl,by show 1<=(l.length:Int)+2/\(l.length:Int)+2<=1000;omega,rfl,rfl,λ_ z=>(by cases z),λ_ z=>(by cases z),rfl⟩
 have SN:=wu.gx;have hbu:dV (gy (aN l).1 e) u=if gx e=.rel then 21 else 0:=by
  rw[dV,zL wu,aab (λz=>z rfl),jw,aab (by rw[T0,hu,ux h];simp;omega),aai SN,T0];simp
 have h3:=kv (e:=u) h2 (by rw[Z1,aau];omega);rw[h1]at h3;simp only at h3;rw[hbu]at h3;constructor
 ·intro hr;rw[aai hr,aai De]at h3;rw[h3];exact⟨by simp;omega,rfl⟩
 ·intro hr;rw[aab hr,aab (λz=>z rfl)]at h3;rw[h3];refine⟨rfl,?_⟩;rw[gy,aai SN,T0];simp[gO.now]
section
variable {P:Program}(T:fq P) {h:ah}
include T
end
def qj.add{L:List EV}(sh:qj L)(hl:L.length<2^30){x:EV}(hx:x.ev.names.length<=2^30/\x.ev.cw.length<=2^30):qj (L++[x]):=⟨by simp;omega,λy hy=>by
  rcases aac.1 hy with hy|hy
  ·exact sh.e y hy
  ·rw[aam]at hy;rw[hy];exact hx⟩
section
variable {P:Program}(T:fq P) {h:ah}
include T
def r50{L:List EV}{s:AV}(o:du h L s)(hl:L.length<=2^30){x:EV}(ox:bh h x):ay P 50 [s,.agg x.row] h (λv k=>du k (L++[x]) v):=by
 refine .eX 11 T.mix T.c50 ?_;intro ts hlen t0 t1;unfold fn50 gA;have SG:=@bh.box _ _ ox;refine Rs (A3 t0 t1 @SG) ?_;obtain⟨W1,Ux⟩:∃Z,Z=h++[ak.cells x.row true false]:=⟨_,rfl⟩;have me:W1[h.length]? =some (.cells x.row true false):=by rw[Ux];exact ba
 have e1:Ext h W1:=by rw[Ux];exact⟨_,rfl⟩
 rw[<-Ux];have le:=@dB _ _ _ me;have bs:=@bh.Dt _ _ ox;have oW:=o.ext e1;refine WR.pk (N:=W1.length) (w:=88) ba (aah _) (oW.sl.ext Xx) (by rw[aaa];omega) λa1 y1 f1=>?_
 have p1:=f1.aY.one;obtain⟨Y,hY⟩:∃Z,Z=W1++[ak.cells [] true false]++y1:=⟨_,rfl⟩;rw[<-hY]at f1 ⊢;have eY:Ext W1 Y:=by rw[hY,Z4];exact⟨_,rfl⟩
 have le:∀{k n a},Ext Y k->ao n (.ptr h.length a) (λz=>k[z]?)=dG n a (.cells x.row true false):=λ{_ _ _} e=>le (eY.trans e)
 refine Rs (A6 t0 t1 @le @bR @bs @p1) ?_;refine WR.pn (B:=W1) (cs:=L.map EV.row) f1 rfl eY De (by rw[aaa];omega) ?_;intro W4 s4 x4 Xj hn4 q4' l4 hk4;have hrow:L.map EV.row++[x.row]=(L++[x]).map EV.row:=by rw[aae];rfl
 rw[hrow]at Xj;have o4:du W4 (L++[x]) s4:=⟨Xj.aY,λy hy=>by
  rcases aac.1 hy with hy|hy
  ·exact(oW.all y hy).ext x4
  ·rw[aam]at hy;rw[hy];exact ox.ext (e1.trans x4)⟩
 refine Rs (A2 t0 t1) ?_;exact⟨e1.trans x4,o4⟩
end
def mY(k:Nat):ai:=(fn8).body.dr k
def GG(k:Nat):ai:=((mY 6).hd.tl.uJ.uJ.dr k).hd
def D0:ai:=(GG 2).uJ
def RO:ai:=(mY 6).hd.tl.uJ.uJ.dr 3
def DZ(k:Nat):ai:=(D0.dr k).hd
def Bq(k:Nat):ai:=D0.dr k
def Oc:mY 6=.seq (.seq (mY 6).hd.hd (.block 0 (.loop (.seq (GG 0) (.seq (GG 1) (.seq (.block 1 D0) RO)))))) (mY 7):=rfl
def Ob:D0=.seq (DZ 0) (.seq (DZ 1) (.seq (DZ 2) (Bq 3))):=rfl
def Of:Bq 3=.seq (DZ 3) (Bq 4):=rfl
def Oe:Bq 4=.seq (DZ 4) (.seq (DZ 5) (.seq (DZ 6) (Bq 7))):=rfl
def Od:mY 5=.seq (mY 5).hd (mY 6):=rfl
def Og:fn8=⟨268,2,[(4,none)],.seq (mY 0).hd (.seq (mY 1).hd (.seq (mY 2).hd (.seq (mY 3).hd (.seq (mY 4).hd (mY 5)))))⟩:=rfl
def NQ(K:ah)(s:AV)(O:RV)(c:Nat)(j:Nat):Ex->TS->ah->Prop:=λe ts W=>
 e=.normal/\Ext K W/\ts.length=268/\slot ts 0=s/\slot ts 8=.ptr c 0/\slot ts 111=O.s0/\slot ts 112=.int .i64 O.lines.length/\slot ts 113=.int .i64 j
def B3{Y:List cY}(h:(aN Y).2.2=0){e:cY}(he:e∈Y):e.names.length<=3/\e.cw.length<=3:=by
 have hm:e∈(aN Y).1.c9:=by rw[ux h];exact he
 obtain⟨d,wd⟩:=(uy h).2.ev e hm;rw[wd.nl,wd.vl];cases d<;>decide
section
variable {P:Program}(T:fq P) {h K W:ah}{ts:TS}{L A:List EV}{Y:List cY}{s u:AV}{O V:RV}{x:gN}{b c d j:Nat}(gl:Gl h) (hl:L.length<=1000) (eK:Ext h K) (oO:aB K O) (wO:eS O.an) (hO:O.an=(aN (L.map EV.ev)).1.now) (mc:K[c]? =some (.cells O.row true false)) (sy:Hv (L.map EV.ev) x Y) (eW:Ext K W) (mb:W[b]? =some (.cells (bw x) true false)) (oA:du W A u) (hA:A.map EV.ev=Y)
include T gl hl eK oO wO hO mc sy eW mb oA hA
theorem Lg(oV:aB W V)(wV:eS V.an)(hV:V.an=(aN Y).1.now)(md:W[d]? =some (.cells V.row true false))(hlen:ts.length=268)(t0:slot ts 0=s)(t8:slot ts 8=.ptr c 0)(t16:slot ts 16=.ptr b 0)(t21:slot ts 21=.ptr d 0)(t111:slot ts 111=O.s0)(t112:slot ts 112=.int .i64 O.lines.length)(t113:slot ts 113=.int .i64 j):
  WC P bJ (Bq 7) [] ts W (NQ K s O c j):=by
 have hL2:O.aj.length<=64:=by have:=wO.l2;simpa [RV.an]using this
 have hF:V.aj.map Prod.fst=(O.aj.map Prod.fst).filter λz=>decide (z.line=x.name):=by
  have h1:=sy.sh;rw[<-hV,<-hO]at h1;exact h1
 have lc:=@dB _ _ _ (eW.some mc);unfold Bq D0 GG mY fn8;simp only[ai.j,ai.s,ai.r,ai.dr,ai.tl,ai.hd,ai.uJ];refine Rs (mU t0 t8 t16 t21 t111 t112 t113 @lc @dC oO.i2.aH) ?_;refine WL.inv T.mix (λm ts h'=>∃i:Nat,i<=O.aj.length/\m=O.aj.length-i/\Ext W h'/\ts.length=268/\slot ts 0=s/\slot ts 8=.ptr c 0/\slot ts 16=.ptr b 0/\slot ts 21=.ptr d 0/\slot ts 26=.int .i64 ((O.aj.take i).filter λy=>decide (y.1.line=x.name)).length/\slot ts 111=O.s0/\slot ts 112=.int .i64 O.lines.length/\slot ts 113=.int .i64 j/\slot ts 208=O.s2/\slot ts 209=.int .i64 O.aj.length/\slot ts 210=.int .i64 i) O.aj.length
  ⟨0,Om,rfl,Ext.refl W,Sn,(Sq t0),(Sq t8),(Sq t16),(Sq t21),ga,(Sq t111),(Sq t112),(Sq t113),Sw,Sw,ga⟩ ?_
 clear t0 t8 t16 t21 t111 t112 t113 hlen lc;rintro _ ts W2 ⟨i,hi,rfl,e2,hlen,t0,t8,t16,t21,t26,t111,t112,t113,t208,t209,t210⟩;have Wv:=@dB _ _ _ (e2.some md);have l16:=@dB _ _ _ (e2.some mb);unfold bw at l16;have o2:=oV.ext e2;by_cases hlt:i<O.aj.length
 ·have e3:=dN hlt;have e5:=wrapN (n:=i) Om;have oO2:=oO.ext (eW.trans e2);have ix:=oO2.i2.c6 (kk:=.i64) hlt;obtain⟨y,hy⟩:∃y,y=O.aj[i]:=⟨_,rfl⟩;have Ua:y∈O.aj:=by rw[hy];exact aad _
  have ld:∀{k':ah},Ext W2 k'->ao (some 3) (cI O.s2 3 i) (λb=>k'[b]?)=some (.agg (aU y),.ar):=λ{k'} e=>by rw[hy];exact oO2.i2.gP hlt e
  have oy:=oO2.e2 y Ua;have UA:=oy.one;have sty:=@Lz y UA;unfold aU at ld sty;have Uw:=xy (p:=λy:jc×AV=>decide (y.1.line=x.name)) hlt;rw[<-hy]at Uw;by_cases hm:y.1.line=x.name
  ·have q1:decide (y.1.line≠x.name)=false:=Z3 λz=>z hm
   rw[aai (Z8 hm)]at Uw;obtain⟨k,hk⟩:∃k,k=((O.aj.take i).filter λy=>decide (y.1.line=x.name)).length:=⟨_,rfl⟩;rw[<-hk]at t26 Uw;have hfa:=tZ (p:=λy:jc×AV=>decide (y.1.line=x.name)) hlt (by rw[<-hy];exact Z8 hm);rw[<-hk]at hfa;obtain⟨hk1,SK⟩:=hfa;have hVl:V.aj.length=(O.aj.filter λy=>decide (y.1.line=x.name)).length:=by
    have:=aax List.length hF;rw[abA,aaa,aaa]at this;exact this
   have hkV:k<V.aj.length:=by rw[hVl];exact hk1
   have e6:=wrapN (n:=k) (by have:(O.aj.filter λy=>decide (y.1.line=x.name)).length<=O.aj.length:=aaF ..;omega);obtain⟨z,hz⟩:∃z,z=V.aj[k]:=⟨_,rfl⟩;have hzm:z∈V.aj:=by rw[hz];exact aad _
   have hzy:z.1=y.1:=by
    have h1:(V.aj.map Prod.fst)[k]? =some z.1:=by rw[aa7,Z6 hkV,hz];rfl
    rw[hF,abA,aa7]at h1;have h2:(O.aj.filter ((λz=>decide (z.line=x.name))∘Prod.fst))[k]? =some y:=by rw[hy,<-SK];exact Z6 hk1
    rw[h2]at h1;exact(aa0 h1).symm
   have iz:=o2.i2.c6 (kk:=.i64) hkV;have z0:∀{kk:ah},Ext W2 kk->ao none (jF V.s2 3 k 0) (λb=>kk[b]?)=some (.str y.1.name,.ar):=λ{kk} e=>by rw[<-hzy];exact o2.i2.kT hkV (by rw[<-hz];rfl) e
   have z1:∀{kk:ah},Ext W2 kk->ao none (jF V.s2 3 k 1) (λb=>kk[b]?)=some (.str y.1.line,.ar):=λ{kk} e=>by rw[<-hzy];exact o2.i2.kT hkV (by rw[<-hz];rfl) e
   have z2:∀{kk:ah},Ext W2 kk->ao none (jF V.s2 3 k 2) (λb=>kk[b]?)=some (z.2,.ar):=λ{kk} e=>o2.i2.kT hkV (by rw[<-hz];rfl) e
   have oz:=o2.e2 z hzm;rw[hzy]at oz;have n0:=ne_self y.1.name;have n1:=ne_self y.1.line;have q3:decide ((V.aj.length:Int)<=(k:Int))=false:=Z3 Om;have Uk:y.1.aE.length<=2^30:=by have:=(wO.vj.sh y Ua).2;omega
   repeat (first|simp (config:={maxSteps:=1000000}) only[aO,aT,aZ,a8,reduceAdd,reduceMul,reduceLeDiff,reduceEqDiff,bd,hlen,aal,aan,t0,t8,t16,t21,t26,t111,t112,t113,t208,t209,t210,e3,ix,ld,sty,UA,l16,q1,Wv,dC,o2.i2.aH,q3,iz,z0,z1,z2,n0,n1]|simp (config:={maxSteps:=1000000}) (disch:=first|(simp only[Z1,Z5,Z9]<;>omega)|rfl|omega|fail) only[dX,aO,aT,aZ,a8,reduceAdd,reduceMul,reduceLeDiff,reduceEqDiff,bd,hlen,aal,aan,t0,t8,t16,t21,t26,t111,t112,t113,t208,t209,t210,e3,ix,ld,sty,UA,l16,q1,Wv,dC,o2.i2.aH,q3,iz,z0,z1,z2,n0,n1])
   refine WF.ce T.c25 (r25 T (oz.ext Xx) (oy.ext Xx) Om Om) λg1=>?_
   refine Rs (Bn t0 t8 t16 t21 t26 t111 t112 t113 t208 t209 t210 @aaq @aar e5 e6) ?_;exact Kz
  ·have q1:decide (y.1.line≠x.name)=true:=Z8 hm;rw[aab (by simpa using hm)]at Uw;refine Rs (RX t0 t8 t16 t21 t26 t111 t112 t113 t208 t209 t210 e3 ix @ld @sty @UA @l16 q1 e5) ?_;exact Kz
 ·have e3:=eF hlt;have ZQ:((O.aj.take i).filter λy=>decide (y.1.line=x.name)).length=V.aj.length:=by
   rw[aaM Om];have:=aax List.length hF;rw[abA,aaa,aaa]at this;exact this.symm
  rw[ZQ]at t26;have q3:decide ((V.aj.length:Int)≠(V.aj.length:Int))=false:=Z3 λz=>z rfl
  refine Rs (GD t0 t8 t16 t21 t26 t111 t112 t113 t208 t209 t210 e3 @Wv @dC o2.i2.aH q3) ?_;exact⟨rfl,eW.trans e2,Sn,(Sq t0),(Sq t8),(Sq t111),(Sq t112),(Sq t113)⟩
def Li(shA:qj A)(hlen:ts.length=268)(t0:slot ts 0=s)(t8:slot ts 8=.ptr c 0)(t16:slot ts 16=.ptr b 0)(t17:slot ts 17=u)(t111:slot ts 111=O.s0)(t112:slot ts 112=.int .i64 O.lines.length)(t113:slot ts 113=.int .i64 j):
  WC P bJ (Bq 4) [] ts W (NQ K s O c j):=by
 rw[Oe];generalize hR:Bq 7=R;have glW:=gl.ext (eK.trans eW);have lb:=@dB _ _ _ mb;unfold bw at lb;unfold DZ D0 GG mY fn8;simp only[ai.j,ai.s,ai.r,ai.dr,ai.tl,ai.hd,ai.uJ];refine Rs (A7 t0 t8 t16 t17 t111 t112 t113) ?_;refine WF.res T.c34 (r34 T oA shA glW) ?_;rintro _ g1 ⟨V,rfl,hV,oV,wV⟩;have st:=@aB.st _ _ oV;rw[hA]at hV ⊢;rw[sy.r0];refine Rs (A9 t0 t8 t16 t17 t111 t112 t113 @st @lb) ?_;refine WF.res T.c26 (r26 T (oA.ext Xx) shA (glW.ext Xx) x.name) ?_;rintro _ g2 ⟨v,A2,rfl,Yt,hA2⟩;rw[hA,sy.ag]at hA2;rw[hA,sy.ag];have hA2:A2.map EV.ev=Y:=hA2;have z0:decide ((0:Int)≠0)=false:=rfl
 have eQ:∀y∈A2,y.ev.names.length<2^40/\y.ev.cw.length<2^40:=λy hy=>by
  have:=B3 sy.r0 (e:=y.ev) (by rw[<-hA2];exact aao hy);omega
 have hA2l:A2.length=Y.length:=by rw[<-hA2,aaa]
 have ZV:=sy.ln;rw[aaa]at ZV;obtain⟨W2,Te⟩:∃W2,W2=W++g1++[ak.cells V.row true false]++g2:=⟨_,rfl⟩;have e2:Ext W W2:=by rw[Te];exact Xx
 have md:W2[(W++g1).length]? =some (.cells V.row true false):=by rw[Te];exact qa
 have XA:aB W2 V:=by rw[Te];exact oV.ext Xx
 refine Rs (A8 t0 t8 t16 t17 t111 t112 t113 @z0) ?_;rw[<-Te]at Yt ⊢;obtain⟨d,hd⟩:∃d,d=(W++g1).length:=⟨_,rfl⟩;rw[<-hd]at md ⊢;clear Te hd;refine WF.ce T.c32 (r32 T Yt (oA.ext e2) (hA2.trans hA.symm) Om eQ) λg3=>?_
 have Wv:=@dB _ _ _ md;have Ty:V.lines=[x]:=by have:=sy.l1;rw[<-hV]at this;exact this
 have hvt:V.aE.length=O.aE.length:=by
  have:=sy.tp;rw[<-hV,<-hO]at this;exact aax List.length this
 have i0:=XA.i0;rw[Ty]at i0;have ix:bf 3 V.s0 (.int .i64 0)=some (cI V.s0 3 0,.ar):=i0.qP (Nat.zero_lt_succ _);have l0:∀{k':ah},Ext W2 k'->ao (some 3) (cI V.s0 3 0) (λb=>k'[b]?)=some (.agg (bw x),.ar):=λ{k'} e=>i0.gP (i:=0) (Nat.zero_lt_succ _) e
 have lb2:=@dB _ _ _ (e2.some mb);have la:dG (some 3) 0 (.cells (bw x) true false)=some (.agg (bw x),.ar):=rfl;have ln1:ja .sl (λz=>(W2++g3)[z]?) V.s0=some 1:=i0.aH _;have n1:decide (((1:Nat):Int)≠1)=false:=rfl;have lc:=@dB _ _ _ ((eW.trans e2).some mc);have lt1:=XA.i1.aH;rw[hvt]at lt1;have nt:=ne_self (O.aE.length:Int);have q:=@Dh x;refine Rs (Q6 t0 t8 t16 t17 t111 t112 t113 @aaq @aar @Wv @eJ @gR @ln1 @n1 ix @l0 @lb2 @la q @lc @lt1 oO.i1.aH @nt) ?_;rw[<-hR];exact Lg T gl hl eK oO wO hO mc sy ((eW.trans e2).trans ⟨g3,rfl⟩) ((e2.trans ⟨g3,rfl⟩).some mb) (oA.ext (e2.trans ⟨g3,rfl⟩)) hA (XA.ext ⟨g3,rfl⟩) wV hV ((show Ext W2 (W2++g3)from⟨g3,rfl⟩).some md) Sn (Sq t0) (Sq t8) (Sq t16) Sw (Sq t111) (Sq t112) (Sq t113)
def Lf(shA:qj A)(hlen:ts.length=268)(t0:slot ts 0=s)(t8:slot ts 8=.ptr c 0)(t16:slot ts 16=.ptr b 0)(t17:slot ts 17=u)(t111:slot ts 111=O.s0)(t112:slot ts 112=.int .i64 O.lines.length)(t113:slot ts 113=.int .i64 j):
  WC P bJ (Bq 3) [] ts W (NQ K s O c j):=by
 have hAl:A.length=Y.length:=by rw[<-hA,aaa]
 have ZV:=sy.ln;rw[aaa]at ZV;rw[Of];generalize hR:Bq 4=R;unfold DZ D0 GG mY fn8;simp only[ai.j,ai.s,ai.r,ai.dr,ai.tl,ai.hd,ai.uJ];refine Rs (A8 t0 t8 t16 t17 t111 t112 t113 oA.sl.aH) ?_;refine WL.inv T.mix (λm ts h'=>∃i:Nat,i<=A.length/\m=A.length-i/\Ext W h'/\ts.length=268/\slot ts 0=s/\slot ts 8=.ptr c 0/\slot ts 16=.ptr b 0/\slot ts 17=u/\slot ts 111=O.s0/\slot ts 112=.int .i64 O.lines.length/\slot ts 113=.int .i64 j/\slot ts 133=u/\slot ts 134=.int .i64 A.length/\slot ts 135=.int .i64 i) A.length
  ⟨0,Om,rfl,Ext.refl W,Sn,(Sq t0),(Sq t8),(Sq t16),(Sq t17),(Sq t111),(Sq t112),(Sq t113),(Sq t17),Sw,ga⟩ ?_
 clear t0 t8 t16 t17 t111 t112 t113 hlen;rintro _ ts W2 ⟨i,hi,rfl,e2,hlen,t0,t8,t16,t17,t111,t112,t113,t133,t134,t135⟩;have Yt:=oA.ext e2;by_cases hlt:i<A.length
 ·have e3:=dN hlt;have e5:=wrapN (n:=i) Om;have ix:=Yt.sl.c6 (kk:=.i64) hlt;obtain⟨y,hy⟩:∃y,y=A[i]:=⟨_,rfl⟩;have Ua:y∈A:=by rw[hy];exact aad _
  have oy:=Yt.all y Ua;have st:=@bh.st _ _ oy;have ld:∀{k':ah},Ext W2 k'->ao (some 5) (cI u 5 i) (λb=>k'[b]?)=some (.agg y.row,.ar):=λ{k'} e=>by rw[hy];exact Yt.sl.gP hlt e
  have hyY:Y[i]'Om=y.ev:=by
   have h1:(A.map EV.ev)[i]? =some y.ev:=by rw[aa7,Z6 hlt,hy];rfl
   rw[hA,Z6 Om]at h1;exact aa0 h1
  obtain⟨u1,u2⟩:=sy.nu i Om;have u3:=sy.ac i Om;rw[hyY]at u1 u2 u3;obtain⟨s3,sl3,os3⟩:=Yt.cut (acp hlt);have q1:decide (y.ev.num≠((i+1:Nat):Int))=false:=Z3 λz=>z (by rw[u1];omega)
  have q2:decide (y.ev.kind=[117,110,100,111])=false:=Z3 u2;have eQ:=shA.e y Ua;have hmt:(A.take i).map EV.ev=Y.take i:=by rw[acC,hA]
  have z0:decide ((0:Int)≠0)=false:=rfl;refine Rs (Q7 t0 t8 t16 t17 t111 t112 t113 t133 t134 t135 e3 ix @ld @st @mh @bB @bR e5 q1 q2 @sl3) ?_;refine WF.ce T.c48 (r48 T (os3.ext Xx) (shA.cut i) (gl.ext ((eK.trans (eW.trans e2)).trans Xx)) (oy.ext Xx) eQ) λg1=>?_
  rw[hmt,u3];refine Rs (nT t0 t8 t16 t17 t111 t112 t113 t133 t134 t135 @z0 e5) ?_;exact⟨_,Om,i+1,Om,rfl,e2.trans Xx,rfl⟩
 ·have e3:=eF hlt;refine Rs (lI t0 t8 t16 t17 t111 t112 t113 t133 t134 t135 e3) ?_;rw[<-hR];exact Li T gl hl eK oO wO hO mc sy (eW.trans e2) (e2.some mb) Yt hA shA Sn (Sq t0) (Sq t8) (Sq t16) (Sq t17) (Sq t111) (Sq t112) (Sq t113)
end
section
variable {P:Program}(T:fq P) {h K W:ah}{ts:TS}{L:List EV}{s:AV}{O:RV}{x:EV}{b c j:Nat}(o:du h L s) (sh:qj L) (nl:Ny L) (gl:Gl h) (hl:L.length<=900) (hr:(aN (L.map EV.ev)).2.2=0) (eK:Ext h K) (oO:aB K O) (wO:eS O.an) (hO:O.an=(aN (L.map EV.ev)).1.now) (mc:K[c]? =some (.cells O.row true false)) (eW:Ext K W)
include T o sh nl gl hl hr eK oO wO hO mc eW
theorem Ee(hj:j<O.lines.length)(hlen:ts.length=268)(t0:slot ts 0=s)(t8:slot ts 8=.ptr c 0)(t111:slot ts 111=O.s0)(t112:slot ts 112=.int .i64 O.lines.length)(t113:slot ts 113=.int .i64 j):
  WC P bJ D0 [] ts W (NQ K s O c j):=by
 obtain⟨x,hx⟩:∃x,x=O.lines[j]:=⟨_,rfl⟩;have Ta:x∈O.an.lines:=by rw[hx];exact aad _
 obtain⟨Y,sy⟩:=HU hr (hO▸Ta);have oO2:=oO.ext eW;have Yp:=eK.trans eW;have ix:=oO2.i0.c6 (kk:=.i64) hj;have ld:∀{k':ah},Ext W k'->ao (some 3) (cI O.s0 3 j) (λb=>k'[b]?)=some (.agg (bw x),.ar):=λ{k'} e=>by rw[hx];exact oO2.i0.gP hj e
 have st:=@Mh x;rw[Ob];generalize hR:Bq 3=R;unfold DZ D0 GG mY fn8;simp only[ai.j,ai.s,ai.r,ai.dr,ai.tl,ai.hd,ai.uJ];have la:(bw x)[0]? =some (.str x.name):=rfl;refine Rs (A9 t0 t8 t111 t112 t113 ix @ld @st @la) ?_;refine WF.res T.c26 (r26 T (o.ext (Yp.trans Xx)) sh (gl.ext (Yp.trans Xx)) x.name) ?_;rintro _ g ⟨u,A,rfl,oA,hA⟩;rw[sy.q]at hA ⊢;have hA:A.map EV.ev=Y:=hA;have z0:decide ((0:Int)≠0)=false:=rfl;have hAl:A.length=Y.length:=by rw[<-hA,aaa]
 have ZV:=sy.ln;rw[aaa]at ZV;have q1:decide ((L.length:Int)<(A.length:Int))=false:=Z3 Om;have shA:qj A:=⟨Om,λy hy=>by
  have:=B3 sy.r0 (e:=y.ev) (by rw[<-hA];exact aao hy);omega⟩
 refine Rs (A9 t0 t8 t111 t112 t113 @z0 oA.sl.aH o.sl.aH q1) ?_;rw[<-hR];exact Lf T gl Om eK oO wO hO mc sy (eW.trans Xx) (show(W++[ak.cells (bw x) true false]++g)[W.length]? =_ from qa) oA hA shA Sn (Sq t0) (Sq t8) Sw Sw (Sq t111) (Sq t112) (Sq t113)
def Lh{hz:ah}(ez:Ext hz h)(ha:∀k,Ext h k->ay P 15 [] k (λv _=>v=.bool true))(hlen:ts.length=268)(t0:slot ts 0=s)(t8:slot ts 8=.ptr c 0):WC P bJ (mY 6) [] ts W (FQ [(4,none)] (J4 hz)):=by
 have hL0:O.lines.length<=16:=wO.l0;have lc:=@dB _ _ _ (eW.some mc);rw[Oc];generalize hC:D0=C;generalize hR:mY 7=R;unfold GG RO mY fn8;simp only[ai.j,ai.s,ai.r,ai.dr,ai.tl,ai.hd,ai.uJ];refine Rs (A5 t0 t8 @lc @eJ oO.i0.aH) ?_;refine WL.inv T.mix (λm ts h'=>∃k:Nat,k<=O.lines.length/\m=O.lines.length-k/\Ext K h'/\ts.length=268/\slot ts 0=s/\slot ts 8=.ptr c 0/\slot ts 111=O.s0/\slot ts 112=.int .i64 O.lines.length/\slot ts 113=.int .i64 k) O.lines.length
  ⟨0,Om,rfl,eW,Sn,(Sq t0),(Sq t8),Sw,Sw,ga⟩ ?_
 clear t0 t8 hlen eW lc;rintro _ ts W2 ⟨k,hk,rfl,e2,hlen,t0,t8,t111,t112,t113⟩;by_cases hlt:k<O.lines.length
 ·have e3:=dN hlt;have e5:=wrapN (n:=k) Om;refine Rs (A6 t0 t8 t111 t112 t113 e3) ?_;refine WC.cut _ (hC▸Ee T o sh nl gl hl hr eK oO wO hO mc e2 hlt Sn (Sq t0) (Sq t8) (Sq t111) (Sq t112) (Sq t113)) ?_;rintro e ts W3 ⟨rfl,e4,hlen,t0,t8,t111,t112,t113⟩;refine Rs (A6 t0 t8 t111 t112 t113 e5) ?_;exact⟨_,Om,k+1,Om,rfl,e4,rfl⟩
 ·have e3:=eF hlt;refine Rs (A6 t0 t8 t111 t112 t113 e3) ?_;rw[<-hR];unfold mY fn8;simp only[ai.j,ai.s,ai.r,ai.dr,ai.tl,ai.hd,ai.uJ];refine Rs t0 ?_;refine WF.ce T.c15 (ha _ ((eK.trans e2).trans Xx)) λg=>?_
  refine Rs t0 ?_;exact⟨ez.trans ((eK.trans e2).trans Xx),rfl⟩
theorem Lj(ox:bh W x)(hx:x.ev.names.length<=2^30/\x.ev.cw.length<=2^30)(hn:∀n∈x.ev.names,n.length<2^63)(mb:W[b]? =some (.cells x.row true false))(hlen:ts.length=268)(t0:slot ts 0=s)(t3:slot ts 3=.ptr b 0)(t8:slot ts 8=.ptr c 0):
  WC P bJ (mY 5).hd [] ts W (λe ts W'=>e=.normal/\Ext W W'/\ts.length=268/\slot ts 0=s/\slot ts 8=.ptr c 0):=by
 have Yp:=eK.trans eW;have lb:=@dB _ _ _ mb;unfold mY fn8;simp only[ai.j,ai.s,ai.r,ai.dr,ai.tl,ai.hd,ai.uJ];refine Rs (A5 t0 t3 t8 @lb @bR) ?_;refine WF.ce T.c48 (r48 T (o.ext Yp) sh (gl.ext Yp) ox hx) λg1=>?_
 by_cases hac:po (L.map EV.ev) x.ev=0
 case neg=>
  have q1:decide (po (L.map EV.ev) x.ev=0)=false:=Z3 hac;exact Rs (A4 t0 t3 t8 q1) Tv
 rw[hac];have z1:decide ((0:Int)=0)=true:=rfl;have z0:decide ((0:Int)≠0)=false:=rfl;refine Rs (A6 t0 t3 t8 @aaq @lb @bR) ?_;refine WF.ce T.c49 (r49 T (o.ext (Yp.trans Xx)) sh nl (ox.ext Xx) hx hn) λg2=>?_
 rw[pq,hac];refine Rs (A6 t0 t3 t8 @aaq @lb @bR) ?_;have hsl:=sh.l;refine WF.res T.c50 (r50 T (o.ext (Yp.trans Xx)) hsl (ox.ext Xx)) ?_;rintro d g3 o3;obtain⟨u,hu⟩:∃u:EV,u=⟨⟨(L.length:Int)+2,bu .dR,[],[],[]⟩,.af,.af⟩:=⟨_,rfl⟩;have hur:u.row=[.int .i64 ((L.length+1+1:Nat):Int),.str [117,110,100,111],.af,.af,.str []]:=by
  rw[hu];simp only[EV.row,bu];congr 2
 have ou:∀{k:ah},bh k u:=λ{k}=>by rw[hu];exact⟨.nil,.nil⟩
 have hDl:(L++[x]).length=L.length+1:=Si
 have ld:=o3.sl.aH;rw[hDl]at ld;have e6:=wrapN (n:=L.length+1) Om;refine Rs (A5 t0 t3 t8 @ld e6) ?_;rw[<-hur];refine WF.res T.c50 (r50 T o3 (by rw[hDl];omega) (x:=u) ou) ?_;rintro d2 g4 o4;refine Rs (A3 t0 t3 t8) ?_;have sh4:qj (L++[x]++[u]):=(sh.add Om hx).add (by rw[hDl];omega) (by rw[hu];exact⟨aaC _,aaC _⟩);refine WF.res T.c34 (r34 T o4 sh4 (gl.ext (Yp.trans Xx))) ?_;rintro _ g5 ⟨V,rfl,hV,oV,wV⟩;have st:=@aB.st _ _ oV;have hm:(L++[x]++[u]).map EV.ev=L.map EV.ev++[x.ev]++[u.ev]:=Si
 rw[hm]at hV ⊢;have huv:u.ev=⟨((L.map EV.ev).length:Int)+2,bu .dR,[],[],[]⟩:=by rw[hu,aaa]
 have hund:=λhe=>BG hr hac (by rw[aaa];omega) huv he
 have hk1:∀d,x.ev.kind=bu d->gx x.ev=d:=λd z=>by rw[gx,z,jD];rfl
 obtain⟨V2,hV2⟩:∃V2,V2=V:=⟨_,rfl⟩;by_cases hrel:x.ev.kind=bu .rel
 ·have q2:decide (x.ev.kind=[114,101,108,101,97,115,101])=true:=Z8 hrel;have SN:=hk1 _ hrel;obtain⟨r1,r2⟩:=(hund (by rw[SN];decide)).1 SN;rw[aaa]at r1;rw[r1,r2];have q3:decide ((21:Int)≠21)=false:=rfl;have q4:decide ((L.length:Int)+2≠((L.length+1+1:Nat):Int))=false:=Z3 λz=>z Om
  exact Rs (lI t0 t3 t8 @st @lb @bB q2 q3 @ld e6 q4) Tv
 have q2:decide (x.ev.kind=[114,101,108,101,97,115,101])=false:=Z3 hrel;by_cases hundo:x.ev.kind=bu .dR
 ·have q3:decide (x.ev.kind≠[117,110,100,111])=false:=Z3 λz=>z hundo
  exact Rs (A8 t0 t3 t8 @st @lb @bB q2 q3) Tv
 have q3:decide (x.ev.kind≠[117,110,100,111])=true:=Z8 hundo;have hchk:eA x.ev=0:=by
  by_cases z:eA x.ev=0
  ·exact z
  ·rw[<-pq,nq,aab (λz=>z hr),aai z]at hac;exact absurd hac z
 obtain⟨kd,we⟩:=p6 hchk;have SN:=we.gx;have YJ:=cA we.kd;have h1:gx x.ev≠.dR:=λz=>hundo (by rw[YJ,<-SN,z])
 have h2:gx x.ev≠.rel:=λz=>hrel (by rw[YJ,<-SN,z])
 obtain⟨r1,r2⟩:=(hund h1).2 h2;rw[r2]at hV;rw[r1];have lc:=@dB _ _ _ (eW.some mc);refine Rs (mU t0 t3 t8 @st @lb @bB q2 q3 @z0 @aG) ?_;refine WF.res T.c47 (r47 T (oV.ext Xx) wV) ?_;rintro _ g6 ⟨U,hU,rfl,oU⟩;refine Rs (A5 t0 t3 t8 @lc @aG) ?_;refine WF.ce T.c46 (r46 T oU (oO.ext (eW.trans Xx)) (hU.trans (hV.trans hO.symm)) (by rw[hU];exact wV)) λg7=>?_
 exact Rs (A4 t0 t3 t8 @aar) Tv
end
section
variable {P:Program}(T:fq P) {h:ah}
include T
def r8(ha:∀k,Ext h k->ay P 15 [] k (λv _=>v=.bool true)){L:List EV}{s:AV}(o:du h L s)(sz:zZ L)(gl:Gl h){x:EV}(ox:bh h x)(zx:DX x):ay P 8 [s,.agg x.row] h (λv _=>v=.bool true):=by
 refine .of T.mix (acv T.c8 (aax some Og)) ?_;obtain⟨ts,SH⟩:∃ts,ts=aW 268 [s,.agg x.row]:=⟨_,rfl⟩;have hlen:ts.length=268:=by rw[SH];rfl
 have t0:slot ts 0=s:=by rw[SH];rfl
 have t1:slot ts 1=.agg x.row:=by rw[SH];rfl
 show WC P bJ (.seq (mY 0).hd (.seq (mY 1).hd (.seq (mY 2).hd (.seq (mY 3).hd (.seq (mY 4).hd (mY 5)))))) [] (aW 268 [s,.agg x.row]) h (FQ [(4,none)] (J4 h));rw[<-SH];clear SH;generalize hR:mY 5=R;unfold mY fn8;simp only[ai.j,ai.s,ai.r,ai.dr,ai.tl,ai.hd];have SG:=@bh.box _ _ ox;refine Rs (A3 t0 t1 @SG) ?_;obtain⟨H0,Vj⟩:∃Z,Z=h++[ak.cells x.row true false]:=⟨_,rfl⟩;have e0:Ext h H0:=by rw[Vj];exact⟨_,rfl⟩
 have m3:H0[h.length]? =some (.cells x.row true false):=by rw[Vj];exact ba
 obtain⟨b3,Vh⟩:∃Z,Z=h.length:=⟨_,rfl⟩;have l3:=@dB _ _ _ m3;rw[<-Vj];rw[<-Vh]at m3 l3 ⊢;have o:=o.ext e0;have ox:=ox.ext e0;have gl:=gl.ext e0;have ha0:∀k,Ext H0 k->ay P 15 [] k (λv _=>v=.bool true):=λk e=>ha k (e0.trans e)
 clear Vj SG Vh;refine WF.ce T.c33 (r33 T o sz De) λg1=>?_
 by_cases hacc:gQ (L.map EV.ev) 18=true/\(aN (L.map EV.ev)).2.2=0
 case neg=>
  have hf:(gQ (L.map EV.ev) 18&&decide ((aN (L.map EV.ev)).2.2=0))=false:=by
   cases hs:gQ (L.map EV.ev) 18 with
   |false=>rfl
   |true=>rw[abu];exact Z3 λz=>hacc ⟨hs,z⟩
  rw[hf];exact KU
 obtain⟨hsh,hr⟩:=hacc;rw[hsh,Z8 hr];obtain⟨sh,nl,_,_⟩:=n9 hsh De;have hl18:L.length<=18:=by
  rw[gQ,aaD,aaK,aaa]at hsh;have:=hsh.1;omega
 have bt:(true&&true)=true:=rfl;have bs:=@bh.Dt _ _ ox;refine Rs (A7 t0 t1 @bt @aar @l3 @bR @bs) ?_;have o1:du (H0++g1++[ak.cells x.row true true]) [x] (.slice (H0++g1).length 0 1 5):=by
  refine⟨?_,λy hy=>by rw[aam]at hy;rw[hy];exact ox.ext Xx⟩;have:=(Fr.push (N:=0) (es:=5) (h:=H0++g1) (aaC _) [x.row] (by intro y hy;rw[aam]at hy;rw[hy];rfl)).aY
  simpa only[aa5,abW,aaw,Z5,Z9,aaP,aaX,abF]using this
 refine WF.ce T.c14 (r14 T o1 (by rw[aau];decide) (λy hy=>by rw[aam]at hy;rw[hy];exact zx.n) De) λg2=>?_
 cases hsx:gQ ([x].map EV.ev) 1 with
 |false=>
  exact KU
 |true=>
 obtain⟨sx,nx,_,_⟩:=n9 hsx De;have hx:=sx.e x (aam.2 rfl);have hn:=nx.n x (aam.2 rfl);refine Rs (A3 t0 t1 @aar) ?_;refine WF.res T.c34 (r34 T (o.ext Xx) sh (gl.ext Xx)) ?_;rintro _ g3 ⟨V1,rfl,h1,o1,w1⟩;have kM:=@aB.st _ _ o1;rw[hr];refine Rs (A3 t0 t1 @kM) ?_;obtain⟨K1,U7⟩:∃Z,Z=H0++g1++[ak.cells x.row true true]++g2++g3++[ak.cells V1.row true false]:=⟨_,rfl⟩;have e1:Ext H0 K1:=by rw[U7];exact Xx
 have m5:K1[(H0++g1++[ak.cells x.row true true]++g2++g3).length]? =some (.cells V1.row true false):=by rw[U7];exact ba
 have o1:aB K1 V1:=by rw[U7];exact o1.ext Xx
 obtain⟨b5,hb5⟩:∃Z,Z=(H0++g1++[ak.cells x.row true true]++g2++g3).length:=⟨_,rfl⟩;rw[<-U7];rw[<-hb5]at m5 ⊢;clear U7 hb5;refine WF.res T.c18 (r18 T (o.ext e1) sh nl) ?_;rintro _ g4 ⟨O,rfl,o3,h3,w3,lo3⟩;have nC:=@aB.st _ _ o3;rw[hr];refine Rs (A3 t0 t1 @nC) ?_;obtain⟨K2,ZW⟩:∃Z,Z=K1++g4++[ak.cells O.row true false]:=⟨_,rfl⟩;have e2:Ext K1 K2:=by rw[ZW];exact Xx
 have m8:K2[(K1++g4).length]? =some (.cells O.row true false):=by rw[ZW];exact ba
 have o3:aB K2 O:=by rw[ZW];exact o3.ext Xx
 obtain⟨b8,hb8⟩:∃Z,Z=(K1++g4).length:=⟨_,rfl⟩;rw[<-ZW];rw[<-hb8]at m8 ⊢;clear ZW hb8;have l5:=@dB _ _ _ (e2.some m5);have l8:=@dB _ _ _ m8;have z0:decide ((0:Int)≠0)=false:=rfl;refine Rs (A5 t0 t1 @z0 @l5 @aG) ?_;refine WF.res T.c47 (r47 T (o1.ext e2) w1) ?_;rintro _ g5 ⟨U,hU,rfl,oU⟩;refine Rs (A4 t0 t1 @l8 @aG) ?_;refine WF.ce T.c46 (r46 T oU (o3.ext Xx) (hU.trans (h1.trans h3.symm)) (by rw[hU];exact w1)) λg6=>?_
 refine Rs (A3 t0 t1 @aar) ?_;rw[<-hR,Od,qh];have Yp:=(e0.trans e1).trans e2;have e2':Ext H0 K2:=e1.trans e2;refine WC.cut _ (Lj T o sh nl gl Om hr e2' o3 w3 h3 m8 (W:=K2++g5++g6) Xx (ox.ext (e2'.trans Xx)) hx hn ((e2'.trans Xx).some m3) Sn (Sq t0) Sw Sw) ?_;rintro e ts W2 ⟨rfl,e5,hlen,t0,t8⟩;rw[rk];refine WC.CV (Lh T o sh nl gl Om hr e2' o3 w3 h3 m8 ((show Ext K2 (K2++g5++g6)from Xx).trans e5) e0 ha0 hlen t0 t8) ?_;intro e ts' h' hq;exact hq
end
end Go.Abs
