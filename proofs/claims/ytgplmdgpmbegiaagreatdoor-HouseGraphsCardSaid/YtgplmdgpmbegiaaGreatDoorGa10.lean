/- A part of the proof that HouseGraphs holds. No condition. -/
import Derived.Test.YtgplmdgpmbegiaaGreatDoorGa9
import Derived.Test.YtgplmdgpmbegiaaGreatDoorGa8
import Derived.Test.YtgplmdgpmbegiaaGreatDoorGa7
import Derived.Test.YtgplmdgpmbegiaaGreatDoorGa0
set_option maxHeartbeats 4000000
set_option linter.all false
open Nat (reduceAdd reduceMul reduceLeDiff reduceEqDiff)
namespace Go.Abs
def wY(k:Nat):ai:=(fn81).body.dr k
def DK(k:Nat):ai:=((fn81).body.dr k).hd
def Ni:fn81=⟨110,1,[(2,none),(3,some (some 7)),(4,none),(5,none)],.seq (DK 0) (wY 1)⟩:=rfl
def Nh:wY 1=.seq (DK 1) (wY 2):=rfl
def Ng:wY 2=.seq (DK 2) (wY 3):=rfl
def Nf:wY 3=.seq (DK 3) (wY 4):=rfl
def Nd:wY 4=.seq (DK 4) (wY 5):=rfl
def Qi(M:Nat)(l:List gq):AV->ah->Prop:=λv k=>
 ∃(sc:AV) (V:RV) (C:List EV),v=.dN [sc,.agg V.row,.i (cj l).2.1,.i (cj l).2.2]/\aC k V/\V.an=(cj l).1.now/\fk V.an/\fo k C sc/\C.map EV.ev=(cj l).1.fw/\C.length<=1000/\∀i,some i∈V.bl->M<i
def MB(h:ah)(l:List gq):AV->ah->Prop:=λv k=>Ext h k/\Qi h.length l v k
structure Mj(h W:ah)(L:List EV)(k:Nat)(C:List EV)(A:List RV)(sc sa:AV):Prop where
 x:Ext h W
 b:W[h.length]? =some (.b kK)
 c:aH (fL [some h.length] W) sc 5 (C.map EV.row)
 ce:∀e∈C,bt (fL [some h.length] W) e
 a:aH (fL [some h.length] W) sa 7 ((RV.zero::A).map RV.row)
 ae:∀R∈A,aC (fL [some h.length] W) R
 al:∀R∈A,∀i,some i∈R.bl->h.length<i
 w:lQ ⟨(L.take k).map EV.ev,C.map EV.ev,A.map RV.an⟩
 r:cj (L.map EV.ev)=rZ ⟨(L.take k).map EV.ev,C.map EV.ev,A.map RV.an⟩ ((L.drop k).map EV.ev) k
def yw{W W2 b}(e:Ext W W2):jt (fL [some b] W) (fL [some b] W2):=nI (λi hi _=>e.get hi) λ_ _ h=>h
def Bg{W b X}:jt (fL [some b] W) (W.set b X):=λi c mu tl hb=>by
 obtain⟨h1,h2⟩:=rn hb;have:i≠b:=λe=>h1 (by rw[e];simp)
 rw[Yc (Zk this)];exact h2
def Mj.ext{h W W2 L k C A sc sa}(s:Mj h W L k C A sc sa)(e:Ext W W2):Mj h W2 L k C A sc sa:=
 ⟨s.x.trans e,e.some s.b,s.c.sub (yw e),λy hy=>(s.ce y hy).sub (yw e),s.a.sub (yw e),λy hy=>(s.ae y hy).sub (yw e),s.al,s.w,s.r⟩
def J4{h W}(e:Ext h W):jt h (fL [some h.length] W):=λi c mu tl hb=>by
 have hl:=(XT.1 hb).1;rw[tY (by intro z;simp only[Yl,Yq]at z;omega)];exact e.some hb
def BE{h k l i e}(he:e≠0)(hr:cj l=(kI.zero,i,e))(hx:Ext h k):MB h l (.dN [.af,.agg RV.zero.row,.i i,.i e]) k:=by
 refine⟨hx,.af,RV.zero,[],by rw[hr],aC.zero,by rw[hr];rfl,fk.zero,⟨.nil,λ_ h=>by cases h⟩,by rw[hr];rfl,Si,λi hi=>by simp[RV.zero,RV.bl,sB]at hi⟩
def J3:Option AV->Option AV->Option AV->Option AV->Option AV
 |some a,some b,some c,some d=>some (.dN [a,b,c,d])
 |_,_,_,_=>none
def lu{a b c d}:J3 (some a) (some b) (some c) (some d)=some (.dN [a,b,c,d]):=rfl
def gp{ts h r s t u}:cT [r,s,t,u] ts h=J3 (dB ts h r) (dB ts h s) (dB ts h t) (dB ts h u):=by
 simp only[cT,iS];cases dB ts h r<;>cases dB ts h s<;>cases dB ts h t<;>cases dB ts h u<;>rfl
def Lu{A n}(hn:n=A.length):(RV.zero::A)[n]? =some (A.getLastD RV.zero):=by
 subst hn;rcases lV A with rfl|⟨m,y,rfl⟩
 ·rfl
 ·simp
def Ad(A:List RV):(A.getLastD RV.zero).an=(A.map RV.an).getLastD gx.zero:=by
 rcases lV A with rfl|⟨m,y,rfl⟩
 ·rfl
 ·simp
set_option maxRecDepth 10000
attribute [local irreducible] WP WC WE WB WR WF WL WG gg WM
section
variable {P:Program}(T:fI P) {h W:ah}{ts:TS}
include T
def DJ{L s}(o:fo h L s)(sh:yh L)(hnl:∀x∈L,∀n∈x.ev.names,n.length<2^63)(hl:L.length<=1000){sa}(st:Mj h W L 0 [] [] .af sa)(hlen:ts.length=110)(t0:slot ts 0=s)(t3:slot ts 3=.ptr h.length 0)(t6:slot ts 6=.af)(t7:slot ts 7=sa):
  WC P bT (wY 4) [] ts W (FQ [(2,none),(3,some (some 7)),(4,none),(5,none)] (MB h (L.map EV.ev))):=by
 rw[Nd];generalize hE:wY 5=E;unfold DK fn81;simp only[ai.j,ai.s,ai.r,ai.dr,ai.tl,ai.hd];refine Rs (A4 t0 t3 t6 t7) ?_;refine WL.inv T.mix (λm ts W=>∃(k:Nat) (C:List EV) (A:List RV) (sc sa:AV),k<=L.length/\m=L.length-k/\Mj h W L k C A sc sa/\ts.length=110/\slot ts 0=s/\slot ts 3=.ptr h.length 0/\slot ts 6=sc/\slot ts 7=sa/\slot ts 8=.i k) L.length
  ⟨0,[],[],.af,sa,Om,rfl,st,Sn,(Sq t0),(Sq t3),(Sq t6),(Sq t7),iQ⟩ ?_
 clear t0 t3 t6 t7 hlen st;rintro _ ts W ⟨k,C,A,sc,sa,hk,rfl,st,hlen,t0,t3,t6,t7,t8⟩;have hAC:A.length=C.length:=by have:=st.w.ln;simpa using this
 have hCl:C.length<=L.length:=by have:=st.w.le;simp only[X2,YQ]at this;omega
 have oW:=o.ext st.x;have U1:=st.c.sub (jt.fL _ _);have sta:=st.a.sub (jt.fL _ _);have stae:∀R∈A,aC W R:=λR hR=>(st.ae R hR).sub (jt.fL _ _)
 obtain⟨N,hN⟩:∃N,N=A.getLastD RV.zero:=⟨_,rfl⟩;have hgN:(RV.zero::A)[C.length]? =some N:=by rw[hN];exact Lu hAC.symm
 have hCA:C.length<(RV.zero::A).length:=by simp only[XX];omega
 have hgN':(RV.zero::A)[C.length]=N:=by rw[XY hCA]at hgN;exact YU hgN
 have ix:aX 7 sa (.i (C.length:Int))=some (cW sa 7 C.length,.au):=sta.dM hCA;have ld:∀{kk:ah},Ext W kk->ar (some 7) (cW sa 7 C.length) (λb=>kk[b]?)=some (.agg N.row,.au):=λ{kk} e=>by rw[<-hgN'];exact sta.kR hCA e
 have oN:aC (fL [some h.length] W) N:=by
  rcases lV A with hA|⟨m,y,hA⟩
  ·rw[hN,hA];exact aC.zero
  ·have:N=y:=by rw[hN,hA];simp
   rw[this];exact st.ae y (by rw[hA];simp)
 have lN:∀i,some i∈N.bl->h.length<i:=by
  rcases lV A with hA|⟨m,y,hA⟩
  ·intro i hi;rw[hN,hA]at hi;simp[RV.zero,RV.bl,sB]at hi
  ·have:N=y:=by rw[hN,hA];simp
   rw[this];exact st.al y (by rw[hA];simp)
 have hNr:N.an=(A.map RV.an).getLastD gx.zero:=by rw[hN];exact Ad A
 have wN:fk N.an:=by rw[hNr];exact st.w.now
 have hbl:=(XT.1 st.b).1;by_cases hlt:k<L.length
 case neg=>
  have e3:=gK hlt;have e4:k=L.length:=Om
  have hr:=st.r;rw[e4,YS]at hr;have Ub:cj (L.map EV.ev)=(⟨(L.take L.length).map EV.ev,C.map EV.ev,A.map RV.an⟩,0,0):=hr;have Su:=oN.IS st.b;have gm:=n9 (W:=W) (b:=h.length) (V:=N) hbl;refine Rs (A7 t0 t3 t6 t7 t8 oW.sl.aM e3) ?_;rw[<-hE];unfold wY fn81;simp only[ai.j,ai.s,ai.r,ai.dr,ai.tl];refine Rs (C8 t0 t3 t6 t7 t8 U1.aM ix @ld @Su @aE @gm @gp @c7 @c8 @lu) ?_;exact⟨st.x.iR (X8 _),sc,N,C,by rw[Ub],oN.sub Bg,by rw[Ub,hNr];rfl,wN,⟨st.c.sub Bg,λy hy=>(st.ce y hy).sub Bg⟩,by rw[Ub],Om,lN⟩
 have e3:=fF hlt;have e5:=wrapN (n:=k) Om;have ik:=oW.sl.dM (kk:=.i64) hlt;obtain⟨x,hx⟩:∃x,x=L[k]:=⟨_,rfl⟩;have R0:x∈L:=by rw[hx];exact Ya _
 have lx:∀{kk:ah},Ext W kk->ar (some 5) (cW s 5 k) (λb=>kk[b]?)=some (.agg x.row,.au):=λ{kk} e=>by rw[hx];exact oW.sl.kR hlt e
 have lx0:∀{kk:ah},Ext W kk->ar none (lK s 5 k 0) (λb=>kk[b]?)=some (.i x.ev.num,.au):=λ{kk} e=>oW.sl.pY hlt (by rw[<-hx];rfl) e
 have lx1:∀{kk:ah},Ext W kk->ar none (lK s 5 k 1) (λb=>kk[b]?)=some (.str x.ev.kind,.au):=λ{kk} e=>oW.sl.pY hlt (by rw[<-hx];rfl) e
 have ox:bt W x:=oW.all x R0;have hd:L.drop k=x::L.drop (k+1):=by rw[hx];simp
 have Rc:(L.take (k+1)).map EV.ev=(L.take k).map EV.ev++[x.ev]:=by rw[YF,XY hlt,X4,hx];rfl
 have QU:=st.r;rw[hd,YR,rZ]at QU;obtain⟨H,hH⟩:∃H:kI,H=⟨(L.take k).map EV.ev,C.map EV.ev,A.map RV.an⟩:=⟨_,rfl⟩;rw[<-hH]at QU;have hHe:H.dt.length=k:=by rw[hH];simp only[X2,YQ];omega
 have wH:lQ H:=by rw[hH];exact st.w
 have hNow:N.an=H.now:=by rw[hNr,hH];rfl
 have sbz:∀{kk:ah},Ext W kk->aW 7 (.ptr h.length 0) (.agg [AV.i 0,.af,.af,.af,.af,.af,.af]) (λz=>kk[z]?)=some (az,.set h.length (.b RV.zero.row)):=λ{kk} e=>(aC.zero (h:=W)).IS (e.some st.b)
 have fin:∀{W' G:ah}{c:Int},Ext h W'->fU H x.ev=c->c≠0->MB h (L.map EV.ev) (.dN [.af,.agg RV.zero.row,.i ((k+1:Nat):Int),.i c]) (W'.set h.length (.b RV.zero.row)++G):=by
  intro W' G c e hb h0;refine BE h0 ?_ ((e.iR (X8 _)).trans ⟨G,rfl⟩);rw[QU,X9 (by rw[hb];exact h0),hb];simp
 have gmz:∀{W' G:ah},h.length<W'.length->ar (some 7) (.ptr h.length 0) (λz=>(W'.set h.length (.b RV.zero.row)++G)[z]?)=some (.agg RV.zero.row,.au):=λ{W' G} hb=>by
  rw[aA (by rw[XW (by rw[YD];exact hb)];exact Yd hb)];rfl
 have S4:=(sh.e x R0);refine Rs (A9 t0 t3 t6 t7 t8 oW.sl.aM e3 @ik @lx) ?_;refine WF.ce T.c39 (r39 T (ox.ext Xx) ⟨Om,Om⟩ (hnl x R0)) λg1=>?_
 obtain⟨W1,TE⟩:∃Z,Z=W++g1:=⟨_,rfl⟩;rw[<-TE];have e1:Ext W W1:=⟨g1,TE⟩;have lx0:∀{kk:ah},Ext W1 kk->ar none (lK s 5 k 0) (λb=>kk[b]?)=some (.i x.ev.num,.au):=λ{kk} e=>lx0 (e1.trans e)
 have lx1:∀{kk:ah},Ext W1 kk->ar none (lK s 5 k 1) (λb=>kk[b]?)=some (.str x.ev.kind,.au):=λ{kk} e=>lx1 (e1.trans e)
 have lx:∀{kk:ah},Ext W1 kk->ar (some 5) (cW s 5 k) (λb=>kk[b]?)=some (.agg x.row,.au):=λ{kk} e=>lx (e1.trans e)
 have ld:∀{kk:ah},Ext W1 kk->ar (some 7) (cW sa 7 C.length) (λb=>kk[b]?)=some (.agg N.row,.au):=λ{kk} e=>ld (e1.trans e)
 have sbz:∀{kk:ah},Ext W1 kk->aW 7 (.ptr h.length 0) (.agg [AV.i 0,.af,.af,.af,.af,.af,.af]) (λz=>kk[z]?)=some (az,.set h.length (.b RV.zero.row)):=λ{kk} e=>sbz (e1.trans e)
 have VC:h.length<W1.length:=by have:=e1.len;omega
 have UU:=λ{G:ah}=>gmz (G:=G) VC
 have st:=st.ext e1;have stx:=st.x;have d11:decide ((11:Int)=0)=false:=rfl;have d11':decide ((11:Int)≠0)=true:=rfl;have d12:decide ((12:Int)=0)=false:=rfl;have d21:decide ((21:Int)=0)=false:=rfl;have d12':decide ((12:Int)≠0)=true:=rfl;have d21':decide ((21:Int)≠0)=true:=rfl;have d0:decide ((0:Int)=0)=true:=rfl;have d0':decide ((0:Int)≠0)=false:=rfl;by_cases h1:gV x.ev=0
 case neg=>
  have q1:decide (gV x.ev=0)=false:=XU h1;have q2:decide (gV x.ev≠0)=true:=XZ h1;refine Rs (C8 t0 t3 t6 t7 t8 U1.aM q1 q2 e5 @sbz @gp @c7 @c8 @lu @UU) ?_;exact fin stx (by rw[fU,X9 h1]) h1
 have q1:decide (gV x.ev=0)=true:=XZ h1;have q1':decide (gV x.ev≠0)=false:=XU (λz=>z h1);obtain⟨d,we⟩:=xZ h1;have hkD:=we.pv;have QW:x.ev.kind=bA d:=cC we.kd;have Vh:fU H x.ev=ke H x.ev:=by rw[fU,X5 (λz=>z h1)]
 by_cases h2:x.ev.num=((k+1:Nat):Int)
 case neg=>
  have q3:decide (x.ev.num≠((k+1:Nat):Int))=true:=XZ h2;refine Rs (Qm t0 t3 t6 t7 t8 U1.aM q1 @ik @lx0 e5 q3 @d11 @d11' @sbz @gp @c7 @c8 @lu @UU) ?_;exact fin stx (by rw[Vh,ke,X9 (by rw[hHe];simpa using h2)]) De
 have q3:decide (x.ev.num≠((k+1:Nat):Int))=false:=XU (λz=>z h2);have SV:¬x.ev.num≠(H.dt.length:Int)+1:=by rw[hHe];simpa using h2
 by_cases hu:d=.fp
 case pos=>
  have hK:pv x.ev=.fp:=by rw[hkD,hu]
  have q4:decide (bA d=[117,110,100,111])=true:=by rw[n6,hu];rfl
  rcases lV C with hC|⟨M,c,hC⟩
  ·have q5:decide ((C.length:Int)=0)=true:=by rw[hC];rfl
   refine Rs (Qk t0 t3 t6 t7 t8 U1.aM q1 @ik @lx0 @lx1 e5 q3 @QW q4 q5 @d12 @d12' @sbz @gp @c7 @c8 @lu @UU) ?_;refine fin (c:=12) stx ?_ De;rw[Vh,ke,X5 SV,X9 hK,hH,hC];rfl
  ·have hCl2:C.length=M.length+1:=by rw[hC];simp
   have q5:decide ((C.length:Int)=0)=false:=XU Om;have w1:IntKind.i64.wrap ((C.length:Int)-1)=(M.length:Int):=by rw[bw Om Om];omega
   have hMl:M.length<C.length:=Om
   have hcM:C[M.length]=c:=by simp[hC]
   have ic:aX 5 sc (.i (M.length:Int))=some (cW sc 5 M.length,.au):=U1.dM hMl;have lc:∀{kk:ah},Ext W1 kk->ar none (lK sc 5 M.length 1) (λb=>kk[b]?)=some (.str c.ev.kind,.au):=λ{kk} e=>U1.pY hMl (by rw[hcM];rfl) (e1.trans e)
   obtain⟨dc,wc⟩:=st.w.cn c.ev (Ym (by rw[hC];simp));have hkc:c.ev.kind=bA dc:=cC wc.kd;have hlast:H.fw.getLast? =some c.ev:=by rw[hH,hC];simp
   by_cases hr:dc=.rel
   ·have q6:decide (bA dc=[114,101,108,101,97,115,101])=true:=by rw[qA,hr];rfl
    repeat (first|simp (config:={maxSteps:=1000000}) only[aQ,aT,ba,bd,reduceAdd,reduceMul,reduceLeDiff,reduceEqDiff,bg,hlen,Yb,Yf,t0,t3,t6,t7,t8,U1.aM,q1,ik,lx0,lx1,e5,q3,QW,q4,q5,w1,ic,lc,hkc,q6,d21,d21',sbz,gp,c7,c8,lu,UU]|simp (config:={maxSteps:=1000000}) (disch:=first|(simp only[XS,XX,X1]<;>omega)|rfl|omega|fail) only[eo,aQ,aT,ba,bd,reduceAdd,reduceMul,reduceLeDiff,reduceEqDiff,bg,hlen,Yb,Yf,t0,t3,t6,t7,t8,U1.aM,q1,ik,lx0,lx1,e5,q3,QW,q4,q5,w1,ic,lc,hkc,q6,d21,d21',sbz,gp,c7,c8,lu,UU])
    refine fin (c:=21) stx ?_ De;rw[Vh,ke,X5 SV,X9 hK,hlast];simp only[wc.pv,hr,Yf]
   ·have q6:decide (bA dc=[114,101,108,101,97,115,101])=false:=by rw[qA];exact XU hr
    have R3:fU H x.ev=0:=by
     rw[Vh,ke,X5 SV,X9 hK,hlast];simp only[wc.pv,hr,Yb]
    obtain⟨Rj,ec,hsc⟩:=st.c.FG (lo:=none) (hi:=some (.i (M.length:Int))) (jH Om);obtain⟨sa',ea,hsa⟩:=st.a.FG (lo:=none) (hi:=some (.i (C.length:Int))) (jH (by simp;omega));refine Rs (MC t0 t3 t6 t7 t8 U1.aM q1 @ik @lx0 @lx1 e5 q3 @QW q4 q5 @w1 @ic @lc @hkc q6 @ec @ea) ?_;rcases lV A with hA|⟨D,R,hA⟩
    ·rw[hA]at hAC;simp only[X1]at hAC;omega
    have hCM:List.take (M.length-0) (List.drop 0 C)=M:=by rw[hC];simp
    have hDl:D.length=M.length:=by have:=hAC;rw[hA]at this;simp only[XS,Yn]at this;omega
    have hAD:List.take (C.length-0) (List.drop 0 (RV.zero::A))=RV.zero::D:=by
     rw[hCl2,hA,Nat.sub_zero,Zj,ZO,<-hDl];simp
    rw[hCM]at hsc;rw[hAD]at hsa;have TD:nC H x.ev=⟨(L.take (k+1)).map EV.ev,M.map EV.ev,D.map RV.an⟩:=by
     rw[nC,X9 hK,hH,Rc,hC,hA];simp
    refine⟨_,Om,k+1,M,D,Rj,sa',Om,rfl,⟨stx,st.b,hsc,λy hy=>st.ce y (by rw[hC];simp[hy]),hsa,λy hy=>st.ae y (by rw[hA];simp[hy]),λy hy=>st.al y (by rw[hA];simp[hy]),?_,?_⟩,rfl,rfl,rfl⟩
    ·rw[<-TD];exact wH.add R3
    ·rw[QU,X5 (λz=>z R3),TD]
 case neg=>
 have hK:pv x.ev≠.fp:=by rw[hkD];exact hu
 have q4:decide (bA d=[117,110,100,111])=false:=by rw[n6];exact XU hu
 have hacs:fU H x.ev=jr N.an x.ev d:=by rw[Vh,ke,X5 SV,X5 hK,hkD,<-hNow]
 refine Rs (FD t0 t3 t6 t7 t8 U1.aM q1 @ik @lx0 @lx1 @lx e5 q3 @QW q4 ix @ld) ?_;have ox1:=ox.ext e1;have oN1:aC W1 N:=(oN.sub (jt.fL _ _)).ext e1;refine WF.res T.c129 (r129 T (d:=d) (oN1.ext Xx) wN (ox1.ext Xx) we hu) ?_;rintro _ g2 ⟨V',rfl,Xd,VO⟩;obtain⟨W2,Rt⟩:∃Z,Z=W1++[ak.b [AV.i 0,.af,.af,.af,.af,.af,.af]]++g2:=⟨_,rfl⟩;rw[<-Rt]at Xd ⊢;have e2:Ext W1 W2:=by rw[Rt,XV];exact⟨_,rfl⟩
 have m2:W2[W1.length]? =some (.b kK):=by
  rw[Rt];exact(show Ext (W1++[ak.b kK]) _ from⟨g2,rfl⟩).some bh
 have hl2:W1.length<W2.length:=(XT.1 m2).1;have sbn:=Xd.IS m2;obtain⟨W3,Ra⟩:∃Z,Z=W2.set W1.length (.b V'.row):=⟨_,rfl⟩;have e3':Ext W1 W3:=by rw[Ra];exact e2.iR (X8 _)
 have x3:Ext h W3:=stx.trans e3';have m3:W3[W1.length]? =some (.b V'.row):=by rw[Ra];exact Yd hl2
 have Xz:W3.length=W2.length:=by rw[Ra,YD]
 have k3:∀i,i≠W1.length->W3[i]? =W2[i]? :=λi hi=>by rw[Ra,Yc (Zk hi)]
 have sbz3:=sbz e3';have gmz3:ar (some 7) (.ptr h.length 0) (λz=>(W3.set h.length (.b RV.zero.row))[z]?)=some (.agg RV.zero.row,.au):=n9 Om;have nL:=st.ext e3';by_cases h5:jr N.an x.ev d=0
 case neg=>
  have q5:decide (jr N.an x.ev d≠0)=true:=XZ h5;have ef:=fin (W':=W3) (G:=[]) x3 hacs h5;rw[Yo]at ef;rw[Ra]at sbz3 gmz3 ef;refine Rs (AH t0 t3 t6 t7 t8 @sbn q5 e5 @sbz3 @gp @c7 @c8 @lu @gmz3) ?_;exact ef
 have q5:decide (jr N.an x.ev d≠0)=false:=XU (λz=>z h5);have R3:fU H x.ev=0:=by rw[hacs,h5]
 obtain⟨hVr,hVb⟩:=VO h5;have hVb:∀i,some i∈V'.bl->W1.length<i:=λi hi=>by have:=hVb i hi;simp only[XS,Yn]at this;omega
 refine Rs (A7 t0 t3 t6 t7 t8 @sbn q5) ?_;rw[<-Ra];have stc3:=nL.c.sub (jt.fL _ _);refine WR.qo (N:=W3.length) (w:=88) bh (X8 _) (stc3.ext Xx) (by rw[X2];omega) λa1 y1 f1=>?_
 have p1:=f1.a8.one;obtain⟨Y,hY⟩:∃Z,Z=W3++[ak.b []]++y1:=⟨_,rfl⟩;rw[<-hY]at f1 ⊢;have eY:Ext W3 Y:=by rw[hY,XV];exact⟨_,rfl⟩
 have lxY:∀{kk:ah},Ext Y kk->ar (some 5) (cW s 5 k) (λb=>kk[b]?)=some (.agg x.row,.au):=λ{kk} e=>lx ((e3'.trans eY).trans e)
 have bs:=@bt.Gk _ _ ox;refine Rs (A9 t0 t3 t6 t7 t8 @ik @lxY @bs @p1) ?_;refine WR.qp (B:=W3) (cs:=C.map EV.row) f1 rfl eY De (by rw[X2];omega) ?_;intro W4 s4 x4 hf4 hn4 q4' l4 hk4;have hrow:C.map EV.row++[x.row]=(C++[x]).map EV.row:=by rw[X4];rfl
 rw[hrow]at hf4;have st4:=nL.ext x4;have sta4:=st4.a.sub (jt.fL _ _);refine Rs (A5 t0 t3 t6 t7 t8) ?_;refine WR.qo (N:=W4.length) (w:=152) bh (X8 _) (sta4.ext Xx) (by simp only[X2,XX];omega) λa2 y2 f2=>?_
 have p2:=f2.a8.one;obtain⟨Y2,Tj⟩:∃Z,Z=W4++[ak.b []]++y2:=⟨_,rfl⟩;rw[<-Tj]at f2 ⊢;have TI:Ext W4 Y2:=by rw[Tj,XV];exact⟨_,rfl⟩
 have lnx:∀{kk n a},Ext Y2 kk->ar n (.ptr W1.length a) (λz=>kk[z]?)=dJ n a (.b V'.row):=λ{_ _ _} e=>aA (((x4.trans TI).trans e).some m3)
 have bv:=@aC.Gk _ _ Xd;refine Rs (A9 t0 t3 t6 t7 t8 @lnx @aE @bv @p2) ?_;refine WR.qp (B:=W4) (cs:=(RV.zero::A).map RV.row) f2 rfl TI De (by simp only[X2,XX];omega) ?_;intro W5 s5 x5 XG hn5 q5' l5 hk5;have hrow2:(RV.zero::A).map RV.row++[V'.row]=(RV.zero:: (A++[V'])).map RV.row:=Si
 rw[hrow2]at XG;have st5:=st4.ext x5;have oV5:aC W5 V':=((Xd.au λi hi=>k3 i (by have:=hVb i hi;omega)).ext x4).ext x5;have TD:nC H x.ev=⟨(L.take (k+1)).map EV.ev,(C++[x]).map EV.ev,(A++[V']).map RV.an⟩:=by
  rw[nC,X5 hK,hkD,hH,Rc];simp only[X4,YR,ZM,hVr];rw[<-hNow,hH]at *
  first|rfl|simp[hNr,kI.now]
 have hlW3:h.length<W3.length:=Om
 have hl4:W3.length<=W4.length:=x4.len;refine Rs (A6 t0 t3 t6 t7 t8 e5) ?_;refine⟨_,Om,k+1,C++[x],A++[V'],s4,s5,Om,rfl,⟨x3.trans (x4.trans x5),st5.b,(hf4.ext x5).a8.fL λb hb z=>?_,λy hy=>?_,XG.a8.fL λb hb z=>?_,λR hR=>?_,λR hR=>?_,?_,?_⟩,rfl,rfl,rfl⟩
 ·have:=(hf4.bQ hb).1;exact Mm
 ·rcases X3.1 hy with hy|hy
  ·exact st5.ce y hy
  ·rw[Yl]at hy;rw[hy];exact(o.all x R0).sub (J4 (x3.trans (x4.trans x5)))
 ·have:=(XG.bQ hb).1;exact Mm
 ·rcases X3.1 hR with hR|hR
  ·exact st5.ae R hR
  ·rw[Yl]at hR;rw[hR];exact oV5.fL λi hi z=>by
    have:=hVb i hi;exact Mm
 ·rcases X3.1 hR with hR|hR
  ·exact st5.al R hR
  ·rw[Yl]at hR;rw[hR];intro i hi;have:=hVb i hi;omega
 ·rw[<-TD];exact wH.add R3
 ·rw[QU,X5 (λz=>z R3),TD]
def r81{L s}(o:fo h L s)(sh:yh L)(hnl:∀x∈L,∀n∈x.ev.names,n.length<2^63):ay P 81 [s] h (Qi h.length (L.map EV.ev)):=by
 refine .of T.mix (aaw T.c81 (Yx some Ni)) ?_;obtain⟨ts,QP⟩:∃ts,ts=aU 110 [s]:=⟨_,rfl⟩;have hlen:ts.length=110:=by rw[QP];rfl
 have t0:slot ts 0=s:=by rw[QP];rfl
 show WC P bT (.seq (DK 0) (wY 1)) [] (aU 110 [s]) h (FQ [(2,none),(3,some (some 7)),(4,none),(5,none)] (MB h (L.map EV.ev)));rw[<-QP];clear QP;have hsl:=sh.l;by_cases h1:1000<L.length
 ·have q1:decide ((1000:Int)<(L.length:Int))=true:=XZ Om;have e:cj (L.map EV.ev)=(kI.zero,0,5):=by rw[cj,X9 (by simpa using h1)]
  have m0:(h++[ak.b kK])[h.length]? =some (.b kK):=bh;have sbz:aW 7 (.ptr h.length 0) (.agg [AV.i 0,.af,.af,.af,.af,.af,.af]) (λz=>(h++[ak.b kK])[z]?)=some (az,.set h.length (.b RV.zero.row)):=(aC.zero (h:=h)).IS m0;unfold kK at sbz;have gmz:ar (some 7) (.ptr h.length 0) (λz=>(h++[ak.b RV.zero.row])[z]?)=some (.agg RV.zero.row,.au):=by rw[aA bh];rfl
  unfold wY DK fn81;simp only[ai.j,ai.s,ai.r,ai.dr,ai.tl,ai.hd];refine Rs (A9 t0 o.sl.aM q1 @sbz @gp @c7 @c8 @lu @gmz) ?_;exact BE De e Xx
 have q1:decide ((1000:Int)<(L.length:Int))=false:=XU Om;rw[Nh,Ng,Nf];generalize hR:wY 4=R;unfold DK fn81;simp only[ai.j,ai.s,ai.r,ai.dr,ai.tl,ai.hd];refine Rs (A3 t0 o.sl.aM q1) ?_;rw[<-hR];have hx:Ext h (h++[ak.b kK]++[ak.cells RV.zero.row true true]):=Xx;have fz:Fr (h.length+1) (h++[ak.b kK]++[ak.cells RV.zero.row true true]) (.slice (h.length+1) 0 1 7) 7 [RV.zero.row]:=by
  have:=Fr.push (h:=h++[ak.b kK]) (N:=h.length+1) (es:=7) Si [RV.zero.row] (λx hx=>by rw[Yl]at hx;rw[hx];rfl)
  simpa using this
 refine DJ T (sa:=.slice (h.length+1) 0 1 7) (W:=h++[ak.b kK]++[ak.cells RV.zero.row true true]) o sh hnl Om ⟨hx,Si,.nil,(λ_ h=>by cases h),fz.a8.fL λb hb z=>?_,(λ_ h=>by cases h),(λ_ h=>by cases h),lQ.zero,?_⟩ Sn (Sq t0) Sw Sw (by simp only[aQ,aT,ba,bd,reduceAdd,reduceMul,reduceLeDiff,reduceEqDiff,bg,hlen,Yb,Yf];simp)
 ·have:=(fz.bQ hb).1;exact Mm
 ·rw[cj,X5 (by simpa using h1)];rfl
end
structure Qj(L:List EV):Prop where
 n:∀x∈L,∀n∈x.ev.names,n.length<2^63
section
variable {P:Program}(T:fI P) {h:ah}
include T
def r18{L s}(o:fo h L s)(sh:yh L)(nl:Qj L):ay P 18 [s] h (λv k=>∃V:RV,v=.dN [.agg V.row,.i (cj (L.map EV.ev)).2.1,.i (cj (L.map EV.ev)).2.2]/\aC k V/\V.an=(cj (L.map EV.ev)).1.now/\fk V.an/\∀i,some i∈V.bl->h.length<i):=by
 refine .kV 19 T.mix T.c18 ?_;intro ts hlen t0;unfold fn18;refine Rs t0 ?_;refine WF.res T.c81 (r81 T (o.ext Xx) sh nl.n) ?_;rintro _ g ⟨sc,V,C,rfl,oV,hV,wV,oC,hC,hCl,lo⟩;have lo:∀i,some i∈V.bl->h.length+1<i:=λi hi=>by have:=lo i hi;simpa using this
 have st:=@aC.st _ _ oV;refine Rs (A3 t0 @st @aE) ?_;refine⟨V,rfl,?_,hV,wV,λi hi=>by have:=lo i hi;omega⟩;have:=oV.au (k:=h++[ak.b V.row]++g) λj hj=>yV (by have:=lo j hj;omega)
 exact this.ext Xx
end
def yz(e:gq):Bool:=decide (e.kind.length<=40)&&decide (e.names.length<=6)&&decide (e.cE.length<=8)&&decide (e.text.length<=200)&&e.names.all λx=>decide (x.length<=40)
section
variable {P:Program}(T:fI P) {h:ah}
include T
def r14{L s}(o:fo h L s)(hl:L.length<2^63)(hn:∀x∈L,x.ev.names.length<2^63){n}(h0:n<=1000):ay P 14 [s,.i n] h (λv _=>v=.bool (lz (L.map EV.ev) n)):=by
 refine .eG 71 T.mix T.c14 ?_;intro ts hlen t0 t1;unfold fn14;by_cases h1:n<L.length
 ·have q1:decide (n<(L.length:Int))=true:=XZ h1;refine Rs (A4 t0 t1 o.sl.aM q1) ?_;rw[lz,XU (by simpa using h1)];rfl
 have q1:decide (n<(L.length:Int))=false:=XU h1;have hsh:lz (L.map EV.ev) n=L.all (λy=>yz y.ev):=by
  rw[lz,XZ (by simp;omega),Zw,List.all_map];rfl
 rw[hsh];refine Rs (A4 t0 t1 o.sl.aM q1) ?_;refine WL.inv T.mix (λm ts h'=>∃k:Nat,k<=L.length/\m=L.length-k/\h' =h/\L.all (λy=>yz y.ev)=(L.drop k).all (λy=>yz y.ev)/\ts.length=71/\slot ts 0=s/\slot ts 5=.i k) L.length
  ⟨0,Om,rfl,rfl,rfl,Sn,(Sq t0),iQ⟩ ?_
 clear t0 t1 hlen;rintro _ ts h' ⟨k,hk,rfl,rfl,hi,hlen,t0,t5⟩;by_cases hlt:k<L.length
 case neg=>
  have e3:=gK hlt;have e4:k=L.length:=Om
  rw[e4,YS]at hi;refine Rs (A4 t0 t5 o.sl.aM e3) ?_;rw[hi];rfl
 have e3:=fF hlt;have e5:=wrapN (n:=k) Om;have ik:=o.sl.dM (kk:=.i64) hlt;obtain⟨x,hx⟩:∃x,x=L[k]:=⟨_,rfl⟩;have R0:x∈L:=by rw[hx];exact Ya _
 have ox:=o.all x R0;have hd:L.drop k=x::L.drop (k+1):=by rw[hx];simp
 rw[hd,Zv]at hi;have l1:∀{kk:ah},Ext h' kk->ar none (lK s 5 k 1) (λb=>kk[b]?)=some (.str x.ev.kind,.au):=λ{kk} e=>o.sl.pY hlt (by rw[<-hx];rfl) e
 have l2:∀{kk:ah},Ext h' kk->ar none (lK s 5 k 2) (λb=>kk[b]?)=some (x.sn,.au):=λ{kk} e=>o.sl.pY hlt (by rw[<-hx];rfl) e
 have l3:∀{kk:ah},Ext h' kk->ar none (lK s 5 k 3) (λb=>kk[b]?)=some (x.sv,.au):=λ{kk} e=>o.sl.pY hlt (by rw[<-hx];rfl) e
 have l4:∀{kk:ah},Ext h' kk->ar none (lK s 5 k 4) (λb=>kk[b]?)=some (.str x.ev.text,.au):=λ{kk} e=>o.sl.pY hlt (by rw[<-hx];rfl) e
 have dc:∀a b:Nat,decide ((b:Int)<(a:Int))= !decide (a<=b):=λa b=>by
  by_cases hc:a<=b
  ·rw[XZ hc,XU Om];rfl
  ·rw[XU hc,XZ Om];rfl
 have c1:decide ((40:Int)<(x.ev.kind.length:Int))= !decide (x.ev.kind.length<=40):=dc _ 40;have c2:decide ((6:Int)<(x.ev.names.length:Int))= !decide (x.ev.names.length<=6):=dc _ 6;have c3:decide ((8:Int)<(x.ev.cE.length:Int))= !decide (x.ev.cE.length<=8):=dc _ 8;have c4:decide ((200:Int)<(x.ev.text.length:Int))= !decide (x.ev.text.length<=200):=dc _ 200;have bad:yz x.ev=false->L.all (λy=>yz y.ev)=false:=λhb=>by rw[hi,hb];rfl
 by_cases b1:x.ev.kind.length<=40
 case neg=>
  have d1:decide (x.ev.kind.length<=40)=false:=XU b1;refine Rs (A9 t0 t5 o.sl.aM e3 @ik @l1 @c1 @d1 @Yr) ?_;rw[bad (by simp only[yz,d1,aaa])]
 have d1:decide (x.ev.kind.length<=40)=true:=XZ b1;by_cases b2:x.ev.names.length<=6
 case neg=>
  have d2:decide (x.ev.names.length<=6)=false:=XU b2;refine Rs (AH t0 t5 o.sl.aM e3 @ik @l1 @l2 @c1 @d1 @c2 @d2 ox.n.aM @Yr @Yk) ?_;rw[bad (by simp only[yz,d2,Bool.and_false,aaa])]
 have d2:decide (x.ev.names.length<=6)=true:=XZ b2;by_cases b3:x.ev.cE.length<=8
 case neg=>
  have d3:decide (x.ev.cE.length<=8)=false:=XU b3;refine Rs (C6 t0 t5 o.sl.aM e3 @ik @l1 @l2 @l3 @c1 @d1 @c2 @d2 @c3 @d3 ox.n.aM ox.v.aM @Yr @Yk) ?_;rw[bad (by simp only[yz,d3,Bool.and_false,aaa])]
 have d3:decide (x.ev.cE.length<=8)=true:=XZ b3;by_cases b4:x.ev.text.length<=200
 case neg=>
  have d4:decide (x.ev.text.length<=200)=false:=XU b4;refine Rs (Ql t0 t5 o.sl.aM e3 @ik @l1 @l2 @l3 @l4 @c1 @d1 @c2 @d2 @c3 @d3 @c4 @d4 ox.n.aM ox.v.aM @Yr @Yk) ?_;rw[bad (by simp only[yz,d4,Bool.and_false,aaa])]
 have d4:decide (x.ev.text.length<=200)=true:=XZ b4;have Xp:yz x.ev=x.ev.names.all λz=>decide (z.length<=40):=by simp only[yz,d1,d2,d3,d4,Zw]
 rw[Xp]at hi bad;refine Rs (PA t0 t5 o.sl.aM e3 @ik @l1 @l2 @l3 @l4 @c1 @d1 @c2 @d2 @c3 @d3 @c4 @d4 ox.n.aM ox.v.aM @Yk) ?_;refine WL.inv T.mix (λm ts h1=>∃j:Nat,j<=x.ev.names.length/\m=x.ev.names.length-j/\h1=h'/\(x.ev.names.all λz=>decide (z.length<=40))=(x.ev.names.drop j).all (λz=>decide (z.length<=40))/\ts.length=71/\slot ts 0=s/\slot ts 5=.i k/\slot ts 6=.i j) x.ev.names.length
  ⟨0,Om,rfl,rfl,rfl,Sn,(Sq t0),(Sq t5),iQ⟩ ?_
 clear t0 t5 hlen;rintro _ ts h1 ⟨j,hj,rfl,rfl,hij,hlen,t0,t5,t6⟩;by_cases Ta:j<x.ev.names.length
 ·have f3:decide ((j:Int)<x.ev.names.length)=true:=XZ Om;have f5:IntKind.i64.wrap ((j:Int)+1)=((j+1:Nat):Int):=wrapN Om;have ij:=ox.n.dM (kk:=.i64) Ta;have ln:=ox.n.kS (i:=j) (x:=.str x.ev.names[j]) Ta rfl (Ext.refl _);have c5:decide ((40:Int)<(x.ev.names[j].length:Int))= !decide (x.ev.names[j].length<=40):=dc _ 40;have TA:x.ev.names.drop j=x.ev.names[j]::x.ev.names.drop (j+1):=Si
  rw[TA,Zv]at hij;cases hz:decide (x.ev.names[j].length<=40)with
  |true=>
   rw[hz,Zw]at hij
   repeat (first|simp (config:={maxSteps:=1000000}) only[aQ,aT,ba,bd,reduceAdd,reduceMul,reduceLeDiff,reduceEqDiff,bg,hlen,Yb,Yf,t0,t5,t6,ik,l2,ox.n.aM,f3,ij,ln,c5,hz,Yk,f5]|simp (config:={maxSteps:=1000000}) (disch:=first|(simp only[XS,XX,X1]<;>omega)|rfl|omega|fail) only[eo,aQ,aT,ba,bd,reduceAdd,reduceMul,reduceLeDiff,reduceEqDiff,bg,hlen,Yb,Yf,t0,t5,t6,ik,l2,ox.n.aM,f3,ij,ln,c5,hz,Yk,f5])
   exact⟨_,Om,j+1,Om,rfl,hij,rfl⟩
  |false=>
   rw[hz,aaa]at hij
   repeat (first|simp (config:={maxSteps:=1000000}) only[aQ,aT,ba,bd,reduceAdd,reduceMul,reduceLeDiff,reduceEqDiff,bg,hlen,Yb,Yf,t0,t5,t6,ik,l2,ox.n.aM,f3,ij,ln,c5,hz,Yr]|simp (config:={maxSteps:=1000000}) (disch:=first|(simp only[XS,XX,X1]<;>omega)|rfl|omega|fail) only[eo,aQ,aT,ba,bd,reduceAdd,reduceMul,reduceLeDiff,reduceEqDiff,bg,hlen,Yb,Yf,t0,t5,t6,ik,l2,ox.n.aM,f3,ij,ln,c5,hz,Yr])
   rw[bad hij]
 ·have f3:decide ((j:Int)<x.ev.names.length)=false:=XU Om;have f4:j=x.ev.names.length:=Om
  rw[f4,YS]at hij;rw[hij,List.all_nil,Zw]at hi;refine Rs (A8 t0 t5 t6 @ik @l2 ox.n.aM @f3 e5) ?_;exact⟨_,Om,k+1,Om,rfl,hi,rfl⟩
end
theorem qx{α:Type}{row:α->List AV}{Q:α->Prop}:∀{cs:List (List AV)},(∀c∈cs,∃x,c=row x/\Q x)->∃L:List α,cs=L.map row/\∀x∈L,Q x
 |[],_=>⟨[],rfl,λ_ h=>by cases h⟩
 |c::cs,h=>by
  obtain⟨x,rfl,hx⟩:=h c (YN ..);obtain⟨L,rfl,hL⟩:=qx (cs:=cs) λc hc=>h c (YB _ hc)
  exact⟨x::L,rfl,λy hy=>(YA.1 hy).elim (λe=>e▸hx) (hL y)⟩
def jh{n}(h:n<=maxLen):n<2^63:=by unfold maxLen at h;omega
def Ba{h k a}(x:TY h (.int k) a):∃z,a=.int k z/\(Lit.int k z).wf=true:=by rw[TY]at x;exact x
def pf{h a}(x:TY h .str a):∃s:By,a=.str s/\s.length<=maxLen:=by rw[TY]at x;exact x
def A1{h r a}(x:TY h (.sl r) a):∃cs:List (List AV),aH h a r.length cs/\cs.length<=maxLen/\∀c∈cs,jd h r c:=by rw[TY]at x;exact x
def qw{h l}(x:jd h [] l):l=[]:=by rw[jd]at x;exact x
def fR{h t ts l}(x:jd h (t::ts) l):∃a l',l=a::l'/\TY h t a/\jd h ts l':=by rw[jd]at x;exact x
def A0{h l}(x:sH h [] l):l=[]:=by rw[sH]at x;exact x
def sN{h t ts l}(x:sH h (t::ts) l):∃a l',l=a::l'/\Gq h t a/\sH h ts l':=by rw[sH]at x;exact x
def Dg{h:ah}{a:AV}(x:TY h (.sl [.str]) a):∃L:List (By),aH h a 1 (L.map ao)/\L.length<=maxLen/\∀s∈L,s.length<=maxLen:=by
 obtain⟨cs,hs,hl,hc⟩:=A1 x;obtain⟨L,rfl,hL⟩:=qx (row:=ao) (Q:=λs=>s.length<=maxLen) λc Vg=>by
  obtain⟨_,_,rfl,h1,x⟩:=fR (hc c Vg);obtain rfl:=qw x;obtain⟨s,rfl,hs⟩:=pf h1;exact⟨s,rfl,hs⟩
 exact⟨L,hs,by simpa using hl,hL⟩
def Dh{h:ah}{a:AV}(x:TY h (.sl [.int .i64]) a):∃L:List Int,aH h a 1 (L.map aK)/\L.length<=maxLen/\∀z∈L,(Lit.int .i64 z).wf=true:=by
 obtain⟨cs,hs,hl,hc⟩:=A1 x;obtain⟨L,rfl,hL⟩:=qx (row:=aK) (Q:=λz=>(Lit.int .i64 z).wf=true) λc Vg=>by
  obtain⟨_,_,rfl,h1,x⟩:=fR (hc c Vg);obtain rfl:=qw x;obtain⟨s,rfl,hs⟩:=Ba h1;exact⟨s,rfl,hs⟩
 exact⟨L,hs,by simpa using hl,hL⟩
def Er:List CT:=[.int .i64,.str,.sl [.str],.sl [.int .i64],.str]
structure IJ(x:EV):Prop where
 n:x.ev.names.length<2^63
 v:x.ev.cE.length<2^63
 nn:∀n∈x.ev.names,n.length<2^63
 i:(Lit.int .i64 x.ev.num).wf=true
 k:x.ev.kind.length<2^63
 t:x.ev.text.length<2^63
 iv:∀z∈x.ev.cE,(Lit.int .i64 z).wf=true
def GJ{h c}(x:jd h Er c):∃y:EV,c=y.row/\bt h y/\IJ y:=by
 obtain⟨_,_,rfl,h1,x⟩:=fR x;obtain⟨_,_,rfl,h2,x⟩:=fR x;obtain⟨sn,_,rfl,h3,x⟩:=fR x;obtain⟨sv,_,rfl,h4,x⟩:=fR x;obtain⟨_,_,rfl,h5,x⟩:=fR x;obtain rfl:=qw x;obtain⟨n,rfl,hn⟩:=Ba h1;obtain⟨k,rfl,hk⟩:=pf h2;obtain⟨N,hN,hNl,hNs⟩:=Dg h3;obtain⟨W,hW,hWl,hWs⟩:=Dh h4;obtain⟨t,rfl,ht⟩:=pf h5;exact⟨⟨⟨n,k,N,W,t⟩,sn,sv⟩,rfl,⟨hN,hW⟩,⟨jh hNl,jh hWl,λs hs=>jh (hNs s hs),hn,jh hk,jh ht,hWs⟩⟩
structure Gr(L:List EV):Prop where
 l:L.length<2^63
 e:∀x∈L,IJ x
def Df{h:ah}{a:AV}(x:Gq h (.one (.sl Er)) a):∃L:List EV,fo h L a/\Gr L:=by
 obtain⟨cs,hs,hl,hc⟩:=A1 (h:=h) x;obtain⟨L,rfl,hL⟩:=qx (row:=EV.row) (Q:=λy=>bt h y/\IJ y) λc Vg=>GJ (hc c Vg)
 exact⟨L,⟨hs,λy hy=>(hL y hy).1⟩,⟨jh (by simpa using hl),λy hy=>(hL y hy).2⟩⟩
def Bh{L n}(h:lz (L.map EV.ev) n=true)(hn:n<=1000):yh L/\Qj L/\L.length<=1000/\∀x∈L,yz x.ev=true:=by
 rw[lz,Yv,YG,X2]at h;have ha:∀x∈L,yz x.ev=true:=λx hx=>Yw.1 h.2 _ (Ym hx)
 have key:∀x∈L,x.ev.names.length<=6/\x.ev.cE.length<=8/\∀n∈x.ev.names,n.length<=40:=λx hx=>by
  have:=ha x hx;simp only[yz,Yv,YG,Yw]at this;exact⟨this.1.1.1.2,this.1.1.2,this.2⟩
 refine⟨⟨Om,λx hx=>?_⟩,⟨λx hx n hn=>?_⟩,Om,ha⟩
 ·have:=key x hx;omega
 ·have:=(key x hx).2.2 n hn;omega
def ua{α:Type}{f:α->By}{n:By}{L:List α}:decide (cP (λx=>decide (f x=n)) L<0)= !decide (n∈L.map f):=by
 rw[<-fi];by_cases h:0<=cP (λx=>decide (f x=n)) L
 ·rw[XZ h,XU Om];rfl
 ·rw[XU h,XZ Om];rfl
def KI(V:RV)(n:By):decide (cP (λy:gy×AV=>decide (y.1.name=n)) V.aD<0)= !dw V.an 3 n:=by
 rw[ua (f:=λy:gy×AV=>y.1.name),<-gD];rfl
def KH(V:RV)(n:By):decide (cP (λy:jv×AV=>decide (y.1.name=n)) V.aG<0)= !dw V.an 4 n:=by
 rw[ua (f:=λy:jv×AV=>y.1.name),<-eF];rfl
def KG(V:RV)(n:By):decide (cP (λy:nE=>decide (y.name=n)) V.aO<0)= !dw V.an 5 n:=ua (f:=nE.name)
def zH(l:List gq)(t:Nat)(n:By)(r:List Int):bj ((cj l).2.2::bZ (!dw (cj l).1.now t n) 10::r)=bj ((du l t n).2::r):=by
 unfold du;by_cases h:(cj l).2.2=0
 ·rw[X5 (λz=>z h),bj,X9 h]
 ·rw[X9 h,bj,X5 h,bj,X5 h]
def mh{l t n}(h:(du l t n).2=0):(du l t n).1=(cj l).1.now/\dw (cj l).1.now t n=true:=by
 unfold du at h ⊢;by_cases h1:(cj l).2.2=0
 ·rw[X5 (λz=>z h1)]at h ⊢;refine⟨rfl,?_⟩;cases hc:dw (cj l).1.now t n with
  |true=>rfl
  |false=>simp only[hc]at h;exact absurd h De
 ·rw[X9 h1]at h;exact absurd h h1
section
variable {P:Program}(T:fI P) {h:ah}
include T
def r19(c:Bool)(e:Int):ay P 19 [.bool c,.i e] h (λv _=>v=.i (bZ c e)):=by
 refine .eG 8 T.mix T.c19 ?_;intro ts hlen t0 t1;unfold fn19 zt;refine Rs (A2 t0 t1) ?_;refine WF.ce T.c82 (r82 T _ _) λg=>?_
 exact Rs (A2 t0 t1) Tv
def r21{s l}(hs:aH h s 1 (l.map aK))(hl:l.length<2^40):ay P 21 [s] h (λv _=>v=.i (bj l)):=by
 refine .kV 5 T.mix T.c21 ?_;intro ts hlen t0;unfold fn21;refine Rs t0 ?_;refine WF.ce T.c83 (r83 T hs Om) λg=>?_
 exact Rs t0 Tv
def Ml(h:ah):AV->ah->Prop:=λv k=>Ext h k/\v=.bool true
end
def iG{len b i:Nat}{k:IntKind}(hi:i<len):fj len 1 (.ptr b 0) (.int k (i:Int))=some (.ptr b i):=by
 simp only[fj];rw[X9 Om];simp
def B1{R:gx}{n:By}(w:fk R):((jm R n).map gy.name).length<=32:=by
 have h1:(jm R n).length<=R.aD.length:=by unfold jm;exact Yu _ _
 have:=w.l3;simp only[X2];omega
def Dp{R:gx}{n:By}(w:fk R):((fq R n).map gN.name).length<=16:=by
 have h1:(fq R n).length<=R.lines.length:=by unfold fq;exact Yu _ _
 have:=w.l0;simp only[X2];omega
theorem yL:∀(l:List Int) (k:Nat),(cJ l k).length<=l.length
 |[],_=>X8 _
 |x::l,k=>by
  have:=yL l (k+1);rw[cJ];split<;>simp only[XX]<;>omega
def DR{R:gx}{n:By}(w:fk R):(iJ R n).length<=64:=by
 have h1:(iJ R n).length<=R.aj.length:=by unfold iJ;rw[X2];exact Yu _ _
 have:=w.l2;omega
def BS(l:List gq)(t:Nat)(n:By):bj [(cj l).2.2,bZ (!dw (cj l).1.now t n) 10]=(du l t n).2:=by
 rw[zH l t n []];simp only[bj];split
 case isTrue h=>exact h.symm
 case isFalse h=>rfl
def vX(k:Nat):ai:=(fn9).body.dr k
def pB(k:Nat):ai:=((fn9).body.dr k).hd
def Lt:vX 10=.seq (pB 10) (vX 11):=rfl
def Lq:vX 11=.seq (pB 11) (vX 12):=rfl
def Lp:vX 12=.seq (pB 12) (vX 13):=rfl
def Oe:fn9=⟨174,2,[(4,none)],.seq (pB 0) (.seq (pB 1) (.seq (pB 2) (.seq (pB 3) (.seq (pB 4) (.seq (pB 5) (.seq (pB 6) (.seq (pB 7) (.seq (pB 8) (.seq (pB 9) (vX 10))))))))))⟩:=rfl
section
variable {P:Program}(T:fI P) {h:ah}
include T
def Cg(ha:∀k,Ext h k->ay P 15 [] k (λv _=>v=.bool true)){K:ah}{ts:TS}{N S Pv:List (By)}{Lf:List Int}{one three four:Int}{u5 u7 u9 u11:AV}{VV VU w21 w22:AV}(eK:Ext h K)(h5:aH K u5 1 (N.map ao))(h7:aH K u7 1 (S.map ao))(h9:aH K u9 1 (Lf.map aK))(h11:aH K u11 1 (Pv.map ao))(h19:aH K VV 1 (N.map ao))(h20:aH K VU 1 (S.map ao))(h21:aH K w21 1 (Pv.map ao))(h22:aH K w22 1 (Lf.map aK))(lN:N.length<2^40)(lS:S.length<2^40)(lP:Pv.length<2^40)(lL:Lf.length<2^40)(hlen:ts.length=174)(t5:slot ts 5=u5)(t6:slot ts 6=.i one)(t7:slot ts 7=u7)(t8:slot ts 8=.i one)(t9:slot ts 9=u9)(t10:slot ts 10=.i three)(t11:slot ts 11=u11)(t12:slot ts 12=.i four)(t16:slot ts 16=.i one)(t17:slot ts 17=.i three)(t18:slot ts 18=.i four)(t19:slot ts 19=VV)(t20:slot ts 20=VU)(t21:slot ts 21=w21)(t22:slot ts 22=w22):
  WC P bT (vX 13) [] ts K (FQ [(4,none)] (Ml h)):=by
 unfold vX fn9;simp only[ai.j,ai.s,ai.r,ai.dr,ai.tl];refine Rs (AG t5 t6 t7 t8 t9 t10 t11 t12 t16 t17 t18 t19 t20 t21 t22 @Yi) ?_;refine WF.ce T.c25 (r25 T h5 h19 lN lN) λg1=>?_
 refine Rs (AG t5 t6 t7 t8 t9 t10 t11 t12 t16 t17 t18 t19 t20 t21 t22 @Yi) ?_;refine WF.ce T.c25 (r25 T (h7.ext Xx) (h20.ext Xx) lS lS) λg2=>?_
 refine Rs (AG t5 t6 t7 t8 t9 t10 t11 t12 t16 t17 t18 t19 t20 t21 t22 @Yi) ?_;refine WF.ce T.c62 (r62 T (h9.ext Xx) (h22.ext Xx) lL lL) λg3=>?_
 refine Rs (AG t5 t6 t7 t8 t9 t10 t11 t12 t16 t17 t18 t19 t20 t21 t22 @Yi) ?_;refine WF.ce T.c25 (r25 T (h11.ext Xx) (h21.ext Xx) lP lP) λg4=>?_
 refine Rs (AG t5 t6 t7 t8 t9 t10 t11 t12 t16 t17 t18 t19 t20 t21 t22 @Yi) ?_;refine WF.ce T.c15 (ha _ (eK.trans Xx)) λg5=>?_
 refine Rs t5 ?_;exact⟨eK.trans Xx,rfl⟩
def yU(ha:∀k,Ext h k->ay P 15 [] k (λv _=>v=.bool true)){K:ah}{ts:TS}{N S Pv:List (By)}{Lf:List Int}{one three four:Int}{u5 u7 u9 u11:AV}{V:RV}{kb nb:Nat}{n0 n1 n2:By}{VV VU w22:AV}(eK:Ext h K)(h5:aH K u5 1 (N.map ao))(h7:aH K u7 1 (S.map ao))(h9:aH K u9 1 (Lf.map aK))(h11:aH K u11 1 (Pv.map ao))(oV:aC K V)(wV:fk V.an)(mn:K[nb]? =some (.b [.str n0,.str n1,.str n2]))(mb:K[kb]? =some (.b V.row))(h19:aH K VV 1 (N.map ao))(h20:aH K VU 1 (S.map ao))(h22:aH K w22 1 (Lf.map aK))(lN:N.length<2^40)(lS:S.length<2^40)(lP:Pv.length<2^40)(lL:Lf.length<2^40)
  (hz1:four=0->n2∈jg V.an/\Pv=iJ V.an n2) (hz2:four≠0->Pv=[]) (hlen:ts.length=174) (t5:slot ts 5=u5) (t6:slot ts 6=.i one) (t7:slot ts 7=u7) (t8:slot ts 8=.i one) (t9:slot ts 9=u9) (t10:slot ts 10=.i three) (t11:slot ts 11=u11) (t12:slot ts 12=.i four) (t16:slot ts 16=.i one) (t17:slot ts 17=.i three) (t18:slot ts 18=.i four) (t3:slot ts 3=.ptr nb 0) (t13:slot ts 13=.ptr kb 0) (t19:slot ts 19=VV) (t20:slot ts 20=VU) (t21:slot ts 21=.af) (t22:slot ts 22=w22):
  WC P bT (vX 12) [] ts K (FQ [(4,none)] (Ml h)):=by
 have lb:=@e9 _ _ _ mb;have ln:=@e9 _ _ _ mn;have i0:fj 3 1 (.ptr nb 0) (.i 0)=some (.ptr nb 0):=iG (i:=0) De;have i1:fj 3 1 (.ptr nb 0) (.i 1)=some (.ptr nb 1):=iG (i:=1) De;have i2:fj 3 1 (.ptr nb 0) (.i 2)=some (.ptr nb 2):=iG (i:=2) De;rw[Lp];generalize hR:vX 13=R;unfold pB fn9;simp only[ai.j,ai.s,ai.r,ai.dr,ai.tl,ai.hd];by_cases hz:four=0
 ·have q:decide (four=0)=true:=XZ hz;obtain⟨hp,hP⟩:=hz1 hz
  repeat (first|simp (config:={maxSteps:=1000000}) only[aQ,aT,ba,bd,reduceAdd,reduceMul,reduceLeDiff,reduceEqDiff,bg,hlen,Yb,Yf,t5,t6,t7,t8,t9,t10,t11,t12,t16,t17,t18,t3,t13,t19,t20,t21,t22,q,lb,ln,i2,aE]|simp (config:={maxSteps:=1000000}) (disch:=first|(simp only[XS,XX,X1]<;>omega)|rfl|omega|fail) only[eo,aQ,aT,ba,bd,reduceAdd,reduceMul,reduceLeDiff,reduceEqDiff,bg,hlen,Yb,Yf,t5,t6,t7,t8,t9,t10,t11,t12,t16,t17,t18,t3,t13,t19,t20,t21,t22,q,lb,ln,i2,aE])
  refine WF.res T.c61 (r61 T oV wV hp) ?_;rintro w g hw;refine Rs (FD t5 t6 t7 t8 t9 t10 t11 t12 t16 t17 t18 t3 t13 t19 t20 t21 t22) ?_;rw[<-hR];rw[<-hP]at hw;exact Cg T (one:=one) (three:=three) (four:=four) ha (eK.trans ⟨g,rfl⟩) (h5.ext ⟨g,rfl⟩) (h7.ext ⟨g,rfl⟩) (h9.ext ⟨g,rfl⟩) (h11.ext ⟨g,rfl⟩) (h19.ext ⟨g,rfl⟩) (h20.ext ⟨g,rfl⟩) hw (h22.ext ⟨g,rfl⟩) lN lS lP lL Sn (Sq t5) (Sq t6) (Sq t7) (Sq t8) (Sq t9) (Sq t10) (Sq t11) (Sq t12) (Sq t16) (Sq t17) (Sq t18) (Sq t19) (Sq t20) Sw (Sq t22)
 ·have q:decide (four=0)=false:=XU hz;have hP:=hz2 hz;refine Rs (C6 t5 t6 t7 t8 t9 t10 t11 t12 t16 t17 t18 t3 t13 t19 t20 t21 t22 q) ?_;rw[<-hR];have h21:aH K .af 1 (Pv.map ao):=by rw[hP];exact .nil
  exact Cg T (one:=one) (three:=three) (four:=four) ha eK h5 h7 h9 h11 h19 h20 h21 h22 lN lS lP lL Sn (Sq t5) (Sq t6) (Sq t7) (Sq t8) (Sq t9) (Sq t10) (Sq t11) (Sq t12) (Sq t16) (Sq t17) (Sq t18) (Sq t19) (Sq t20) (Sq t21) (Sq t22)
def vW(ha:∀k,Ext h k->ay P 15 [] k (λv _=>v=.bool true)){K:ah}{ts:TS}{N S Pv:List (By)}{Lf:List Int}{one three four:Int}{u5 u7 u9 u11:AV}{V:RV}{kb nb:Nat}{n0 n1 n2:By}{VV VU:AV}(eK:Ext h K)(h5:aH K u5 1 (N.map ao))(h7:aH K u7 1 (S.map ao))(h9:aH K u9 1 (Lf.map aK))(h11:aH K u11 1 (Pv.map ao))(oV:aC K V)(wV:fk V.an)(mn:K[nb]? =some (.b [.str n0,.str n1,.str n2]))(mb:K[kb]? =some (.b V.row))(h19:aH K VV 1 (N.map ao))(h20:aH K VU 1 (S.map ao))(lN:N.length<2^40)(lS:S.length<2^40)(lP:Pv.length<2^40)(lL:Lf.length<2^40)
  (hy1:three=0->n1∈fM V.an/\Lf=cJ (eS V.an n1).bp 0) (hy2:three≠0->Lf=[]) (hz1:four=0->n2∈jg V.an/\Pv=iJ V.an n2) (hz2:four≠0->Pv=[]) (hlen:ts.length=174) (t5:slot ts 5=u5) (t6:slot ts 6=.i one) (t7:slot ts 7=u7) (t8:slot ts 8=.i one) (t9:slot ts 9=u9) (t10:slot ts 10=.i three) (t11:slot ts 11=u11) (t12:slot ts 12=.i four) (t16:slot ts 16=.i one) (t17:slot ts 17=.i three) (t18:slot ts 18=.i four) (t3:slot ts 3=.ptr nb 0) (t13:slot ts 13=.ptr kb 0) (t19:slot ts 19=VV) (t20:slot ts 20=VU) (t21:slot ts 21=.af) (t22:slot ts 22=.af):
  WC P bT (vX 11) [] ts K (FQ [(4,none)] (Ml h)):=by
 have lb:=@e9 _ _ _ mb;have ln:=@e9 _ _ _ mn;have i0:fj 3 1 (.ptr nb 0) (.i 0)=some (.ptr nb 0):=iG (i:=0) De;have i1:fj 3 1 (.ptr nb 0) (.i 1)=some (.ptr nb 1):=iG (i:=1) De;have i2:fj 3 1 (.ptr nb 0) (.i 2)=some (.ptr nb 2):=iG (i:=2) De;rw[Lq];generalize hR:vX 12=R;unfold pB fn9;simp only[ai.j,ai.s,ai.r,ai.dr,ai.tl,ai.hd];by_cases hz:three=0
 ·have q:decide (three=0)=true:=XZ hz;obtain⟨hp,hL⟩:=hy1 hz;have hps:=cM hp;have Sj:aZ (fM V.an) n1<V.aG.length:=by simpa [fM,RV.an]using hps
  have ix:aX 3 V.s4 (.i ((aZ (fM V.an) n1:Nat):Int))=some (cW V.s4 3 (aZ (fM V.an) n1),.au):=oV.i4.dM Sj;obtain⟨y,hy⟩:∃y,y=V.aG[aZ (fM V.an) n1]:=⟨_,rfl⟩;have U4:y∈V.aG:=by rw[hy];exact Ya _
  have Un:y.1=eS V.an n1:=by
   rw[eS,cV (f:=jv.name) (l:=V.an.aG) (d:=tU) hp,hy];exact IK
  have ly:∀{kk:ah},Ext K kk->ar (some 3) (cW V.s4 3 (aZ (fM V.an) n1)) (λb=>kk[b]?)=some (.agg (bK y),.au):=λ{kk} e=>by rw[hy];exact oV.i4.kR Sj e
  have oy:=oV.e4 y U4;have SE:=wV.jb y.1 (Ym U4)
  repeat (first|simp (config:={maxSteps:=1000000}) only[aQ,aT,ba,bd,reduceAdd,reduceMul,reduceLeDiff,reduceEqDiff,bg,hlen,Yb,Yf,t5,t6,t7,t8,t9,t10,t11,t12,t16,t17,t18,t3,t13,t19,t20,t21,t22,q,lb,ln,i1,fy,aE]|simp (config:={maxSteps:=1000000}) (disch:=first|(simp only[XS,XX,X1]<;>omega)|rfl|omega|fail) only[eo,aQ,aT,ba,bd,reduceAdd,reduceMul,reduceLeDiff,reduceEqDiff,bg,hlen,Yb,Yf,t5,t6,t7,t8,t9,t10,t11,t12,t16,t17,t18,t3,t13,t19,t20,t21,t22,q,lb,ln,i1,fy,aE])
  refine WF.ce T.c56 (r56 T oV wV.len n1) λg1=>?_
  have ei:cP (λy:jv×AV=>decide (y.1.name=n1)) V.aG=(aZ (fM V.an) n1:Int):=by
   rw[eF];exact ep (f:=λy:jv×AV=>y.1.name) (by rw[<-eF];exact hp)
  rw[ei];refine Rs (Qm t5 t6 t7 t8 t9 t10 t11 t12 t16 t17 t18 t3 t13 t19 t20 t21 t22 ix @ly) ?_;refine WF.res T.c60 (r60 T (oy.ext Xx) Om) ?_;rintro w g2 hw;refine Rs (FD t5 t6 t7 t8 t9 t10 t11 t12 t16 t17 t18 t3 t13 t19 t20 t21 t22) ?_;rw[<-hR];rw[Un,<-hL]at hw;have ex:Ext K (K++g1++g2):=Xx;exact yU T (one:=one) (three:=three) (four:=four) ha (eK.trans ex) (h5.ext ex) (h7.ext ex) (h9.ext ex) (h11.ext ex) (oV.ext ex) wV (ex.some mn) (ex.some mb) (h19.ext ex) (h20.ext ex) hw lN lS lP lL hz1 hz2 Sn (Sq t5) (Sq t6) (Sq t7) (Sq t8) (Sq t9) (Sq t10) (Sq t11) (Sq t12) (Sq t16) (Sq t17) (Sq t18) (Sq t3) (Sq t13) (Sq t19) (Sq t20) (Sq t21) Sw
 ·have q:decide (three=0)=false:=XU hz;have hL:=hy2 hz;refine Rs (C6 t5 t6 t7 t8 t9 t10 t11 t12 t16 t17 t18 t3 t13 t19 t20 t21 t22 q) ?_;rw[<-hR];have h22:aH K .af 1 (Lf.map aK):=by rw[hL];exact .nil
  exact yU T (one:=one) (three:=three) (four:=four) ha eK h5 h7 h9 h11 oV wV mn mb h19 h20 h22 lN lS lP lL hz1 hz2 Sn (Sq t5) (Sq t6) (Sq t7) (Sq t8) (Sq t9) (Sq t10) (Sq t11) (Sq t12) (Sq t16) (Sq t17) (Sq t18) (Sq t3) (Sq t13) (Sq t19) (Sq t20) (Sq t21) (Sq t22)
def HF(ha:∀k,Ext h k->ay P 15 [] k (λv _=>v=.bool true)){K:ah}{ts:TS}{N S Pv:List (By)}{Lf:List Int}{one three four:Int}{u5 u7 u9 u11:AV}{V:RV}{kb nb:Nat}{n0 n1 n2:By}(eK:Ext h K)(h5:aH K u5 1 (N.map ao))(h7:aH K u7 1 (S.map ao))(h9:aH K u9 1 (Lf.map aK))(h11:aH K u11 1 (Pv.map ao))(oV:aC K V)(wV:fk V.an)(mn:K[nb]? =some (.b [.str n0,.str n1,.str n2]))(mb:K[kb]? =some (.b V.row))(lN:N.length<2^40)(lS:S.length<2^40)(lP:Pv.length<2^40)(lL:Lf.length<2^40)
  (hx1:one=0->N=(jm V.an n0).map gy.name/\S=(fq V.an n0).map gN.name) (hx2:one≠0->N=[]/\S=[]) (hy1:three=0->n1∈fM V.an/\Lf=cJ (eS V.an n1).bp 0) (hy2:three≠0->Lf=[]) (hz1:four=0->n2∈jg V.an/\Pv=iJ V.an n2) (hz2:four≠0->Pv=[]) (hlen:ts.length=174) (t5:slot ts 5=u5) (t6:slot ts 6=.i one) (t7:slot ts 7=u7) (t8:slot ts 8=.i one) (t9:slot ts 9=u9) (t10:slot ts 10=.i three) (t11:slot ts 11=u11) (t12:slot ts 12=.i four) (t16:slot ts 16=.i one) (t17:slot ts 17=.i three) (t18:slot ts 18=.i four) (t3:slot ts 3=.ptr nb 0) (t13:slot ts 13=.ptr kb 0) (t19:slot ts 19=.af) (t20:slot ts 20=.af) (t21:slot ts 21=.af) (t22:slot ts 22=.af):
  WC P bT (vX 10) [] ts K (FQ [(4,none)] (Ml h)):=by
 have lb:=@e9 _ _ _ mb;have ln:=@e9 _ _ _ mn;have i0:fj 3 1 (.ptr nb 0) (.i 0)=some (.ptr nb 0):=iG (i:=0) De;have i1:fj 3 1 (.ptr nb 0) (.i 1)=some (.ptr nb 1):=iG (i:=1) De;have i2:fj 3 1 (.ptr nb 0) (.i 2)=some (.ptr nb 2):=iG (i:=2) De;rw[Lt];generalize hR:vX 11=R;unfold pB fn9;simp only[ai.j,ai.s,ai.r,ai.dr,ai.tl,ai.hd];by_cases hz:one=0
 ·have q:decide (one=0)=true:=XZ hz;obtain⟨hN,hS⟩:=hx1 hz
  repeat (first|simp (config:={maxSteps:=1000000}) only[aQ,aT,ba,bd,reduceAdd,reduceMul,reduceLeDiff,reduceEqDiff,bg,hlen,Yb,Yf,t5,t6,t7,t8,t9,t10,t11,t12,t16,t17,t18,t3,t13,t19,t20,t21,t22,q,lb,ln,i0,aE]|simp (config:={maxSteps:=1000000}) (disch:=first|(simp only[XS,XX,X1]<;>omega)|rfl|omega|fail) only[eo,aQ,aT,ba,bd,reduceAdd,reduceMul,reduceLeDiff,reduceEqDiff,bg,hlen,Yb,Yf,t5,t6,t7,t8,t9,t10,t11,t12,t16,t17,t18,t3,t13,t19,t20,t21,t22,q,lb,ln,i0,aE])
  refine WF.res T.c58 (r58 T oV wV n0) ?_;rintro w1 g1 hw1
  repeat (first|simp (config:={maxSteps:=1000000}) only[aQ,aT,ba,bd,reduceAdd,reduceMul,reduceLeDiff,reduceEqDiff,bg,hlen,Yb,Yf,t5,t6,t7,t8,t9,t10,t11,t12,t16,t17,t18,t3,t13,t19,t20,t21,t22,lb,ln,i0,aE]|simp (config:={maxSteps:=1000000}) (disch:=first|(simp only[XS,XX,X1]<;>omega)|rfl|omega|fail) only[eo,aQ,aT,ba,bd,reduceAdd,reduceMul,reduceLeDiff,reduceEqDiff,bg,hlen,Yb,Yf,t5,t6,t7,t8,t9,t10,t11,t12,t16,t17,t18,t3,t13,t19,t20,t21,t22,lb,ln,i0,aE])
  refine WF.res T.c59 (r59 T (oV.ext Xx) wV n0) ?_;rintro w2 g2 hw2;refine Rs (FD t5 t6 t7 t8 t9 t10 t11 t12 t16 t17 t18 t3 t13 t19 t20 t21 t22) ?_;rw[<-hR];rw[<-hN]at hw1;rw[<-hS]at hw2;have ex:Ext K (K++g1++g2):=Xx;exact vW T (one:=one) (three:=three) (four:=four) ha (eK.trans ex) (h5.ext ex) (h7.ext ex) (h9.ext ex) (h11.ext ex) (oV.ext ex) wV (ex.some mn) (ex.some mb) (hw1.ext Xx) hw2 lN lS lP lL hy1 hy2 hz1 hz2 Sn (Sq t5) (Sq t6) (Sq t7) (Sq t8) (Sq t9) (Sq t10) (Sq t11) (Sq t12) (Sq t16) (Sq t17) (Sq t18) (Sq t3) (Sq t13) Sw Sw (Sq t21) (Sq t22)
 ·have q:decide (one=0)=false:=XU hz;obtain⟨hN,hS⟩:=hx2 hz;refine Rs (C6 t5 t6 t7 t8 t9 t10 t11 t12 t16 t17 t18 t3 t13 t19 t20 t21 t22 q) ?_;rw[<-hR];have h19:aH K .af 1 (N.map ao):=by rw[hN];exact .nil
  have h20:aH K .af 1 (S.map ao):=by rw[hS];exact .nil
  exact vW T (one:=one) (three:=three) (four:=four) ha eK h5 h7 h9 h11 oV wV mn mb h19 h20 lN lS lP lL hy1 hy2 hz1 hz2 Sn (Sq t5) (Sq t6) (Sq t7) (Sq t8) (Sq t9) (Sq t10) (Sq t11) (Sq t12) (Sq t16) (Sq t17) (Sq t18) (Sq t3) (Sq t13) (Sq t19) (Sq t20) (Sq t21) (Sq t22)
def r9(ha:∀k,Ext h k->ay P 15 [] k (λv _=>v=.bool true)){L:List EV}{s:AV}(o:fo h L s)(sz:Gr L)(gl:Gl h)(n0 n1 n2:By):ay P 9 [s,.agg [.str n0,.str n1,.str n2]] h (λv _=>v=.bool true):=by
 refine .of T.mix (aaw T.c9 (Yx some Oe)) ?_;obtain⟨ts,QP⟩:∃ts,ts=aU 174 [s,.agg [.str n0,.str n1,.str n2]]:=⟨_,rfl⟩;have hlen:ts.length=174:=by rw[QP];rfl
 have t0:slot ts 0=s:=by rw[QP];rfl
 have t1:slot ts 1=.agg [.str n0,.str n1,.str n2]:=by rw[QP];rfl
 show WC P bT (.seq (pB 0) (.seq (pB 1) (.seq (pB 2) (.seq (pB 3) (.seq (pB 4) (.seq (pB 5) (.seq (pB 6) (.seq (pB 7) (.seq (pB 8) (.seq (pB 9) (vX 10))))))))))) [] (aU 174 [s,.agg [.str n0,.str n1,.str n2]]) h (FQ [(4,none)] (Ml h));rw[<-QP];clear QP;generalize hR:vX 10=R;unfold pB fn9;simp only[ai.j,ai.s,ai.r,ai.dr,ai.tl,ai.hd];have i0:fj 3 1 (.ptr h.length 0) (.i 0)=some (.ptr h.length 0):=iG (i:=0) De;have i1:fj 3 1 (.ptr h.length 0) (.i 1)=some (.ptr h.length 1):=iG (i:=1) De;have i2:fj 3 1 (.ptr h.length 0) (.i 2)=some (.ptr h.length 2):=iG (i:=2) De;have bx:∀{M},oz (.agg [.str n0,.str n1,.str n2]) M=some (.ptr M 0,.push (.b [.str n0,.str n1,.str n2])):=λ{_}=>rfl
 refine Rs (A3 t0 t1 @bx) ?_;obtain⟨H0,Tl⟩:∃Z,Z=h++[ak.b [.str n0,.str n1,.str n2]]:=⟨_,rfl⟩;have e0:Ext h H0:=by rw[Tl];exact⟨_,rfl⟩
 have mn0:H0[h.length]? =some (.b [.str n0,.str n1,.str n2]):=by rw[Tl];exact bh
 have ln:=@e9 _ _ _ mn0;obtain⟨nb,Q4⟩:∃Z,Z=h.length:=⟨_,rfl⟩;rw[<-Tl];rw[<-Q4]at i0 i1 i2 mn0 ln ⊢;have o:=o.ext e0;have gl:=gl.ext e0;clear Tl bx;refine WF.ce T.c14 (r14 T o sz.l (λx hx=>(sz.e x hx).n) De) λg1=>?_
 by_cases hall:lz (L.map EV.ev) 24=true/\¬(40:Int)<(n0.length:Int)/\¬(40:Int)<(n1.length:Int)/\¬(40:Int)<(n2.length:Int)
 case neg=>
  have aw:∀k,Ext H0 k->ay P 15 [] k (λv _=>v=.bool true):=λk e=>ha k (e0.trans e)
  cases hsh:lz (L.map EV.ev) 24 with
  |false=>
   refine Rs (A3 t0 t1 @Yr) ?_;exact Mr
  |true=>
  by_cases c0:(40:Int)<(n0.length:Int)
  ·have q0:decide ((40:Int)<(n0.length:Int))=true:=XZ c0
   repeat (first|simp (config:={maxSteps:=1000000}) only[aQ,aT,ba,bd,reduceAdd,reduceMul,reduceLeDiff,reduceEqDiff,bg,hlen,Yb,Yf,t0,t1,Yk,i0,ln,q0]|simp (config:={maxSteps:=1000000}) (disch:=first|(simp only[XS,XX,X1]<;>omega)|rfl|omega|fail) only[eo,aQ,aT,ba,bd,reduceAdd,reduceMul,reduceLeDiff,reduceEqDiff,bg,hlen,Yb,Yf,t0,t1,Yk,i0,ln,q0])
   exact Mr
  have q0:decide ((40:Int)<(n0.length:Int))=false:=XU c0;by_cases c1:(40:Int)<(n1.length:Int)
  ·have q1:decide ((40:Int)<(n1.length:Int))=true:=XZ c1
   repeat (first|simp (config:={maxSteps:=1000000}) only[aQ,aT,ba,bd,reduceAdd,reduceMul,reduceLeDiff,reduceEqDiff,bg,hlen,Yb,Yf,t0,t1,Yk,i0,i1,ln,q0,q1]|simp (config:={maxSteps:=1000000}) (disch:=first|(simp only[XS,XX,X1]<;>omega)|rfl|omega|fail) only[eo,aQ,aT,ba,bd,reduceAdd,reduceMul,reduceLeDiff,reduceEqDiff,bg,hlen,Yb,Yf,t0,t1,Yk,i0,i1,ln,q0,q1])
   exact Mr
  have q1:decide ((40:Int)<(n1.length:Int))=false:=XU c1;by_cases c2:(40:Int)<(n2.length:Int)
  ·have q2:decide ((40:Int)<(n2.length:Int))=true:=XZ c2
   repeat (first|simp (config:={maxSteps:=1000000}) only[aQ,aT,ba,bd,reduceAdd,reduceMul,reduceLeDiff,reduceEqDiff,bg,hlen,Yb,Yf,t0,t1,Yk,i0,i1,i2,ln,q0,q1,q2]|simp (config:={maxSteps:=1000000}) (disch:=first|(simp only[XS,XX,X1]<;>omega)|rfl|omega|fail) only[eo,aQ,aT,ba,bd,reduceAdd,reduceMul,reduceLeDiff,reduceEqDiff,bg,hlen,Yb,Yf,t0,t1,Yk,i0,i1,i2,ln,q0,q1,q2])
   exact Mr
  exact absurd ⟨hsh,c0,c1,c2⟩ hall
 obtain⟨hsh,c0,c1,c2⟩:=hall;have q0:decide ((40:Int)<(n0.length:Int))=false:=XU c0;have q1:decide ((40:Int)<(n1.length:Int))=false:=XU c1;have q2:decide ((40:Int)<(n2.length:Int))=false:=XU c2;rw[hsh];obtain⟨sh,nl,_,_⟩:=Bh hsh De
 repeat (first|simp (config:={maxSteps:=1000000}) only[aQ,aT,ba,bd,reduceAdd,reduceMul,reduceLeDiff,reduceEqDiff,bg,hlen,Yb,Yf,t0,t1,Yk,i0,i1,i2,ln,q0,q1,q2]|simp (config:={maxSteps:=1000000}) (disch:=first|(simp only[XS,XX,X1]<;>omega)|rfl|omega|fail) only[eo,aQ,aT,ba,bd,reduceAdd,reduceMul,reduceLeDiff,reduceEqDiff,bg,hlen,Yb,Yf,t0,t1,Yk,i0,i1,i2,ln,q0,q1,q2])
 refine WF.res T.c51 (r51 T (o.ext Xx) sh (gl.ext Xx) n0) ?_;rintro _ g2 ⟨u5,rfl,h5⟩
 repeat (first|simp (config:={maxSteps:=1000000}) only[aQ,aT,ba,bd,reduceAdd,reduceMul,reduceLeDiff,reduceEqDiff,bg,hlen,Yb,Yf,t0,t1,i0,i1,i2,ln]|simp (config:={maxSteps:=1000000}) (disch:=first|(simp only[XS,XX,X1]<;>omega)|rfl|omega|fail) only[eo,aQ,aT,ba,bd,reduceAdd,reduceMul,reduceLeDiff,reduceEqDiff,bg,hlen,Yb,Yf,t0,t1,i0,i1,i2,ln])
 refine WF.res T.c52 (r52 T (o.ext Xx) sh (gl.ext Xx) n0) ?_;rintro _ g3 ⟨u7,rfl,h7⟩
 repeat (first|simp (config:={maxSteps:=1000000}) only[aQ,aT,ba,bd,reduceAdd,reduceMul,reduceLeDiff,reduceEqDiff,bg,hlen,Yb,Yf,t0,t1,i0,i1,i2,ln]|simp (config:={maxSteps:=1000000}) (disch:=first|(simp only[XS,XX,X1]<;>omega)|rfl|omega|fail) only[eo,aQ,aT,ba,bd,reduceAdd,reduceMul,reduceLeDiff,reduceEqDiff,bg,hlen,Yb,Yf,t0,t1,i0,i1,i2,ln])
 refine WF.res T.c53 (r53 T (o.ext Xx) sh (gl.ext Xx) n1) ?_;rintro _ g4 ⟨u9,rfl,h9⟩
 repeat (first|simp (config:={maxSteps:=1000000}) only[aQ,aT,ba,bd,reduceAdd,reduceMul,reduceLeDiff,reduceEqDiff,bg,hlen,Yb,Yf,t0,t1,i0,i1,i2,ln]|simp (config:={maxSteps:=1000000}) (disch:=first|(simp only[XS,XX,X1]<;>omega)|rfl|omega|fail) only[eo,aQ,aT,ba,bd,reduceAdd,reduceMul,reduceLeDiff,reduceEqDiff,bg,hlen,Yb,Yf,t0,t1,i0,i1,i2,ln])
 refine WF.res T.c54 (r54 T (o.ext Xx) sh (gl.ext Xx) n2) ?_;rintro _ g5 ⟨u11,rfl,h11⟩;refine Rs (A2 t0 t1) ?_;refine WF.res T.c18 (r18 T (o.ext Xx) sh nl) ?_;rintro _ g6 ⟨V,rfl,oV,hV,wV,lo⟩;have st:=@aC.st _ _ oV;obtain⟨l,hl⟩:∃l,l=L.map EV.ev:=⟨_,rfl⟩;rw[<-hl]at hV h5 h7 h9 h11 ⊢;obtain⟨K,hK⟩:∃K,K=H0++g1++g2++g3++g4++g5++g6:=⟨_,rfl⟩;have eK:Ext H0 K:=by rw[hK];exact Xx
 have h5:aH K u5 1 ((jV l n0).1.map ao):=h5.ext (by rw[hK];exact Xx);have h7:aH K u7 1 ((ql l n0).1.map ao):=h7.ext (by rw[hK];exact Xx);have h9:aH K u9 1 ((kQ l n1).1.map aK):=h9.ext (by rw[hK];exact Xx);have h11:aH K u11 1 ((kP l n2).1.map ao):=h11.ext (by rw[hK];exact Xx);rw[<-hK]at oV ⊢;clear hK lo;refine Rs (A3 t0 t1 @st) ?_;obtain⟨K1,Ui⟩:∃Z,Z=K++[ak.b V.row]:=⟨_,rfl⟩;have e1:Ext K K1:=by rw[Ui];exact⟨_,rfl⟩
 have mb:K1[K.length]? =some (.b V.row):=by rw[Ui];exact bh
 have lb:=@e9 _ _ _ mb;rw[<-Ui];have oV:=oV.ext e1;have eH:=eK.trans e1;have ln1:∀{k' n' a},Ext K1 k'->ar n' (.ptr nb a) (λz=>k'[z]?)=dJ n' a (.b [.str n0,.str n1,.str n2]):=λ{_ _ _} e=>ln (eH.trans e)
 refine Rs (A8 t0 t1 @lb @ln1 @i0 @i1 @i2 @aE) ?_;refine WF.ce T.c55 (r55 T oV wV.len n0) λf1=>?_
 have a3:=KI V n0;rw[hV]at a3;refine Rs (A3 t0 t1 @a3) ?_;refine WF.ce T.c19 (r19 T _ _) λf2=>?_
 refine Rs (A2 t0 t1) ?_;refine WF.ce T.c21 (r21 T (cg [_,_]) Si) λf3=>?_
 rw[BS];refine Rs (A8 t0 t1 @lb @ln1 @i0 @i1 @i2 @aE) ?_;refine WF.ce T.c56 (r56 T (oV.ext Xx) wV.len n1) λf4=>?_
 have a4:=KH V n1;rw[hV]at a4;refine Rs (A3 t0 t1 @a4) ?_;refine WF.ce T.c19 (r19 T _ _) λf5=>?_
 refine Rs (A2 t0 t1) ?_;refine WF.ce T.c21 (r21 T (cg [_,_]) Si) λf6=>?_
 rw[BS];refine Rs (A8 t0 t1 @lb @ln1 @i0 @i1 @i2 @aE) ?_;refine WF.ce T.c57 (r57 T (oV.ext Xx) wV.len n2) λf7=>?_
 have a5:=KG V n2;rw[hV]at a5;refine Rs (A3 t0 t1 @a5) ?_;refine WF.ce T.c19 (r19 T _ _) λf8=>?_
 refine Rs (A2 t0 t1) ?_;refine WF.ce T.c21 (r21 T (cg [_,_]) Si) λf9=>?_
 rw[BS];refine Rs (A2 t0 t1) ?_;rw[<-hR];have n1':(jV l n0).2=(du l 3 n0).2:=by unfold jV;split<;>simp_all
 have s1':(ql l n0).2=(du l 3 n0).2:=by unfold ql;split<;>simp_all
 have l1':(kQ l n1).2=(du l 4 n1).2:=by unfold kQ;split<;>simp_all
 have p1':(kP l n2).2=(du l 5 n2).2:=by unfold kP;split<;>simp_all
 have bN:(jV l n0).1.length<2^40:=by
  unfold jV;split
  ·simp
  ·rename_i hh;rw[(mh (Zq.1 hh)).1,<-hV];exact Nat.lt_of_le_of_lt (B1 wV) De
 have bS:(ql l n0).1.length<2^40:=by
  unfold ql;split
  ·simp
  ·rename_i hh;rw[(mh (Zq.1 hh)).1,<-hV];exact Nat.lt_of_le_of_lt (Dp wV) De
 have bP:(kP l n2).1.length<2^40:=by
  unfold kP;split
  ·simp
  ·rename_i hh;rw[(mh (Zq.1 hh)).1,<-hV];exact Nat.lt_of_le_of_lt (DR wV) De
 have k5:(du l 5 n2).2=0->n2∈jg V.an/\(kP l n2).1=iJ V.an n2:=λz=>by
  obtain⟨z1,z2⟩:=mh z;rw[kP,X5 (λy=>y z),z1,<-hV];rw[<-hV]at z2;exact⟨Zb z2,rfl⟩
 have k4:(du l 4 n1).2=0->n1∈fM V.an/\(kQ l n1).1=cJ (eS V.an n1).bp 0:=λz=>by
  obtain⟨z1,z2⟩:=mh z;rw[kQ,X5 (λy=>y z),z1,<-hV];rw[<-hV]at z2;exact⟨Zb z2,rfl⟩
 have bL:(kQ l n1).1.length<2^40:=by
  by_cases z:(du l 4 n1).2=0
  ·obtain⟨z1,z2⟩:=k4 z;rw[z2];have:=yL (eS V.an n1).bp 0;have hj:=wV.jb (eS V.an n1) (gI (f:=jv.name) (l:=V.an.aG) (d:=tU) z1);omega
  ·rw[kQ,X9 z];simp
 have k3:(du l 3 n0).2=0->(jV l n0).1=(jm V.an n0).map gy.name/\(ql l n0).1=(fq V.an n0).map gN.name:=λz=>by
  obtain⟨z1,z2⟩:=mh z;rw[jV,ql,X5 (λy=>y z),X5 (λy=>y z),z1,<-hV];exact⟨rfl,rfl⟩
 obtain⟨K2,hK2⟩:∃Z,Z=K1++f1++f2++[ak.cells [.i (cj l).2.2,.i (bZ (!dw (cj l).1.now 3 n0) 10)] true true]++f3++f4++f5++[ak.cells [.i (cj l).2.2,.i (bZ (!dw (cj l).1.now 4 n1) 10)] true true]++f6++f7++f8++[ak.cells [.i (cj l).2.2,.i (bZ (!dw (cj l).1.now 5 n2) 10)] true true]++f9:=⟨_,rfl⟩;have e2:Ext K1 K2:=by rw[hK2];exact Xx
 rw[<-hK2];have eA:=e1.trans e2;refine HF T ha (V:=V) (kb:=K.length) (nb:=nb) (n0:=n0) (n1:=n1) (n2:=n2) (N:=(jV l n0).1) (S:=(ql l n0).1) (Pv:=(kP l n2).1) (Lf:=(kQ l n1).1) (one:=(du l 3 n0).2) (three:=(du l 4 n1).2) (four:=(du l 5 n2).2) (u5:=u5) (u7:=u7) (u9:=u9) (u11:=u11) (e0.trans (eK.trans eA)) (h5.ext eA) (h7.ext eA) (h9.ext eA) (h11.ext eA) (oV.ext e2) wV ((eK.trans eA).some mn0) (e2.some mb) bN bS bP bL k3 (λz=>by rw[jV,ql,X9 z,X9 z];exact⟨rfl,rfl⟩) k4 (λz=>by rw[kQ,X9 z]) k5 (λz=>by rw[kP,X9 z]) Sn Sw (Sq @n1') Sw (Sq @s1') Sw (Sq @l1') Sw (Sq @p1') Sw Sw Sw Sw Sw Sw Sw Sw Sw
end
def J2{h:ah}{a:AV}(x:Gq h (.agg [.str,.str,.str]) a):∃n0 n1 n2:By,a=.agg [.str n0,.str n1,.str n2]:=by
 obtain⟨l,rfl,x⟩:=x;obtain⟨_,_,rfl,h1,x⟩:=fR x;obtain⟨_,_,rfl,h2,x⟩:=fR x;obtain⟨_,_,rfl,h3,x⟩:=fR x;obtain rfl:=qw x;obtain⟨n0,rfl,_⟩:=pf h1;obtain⟨n1,rfl,_⟩:=pf h2;obtain⟨n2,rfl,_⟩:=pf h3;exact⟨n0,n1,n2,rfl⟩
end Go.Abs
