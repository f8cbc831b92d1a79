/- A part of the proof that HouseCopied holds. No condition. -/
import Derived.Test.YtgplmdgpmbegiaaGreatDoorCp9
import Derived.Test.YtgplmdgpmbegiaaGreatDoorCp8
import Derived.Test.YtgplmdgpmbegiaaGreatDoorCp0
set_option maxHeartbeats 4000000
set_option linter.all false
open Nat (reduceAdd reduceMul reduceLeDiff reduceEqDiff)
namespace Go.Abs
def xD(k:Nat):ai:=(fn81).body.dr k
def DY(k:Nat):ai:=((fn81).body.dr k).hd
def N9:fn81=⟨110,1,[(2,none),(3,some (some 7)),(4,none),(5,none)],.seq (DY 0) (xD 1)⟩:=rfl
def N8:xD 1=.seq (DY 1) (xD 2):=rfl
def N7:xD 2=.seq (DY 2) (xD 3):=rfl
def N6:xD 3=.seq (DY 3) (xD 4):=rfl
def N5:xD 4=.seq (DY 4) (xD 5):=rfl
def Q8(M:Nat)(l:List ed):AV->ah->Prop:=λv k=>
 ∃(sc:AV) (V:RV) (C:List EV),v=.dM [sc,.agg V.row,.i (aP l).2.1,.i (aP l).2.2]/\aC k V/\V.an=(aP l).1.now/\eJ V.an/\dZ k C sc/\C.map EV.ev=(aP l).1.eV/\C.length<=1000/\∀i,some i∈V.bl->M<i
def Nj(h:ah)(l:List ed):AV->ah->Prop:=λv k=>Ext h k/\Q8 h.length l v k
structure MY(h W:ah)(L:List EV)(k:Nat)(C:List EV)(A:List RV)(sc sa:AV):Prop where
 x:Ext h W
 b:W[h.length]? =some (.b kT)
 c:aH (fJ [some h.length] W) sc 5 (C.map EV.row)
 ce:∀e∈C,bw (fJ [some h.length] W) e
 a:aH (fJ [some h.length] W) sa 7 ((RV.zero::A).map RV.row)
 ae:∀R∈A,aC (fJ [some h.length] W) R
 al:∀R∈A,∀i,some i∈R.bl->h.length<i
 w:kO ⟨(L.take k).map EV.ev,C.map EV.ev,A.map RV.an⟩
 r:aP (L.map EV.ev)=fD ⟨(L.take k).map EV.ev,C.map EV.ev,A.map RV.an⟩ ((L.drop k).map EV.ev) k
def yC{W W2 b}(e:Ext W W2):jB (fJ [some b] W) (fJ [some b] W2):=nJ (λi hi _=>e.get hi) λ_ _ h=>h
def Bn{W b X}:jB (fJ [some b] W) (W.set b X):=λi c mu tl hb=>by
 obtain⟨h1,h2⟩:=rp hb;have:i≠b:=λe=>h1 (by rw[e];simp)
 rw[Zc (aam this)];exact h2
def MY.ext{h W W2 L k C A sc sa}(s:MY h W L k C A sc sa)(e:Ext W W2):MY h W2 L k C A sc sa:=
 ⟨s.x.trans e,e.some s.b,s.c.sub (yC e),λy hy=>(s.ce y hy).sub (yC e),s.a.sub (yC e),λy hy=>(s.ae y hy).sub (yC e),s.al,s.w,s.r⟩
def KJ{h W}(e:Ext h W):jB h (fJ [some h.length] W):=λi c mu tl hb=>by
 have hl:=(YQ.1 hb).1;rw[ub (by intro z;simp only[Zm,Zu]at z;omega)];exact e.some hb
def BM{h k l i e}(he:e≠0)(hr:aP l=(hO.zero,i,e))(hx:Ext h k):Nj h l (.dM [.af,.agg RV.zero.row,.i i,.i e]) k:=by
 refine⟨hx,.af,RV.zero,[],by rw[hr],aC.zero,by rw[hr];rfl,eJ.zero,⟨.nil,λ_ h=>by cases h⟩,by rw[hr];rfl,Si,λi hi=>by simp[RV.zero,RV.bl,sB]at hi⟩
def KE:Option AV->Option AV->Option AV->Option AV->Option AV
 |some a,some b,some c,some d=>some (.dM [a,b,c,d])
 |_,_,_,_=>none
def lB{a b c d}:KE (some a) (some b) (some c) (some d)=some (.dM [a,b,c,d]):=rfl
def gj{ts h r s t u}:cQ [r,s,t,u] ts h=KE (dz ts h r) (dz ts h s) (dz ts h t) (dz ts h u):=by
 simp only[cQ,je];cases dz ts h r<;>cases dz ts h s<;>cases dz ts h t<;>cases dz ts h u<;>rfl
def Mb{A n}(hn:n=A.length):(RV.zero::A)[n]? =some (A.getLastD RV.zero):=by
 subst hn;rcases kr A with rfl|⟨m,y,rfl⟩
 ·rfl
 ·simp
def Ac(A:List RV):(A.getLastD RV.zero).an=(A.map RV.an).getLastD eM.zero:=by
 rcases kr A with rfl|⟨m,y,rfl⟩
 ·rfl
 ·simp
set_option maxRecDepth 10000
attribute [local irreducible] WP WC WE WB WR WF WL WG fU WM
section
variable {P:Program}(T:fp P) {h W:ah}{ts:TS}
include T
def DX{L s}(o:dZ h L s)(sh:uO L)(hnl:∀x∈L,∀n∈x.ev.names,n.length<2^63)(hl:L.length<=1000){sa}(st:MY h W L 0 [] [] .af sa)(hlen:ts.length=110)(t0:slot ts 0=s)(t3:slot ts 3=.ptr h.length 0)(t6:slot ts 6=.af)(t7:slot ts 7=sa):
  WC P bL (xD 4) [] ts W (FQ [(2,none),(3,some (some 7)),(4,none),(5,none)] (Nj h (L.map EV.ev))):=by
 rw[N5];generalize hE:xD 5=E;unfold DY fn81;simp only[ai.j,ai.s,ai.r,ai.dr,ai.tl,ai.hd];refine Rs (A4 t0 t3 t6 t7) ?_;refine WL.inv T.mix (λm ts W=>∃(k:Nat) (C:List EV) (A:List RV) (sc sa:AV),k<=L.length/\m=L.length-k/\MY h W L k C A sc sa/\ts.length=110/\slot ts 0=s/\slot ts 3=.ptr h.length 0/\slot ts 6=sc/\slot ts 7=sa/\slot ts 8=.i k) L.length
  ⟨0,[],[],.af,sa,Om,rfl,st,Sn,(Sq t0),(Sq t3),(Sq t6),(Sq t7),gM⟩ ?_
 clear t0 t3 t6 t7 hlen st;rintro _ ts W ⟨k,C,A,sc,sa,hk,rfl,st,hlen,t0,t3,t6,t7,t8⟩;have hAC:A.length=C.length:=by have:=st.w.ln;simpa using this
 have hCl:C.length<=L.length:=by have:=st.w.le;simp only[YY,ZR]at this;omega
 have oW:=o.ext st.x;have VZ:=st.c.sub (jB.fJ _ _);have sta:=st.a.sub (jB.fJ _ _);have stae:∀R∈A,aC W R:=λR hR=>(st.ae R hR).sub (jB.fJ _ _)
 obtain⟨N,hN⟩:∃N,N=A.getLastD RV.zero:=⟨_,rfl⟩;have hgN:(RV.zero::A)[C.length]? =some N:=by rw[hN];exact Mb hAC.symm
 have hCA:C.length<(RV.zero::A).length:=by simp only[YV];omega
 have hgN':(RV.zero::A)[C.length]=N:=by rw[YU hCA]at hgN;exact ZU hgN
 have ix:aS 7 sa (.i (C.length:Int))=some (cN sa 7 C.length,.au):=sta.dG hCA;have ld:∀{kk:ah},Ext W kk->aq (some 7) (cN sa 7 C.length) (λb=>kk[b]?)=some (.agg N.row,.au):=λ{kk} e=>by rw[<-hgN'];exact sta.jD hCA e
 have oN:aC (fJ [some h.length] W) N:=by
  rcases kr A with hA|⟨m,y,hA⟩
  ·rw[hN,hA];exact aC.zero
  ·have:N=y:=by rw[hN,hA];simp
   rw[this];exact st.ae y (by rw[hA];simp)
 have lN:∀i,some i∈N.bl->h.length<i:=by
  rcases kr A with hA|⟨m,y,hA⟩
  ·intro i hi;rw[hN,hA]at hi;simp[RV.zero,RV.bl,sB]at hi
  ·have:N=y:=by rw[hN,hA];simp
   rw[this];exact st.al y (by rw[hA];simp)
 have hNr:N.an=(A.map RV.an).getLastD eM.zero:=by rw[hN];exact Ac A
 have wN:eJ N.an:=by rw[hNr];exact st.w.now
 have hbl:=(YQ.1 st.b).1;by_cases hlt:k<L.length
 case neg=>
  have e3:=fo hlt;have e4:k=L.length:=Om
  have hr:=st.r;rw[e4,ZX]at hr;have U6:aP (L.map EV.ev)=(⟨(L.take L.length).map EV.ev,C.map EV.ev,A.map RV.an⟩,0,0):=hr;have Tu:=oN.Js st.b;have gm:=oa (W:=W) (b:=h.length) (V:=N) hbl;refine Rs (A7 t0 t3 t6 t7 t8 oW.sl.aJ e3) ?_;rw[<-hE];unfold xD fn81;simp only[ai.j,ai.s,ai.r,ai.dr,ai.tl];refine Rs (yu t0 t3 t6 t7 t8 VZ.aJ ix @ld @Tu @aF @gm @gj @cY @cZ @lB) ?_;exact⟨st.x.iQ (Y9 _),sc,N,C,by rw[U6],oN.sub Bn,by rw[U6,hNr];rfl,wN,⟨st.c.sub Bn,λy hy=>(st.ce y hy).sub Bn⟩,by rw[U6],Om,lN⟩
 have e3:=ee hlt;have e5:=wrapN (n:=k) Om;have ik:=oW.sl.dG (kk:=.i64) hlt;obtain⟨x,hx⟩:∃x,x=L[k]:=⟨_,rfl⟩;have SG:x∈L:=by rw[hx];exact Za _
 have lx:∀{kk:ah},Ext W kk->aq (some 5) (cN s 5 k) (λb=>kk[b]?)=some (.agg x.row,.au):=λ{kk} e=>by rw[hx];exact oW.sl.jD hlt e
 have lx0:∀{kk:ah},Ext W kk->aq none (lL s 5 k 0) (λb=>kk[b]?)=some (.i x.ev.num,.au):=λ{kk} e=>oW.sl.pW hlt (by rw[<-hx];rfl) e
 have lx1:∀{kk:ah},Ext W kk->aq none (lL s 5 k 1) (λb=>kk[b]?)=some (.str x.ev.kind,.au):=λ{kk} e=>oW.sl.pW hlt (by rw[<-hx];rfl) e
 have ox:bw W x:=oW.all x SG;have hd:L.drop k=x::L.drop (k+1):=by rw[hx];simp
 have R4:(L.take (k+1)).map EV.ev=(L.take k).map EV.ev++[x.ev]:=by rw[ZF,YU hlt,Y5,hx];rfl
 have RL:=st.r;rw[hd,ZP,fD]at RL;obtain⟨H,hH⟩:∃H:hO,H=⟨(L.take k).map EV.ev,C.map EV.ev,A.map RV.an⟩:=⟨_,rfl⟩;rw[<-hH]at RL;have hHe:H.c8.length=k:=by rw[hH];simp only[YY,ZR];omega
 have wH:kO H:=by rw[hH];exact st.w
 have hNow:N.an=H.now:=by rw[hNr,hH];rfl
 have sbz:∀{kk:ah},Ext W kk->aW 7 (.ptr h.length 0) (.agg [AV.i 0,.af,.af,.af,.af,.af,.af]) (λz=>kk[z]?)=some (az,.set h.length (.b RV.zero.row)):=λ{kk} e=>(aC.zero (h:=W)).Js (e.some st.b)
 have fin:∀{W' G:ah}{c:Int},Ext h W'->eC H x.ev=c->c≠0->Nj h (L.map EV.ev) (.dM [.af,.agg RV.zero.row,.i ((k+1:Nat):Int),.i c]) (W'.set h.length (.b RV.zero.row)++G):=by
  intro W' G c e hb h0;refine BM h0 ?_ ((e.iQ (Y9 _)).trans ⟨G,rfl⟩);rw[RL,Zb (by rw[hb];exact h0),hb];simp
 have gmz:∀{W' G:ah},h.length<W'.length->aq (some 7) (.ptr h.length 0) (λz=>(W'.set h.length (.b RV.zero.row)++G)[z]?)=some (.agg RV.zero.row,.au):=λ{W' G} hb=>by
  rw[aA (by rw[YT (by rw[ZI];exact hb)];exact Zd hb)];rfl
 have T3:=(sh.e x SG);refine Rs (A9 t0 t3 t6 t7 t8 oW.sl.aJ e3 @ik @lx) ?_;refine WF.ce T.c39 (r39 T (ox.ext Xx) ⟨Om,Om⟩ (hnl x SG)) λg1=>?_
 obtain⟨W1,Uy⟩:∃Z,Z=W++g1:=⟨_,rfl⟩;rw[<-Uy];have e1:Ext W W1:=⟨g1,Uy⟩;have lx0:∀{kk:ah},Ext W1 kk->aq none (lL s 5 k 0) (λb=>kk[b]?)=some (.i x.ev.num,.au):=λ{kk} e=>lx0 (e1.trans e)
 have lx1:∀{kk:ah},Ext W1 kk->aq none (lL s 5 k 1) (λb=>kk[b]?)=some (.str x.ev.kind,.au):=λ{kk} e=>lx1 (e1.trans e)
 have lx:∀{kk:ah},Ext W1 kk->aq (some 5) (cN s 5 k) (λb=>kk[b]?)=some (.agg x.row,.au):=λ{kk} e=>lx (e1.trans e)
 have ld:∀{kk:ah},Ext W1 kk->aq (some 7) (cN sa 7 C.length) (λb=>kk[b]?)=some (.agg N.row,.au):=λ{kk} e=>ld (e1.trans e)
 have sbz:∀{kk:ah},Ext W1 kk->aW 7 (.ptr h.length 0) (.agg [AV.i 0,.af,.af,.af,.af,.af,.af]) (λz=>kk[z]?)=some (az,.set h.length (.b RV.zero.row)):=λ{kk} e=>sbz (e1.trans e)
 have WN:h.length<W1.length:=by have:=e1.len;omega
 have VT:=λ{G:ah}=>gmz (G:=G) WN
 have st:=st.ext e1;have stx:=st.x;have d11:decide ((11:Int)=0)=false:=rfl;have d11':decide ((11:Int)≠0)=true:=rfl;have d12:decide ((12:Int)=0)=false:=rfl;have d21:decide ((21:Int)=0)=false:=rfl;have d12':decide ((12:Int)≠0)=true:=rfl;have d21':decide ((21:Int)≠0)=true:=rfl;have d0:decide ((0:Int)=0)=true:=rfl;have d0':decide ((0:Int)≠0)=false:=rfl;by_cases h1:gV x.ev=0
 case neg=>
  have q1:decide (gV x.ev=0)=false:=YS h1;have q2:decide (gV x.ev≠0)=true:=YW h1;refine Rs (yu t0 t3 t6 t7 t8 VZ.aJ q1 q2 e5 @sbz @gj @cY @cZ @lB @VT) ?_;exact fin stx (by rw[eC,Zb h1]) h1
 have q1:decide (gV x.ev=0)=true:=YW h1;have q1':decide (gV x.ev≠0)=false:=YS (λz=>z h1);obtain⟨d,we⟩:=rL h1;have hkD:=we.kH;have RM:x.ev.kind=bh d:=bW we.kd;have Wi:eC H x.ev=kj H x.ev:=by rw[eC,Y6 (λz=>z h1)]
 by_cases h2:x.ev.num=((k+1:Nat):Int)
 case neg=>
  have q3:decide (x.ev.num≠((k+1:Nat):Int))=true:=YW h2;refine Rs (RE t0 t3 t6 t7 t8 VZ.aJ q1 @ik @lx0 e5 q3 @d11 @d11' @sbz @gj @cY @cZ @lB @VT) ?_;exact fin stx (by rw[Wi,kj,Zb (by rw[hHe];simpa using h2)]) De
 have q3:decide (x.ev.num≠((k+1:Nat):Int))=false:=YS (λz=>z h2);have hacc:¬x.ev.num≠(H.c8.length:Int)+1:=by rw[hHe];simpa using h2
 by_cases hu:d=.eF
 case pos=>
  have hK:kH x.ev=.eF:=by rw[hkD,hu]
  have q4:decide (bh d=[117,110,100,111])=true:=by rw[n7,hu];rfl
  rcases kr C with hC|⟨M,c,hC⟩
  ·have q5:decide ((C.length:Int)=0)=true:=by rw[hC];rfl
   refine Rs (Qr t0 t3 t6 t7 t8 VZ.aJ q1 @ik @lx0 @lx1 e5 q3 @RM q4 q5 @d12 @d12' @sbz @gj @cY @cZ @lB @VT) ?_;refine fin (c:=12) stx ?_ De;rw[Wi,kj,Y6 hacc,Zb hK,hH,hC];rfl
  ·have hCl2:C.length=M.length+1:=by rw[hC];simp
   have q5:decide ((C.length:Int)=0)=false:=YS Om;have w1:IntKind.i64.wrap ((C.length:Int)-1)=(M.length:Int):=by rw[bu Om Om];omega
   have hMl:M.length<C.length:=Om
   have hcM:C[M.length]=c:=by simp[hC]
   have ic:aS 5 sc (.i (M.length:Int))=some (cN sc 5 M.length,.au):=VZ.dG hMl;have lc:∀{kk:ah},Ext W1 kk->aq none (lL sc 5 M.length 1) (λb=>kk[b]?)=some (.str c.ev.kind,.au):=λ{kk} e=>VZ.pW hMl (by rw[hcM];rfl) (e1.trans e)
   obtain⟨dc,wc⟩:=st.w.cn c.ev (Zo (by rw[hC];simp));have hkc:c.ev.kind=bh dc:=bW wc.kd;have hlast:H.eV.getLast? =some c.ev:=by rw[hH,hC];simp
   by_cases hr:dc=.rel
   ·have q6:decide (bh dc=[114,101,108,101,97,115,101])=true:=by rw[qv,hr];rfl
    repeat (first|simp (config:={maxSteps:=1000000}) only[aQ,aT,bo,bp,reduceAdd,reduceMul,reduceLeDiff,reduceEqDiff,bz,hlen,Zf,Zi,t0,t3,t6,t7,t8,VZ.aJ,q1,ik,lx0,lx1,e5,q3,RM,q4,q5,w1,ic,lc,hkc,q6,d21,d21',sbz,gj,cY,cZ,lB,VT]|simp (config:={maxSteps:=1000000}) (disch:=first|(simp only[YP,YV,YX]<;>omega)|rfl|omega|fail) only[fc,aQ,aT,bo,bp,reduceAdd,reduceMul,reduceLeDiff,reduceEqDiff,bz,hlen,Zf,Zi,t0,t3,t6,t7,t8,VZ.aJ,q1,ik,lx0,lx1,e5,q3,RM,q4,q5,w1,ic,lc,hkc,q6,d21,d21',sbz,gj,cY,cZ,lB,VT])
    refine fin (c:=21) stx ?_ De;rw[Wi,kj,Y6 hacc,Zb hK,hlast];simp only[wc.kH,hr,Zi]
   ·have q6:decide (bh dc=[114,101,108,101,97,115,101])=false:=by rw[qv];exact YS hr
    have S0:eC H x.ev=0:=by
     rw[Wi,kj,Y6 hacc,Zb hK,hlast];simp only[wc.kH,hr,Zf]
    obtain⟨Sd,ec,hsc⟩:=st.c.Dl (lo:=none) (hi:=some (.i (M.length:Int))) (iF Om);obtain⟨sa',ea,hsa⟩:=st.a.Dl (lo:=none) (hi:=some (.i (C.length:Int))) (iF (by simp;omega));refine Rs (M0 t0 t3 t6 t7 t8 VZ.aJ q1 @ik @lx0 @lx1 e5 q3 @RM q4 q5 @w1 @ic @lc @hkc q6 @ec @ea) ?_;rcases kr A with hA|⟨D,R,hA⟩
    ·rw[hA]at hAC;simp only[YX]at hAC;omega
    have hCM:List.take (M.length-0) (List.drop 0 C)=M:=by rw[hC];simp
    have hDl:D.length=M.length:=by have:=hAC;rw[hA]at this;simp only[YP,Zp]at this;omega
    have hAD:List.take (C.length-0) (List.drop 0 (RV.zero::A))=RV.zero::D:=by
     rw[hCl2,hA,Nat.sub_zero,aag,aaN,<-hDl];simp
    rw[hCM]at hsc;rw[hAD]at hsa;have Ux:iS H x.ev=⟨(L.take (k+1)).map EV.ev,M.map EV.ev,D.map RV.an⟩:=by
     rw[iS,Zb hK,hH,R4,hC,hA];simp
    refine⟨_,Om,k+1,M,D,Sd,sa',Om,rfl,⟨stx,st.b,hsc,λy hy=>st.ce y (by rw[hC];simp[hy]),hsa,λy hy=>st.ae y (by rw[hA];simp[hy]),λy hy=>st.al y (by rw[hA];simp[hy]),?_,?_⟩,rfl,rfl,rfl⟩
    ·rw[<-Ux];exact wH.add S0
    ·rw[RL,Y6 (λz=>z S0),Ux]
 case neg=>
 have hK:kH x.ev≠.eF:=by rw[hkD];exact hu
 have q4:decide (bh d=[117,110,100,111])=false:=by rw[n7];exact YS hu
 have hacs:eC H x.ev=fY N.an x.ev d:=by rw[Wi,kj,Y6 hacc,Y6 hK,hkD,<-hNow]
 refine Rs (Jl t0 t3 t6 t7 t8 VZ.aJ q1 @ik @lx0 @lx1 @lx e5 q3 @RM q4 ix @ld) ?_;have ox1:=ox.ext e1;have oN1:aC W1 N:=(oN.sub (jB.fJ _ _)).ext e1;refine WF.res T.c129 (r129 T (d:=d) (oN1.ext Xx) wN (ox1.ext Xx) we hu) ?_;rintro _ g2 ⟨V',rfl,Yb,Xd⟩;obtain⟨W2,So⟩:∃Z,Z=W1++[ak.b [AV.i 0,.af,.af,.af,.af,.af,.af]]++g2:=⟨_,rfl⟩;rw[<-So]at Yb ⊢;have e2:Ext W1 W2:=by rw[So,YR];exact⟨_,rfl⟩
 have m2:W2[W1.length]? =some (.b kT):=by
  rw[So];exact(show Ext (W1++[ak.b kT]) _ from⟨g2,rfl⟩).some a8
 have hl2:W1.length<W2.length:=(YQ.1 m2).1;have sbn:=Yb.Js m2;obtain⟨W3,RZ⟩:∃Z,Z=W2.set W1.length (.b V'.row):=⟨_,rfl⟩;have e3':Ext W1 W3:=by rw[RZ];exact e2.iQ (Y9 _)
 have x3:Ext h W3:=stx.trans e3';have m3:W3[W1.length]? =some (.b V'.row):=by rw[RZ];exact Zd hl2
 have Yx:W3.length=W2.length:=by rw[RZ,ZI]
 have k3:∀i,i≠W1.length->W3[i]? =W2[i]? :=λi hi=>by rw[RZ,Zc (aam hi)]
 have sbz3:=sbz e3';have gmz3:aq (some 7) (.ptr h.length 0) (λz=>(W3.set h.length (.b RV.zero.row))[z]?)=some (.agg RV.zero.row,.au):=oa Om;have nM:=st.ext e3';by_cases h5:fY N.an x.ev d=0
 case neg=>
  have q5:decide (fY N.an x.ev d≠0)=true:=YW h5;have ef:=fin (W':=W3) (G:=[]) x3 hacs h5;rw[Zr]at ef;rw[RZ]at sbz3 gmz3 ef;refine Rs (wP t0 t3 t6 t7 t8 @sbn q5 e5 @sbz3 @gj @cY @cZ @lB @gmz3) ?_;exact ef
 have q5:decide (fY N.an x.ev d≠0)=false:=YS (λz=>z h5);have S0:eC H x.ev=0:=by rw[hacs,h5]
 obtain⟨hVr,hVb⟩:=Xd h5;have hVb:∀i,some i∈V'.bl->W1.length<i:=λi hi=>by have:=hVb i hi;simp only[YP,Zp]at this;omega
 refine Rs (A7 t0 t3 t6 t7 t8 @sbn q5) ?_;rw[<-RZ];have stc3:=nM.c.sub (jB.fJ _ _);refine WR.ql (N:=W3.length) (w:=88) a8 (Y9 _) (stc3.ext Xx) (by rw[YY];omega) λa1 y1 f1=>?_
 have p1:=f1.ba.one;obtain⟨Y,hY⟩:∃Z,Z=W3++[ak.b []]++y1:=⟨_,rfl⟩;rw[<-hY]at f1 ⊢;have eY:Ext W3 Y:=by rw[hY,YR];exact⟨_,rfl⟩
 have lxY:∀{kk:ah},Ext Y kk->aq (some 5) (cN s 5 k) (λb=>kk[b]?)=some (.agg x.row,.au):=λ{kk} e=>lx ((e3'.trans eY).trans e)
 have bs:=@bw.GK _ _ ox;refine Rs (A9 t0 t3 t6 t7 t8 @ik @lxY @bs @p1) ?_;refine WR.qm (B:=W3) (cs:=C.map EV.row) f1 rfl eY De (by rw[YY];omega) ?_;intro W4 s4 x4 hf4 hn4 q4' l4 hk4;have hrow:C.map EV.row++[x.row]=(C++[x]).map EV.row:=by rw[Y5];rfl
 rw[hrow]at hf4;have st4:=nM.ext x4;have sta4:=st4.a.sub (jB.fJ _ _);refine Rs (A5 t0 t3 t6 t7 t8) ?_;refine WR.ql (N:=W4.length) (w:=152) a8 (Y9 _) (sta4.ext Xx) (by simp only[YY,YV];omega) λa2 y2 f2=>?_
 have p2:=f2.ba.one;obtain⟨Y2,Uf⟩:∃Z,Z=W4++[ak.b []]++y2:=⟨_,rfl⟩;rw[<-Uf]at f2 ⊢;have UC:Ext W4 Y2:=by rw[Uf,YR];exact⟨_,rfl⟩
 have lnx:∀{kk n a},Ext Y2 kk->aq n (.ptr W1.length a) (λz=>kk[z]?)=dE n a (.b V'.row):=λ{_ _ _} e=>aA (((x4.trans UC).trans e).some m3)
 have bv:=@aC.GK _ _ Yb;refine Rs (A9 t0 t3 t6 t7 t8 @lnx @aF @bv @p2) ?_;refine WR.qm (B:=W4) (cs:=(RV.zero::A).map RV.row) f2 rfl UC De (by simp only[YY,YV];omega) ?_;intro W5 s5 x5 YD hn5 q5' l5 hk5;have hrow2:(RV.zero::A).map RV.row++[V'.row]=(RV.zero:: (A++[V'])).map RV.row:=Si
 rw[hrow2]at YD;have st5:=st4.ext x5;have oV5:aC W5 V':=((Yb.au λi hi=>k3 i (by have:=hVb i hi;omega)).ext x4).ext x5;have Ux:iS H x.ev=⟨(L.take (k+1)).map EV.ev,(C++[x]).map EV.ev,(A++[V']).map RV.an⟩:=by
  rw[iS,Y6 hK,hkD,hH,R4];simp only[Y5,ZP,aaF,hVr];rw[<-hNow,hH]at *
  first|rfl|simp[hNr,hO.now]
 have hlW3:h.length<W3.length:=Om
 have hl4:W3.length<=W4.length:=x4.len;refine Rs (A6 t0 t3 t6 t7 t8 e5) ?_;refine⟨_,Om,k+1,C++[x],A++[V'],s4,s5,Om,rfl,⟨x3.trans (x4.trans x5),st5.b,(hf4.ext x5).ba.fJ λb hb z=>?_,λy hy=>?_,YD.ba.fJ λb hb z=>?_,λR hR=>?_,λR hR=>?_,?_,?_⟩,rfl,rfl,rfl⟩
 ·have:=(hf4.bN hb).1;exact M1
 ·rcases YZ.1 hy with hy|hy
  ·exact st5.ce y hy
  ·rw[Zm]at hy;rw[hy];exact(o.all x SG).sub (KJ (x3.trans (x4.trans x5)))
 ·have:=(YD.bN hb).1;exact M1
 ·rcases YZ.1 hR with hR|hR
  ·exact st5.ae R hR
  ·rw[Zm]at hR;rw[hR];exact oV5.fJ λi hi z=>by
    have:=hVb i hi;exact M1
 ·rcases YZ.1 hR with hR|hR
  ·exact st5.al R hR
  ·rw[Zm]at hR;rw[hR];intro i hi;have:=hVb i hi;omega
 ·rw[<-Ux];exact wH.add S0
 ·rw[RL,Y6 (λz=>z S0),Ux]
def r81{L s}(o:dZ h L s)(sh:uO L)(hnl:∀x∈L,∀n∈x.ev.names,n.length<2^63):ay P 81 [s] h (Q8 h.length (L.map EV.ev)):=by
 refine .of T.mix (abq T.c81 (Zz some N9)) ?_;obtain⟨ts,RG⟩:∃ts,ts=aR 110 [s]:=⟨_,rfl⟩;have hlen:ts.length=110:=by rw[RG];rfl
 have t0:slot ts 0=s:=by rw[RG];rfl
 show WC P bL (.seq (DY 0) (xD 1)) [] (aR 110 [s]) h (FQ [(2,none),(3,some (some 7)),(4,none),(5,none)] (Nj h (L.map EV.ev)));rw[<-RG];clear RG;have hsl:=sh.l;by_cases h1:1000<L.length
 ·have q1:decide ((1000:Int)<(L.length:Int))=true:=YW Om;have e:aP (L.map EV.ev)=(hO.zero,0,5):=by rw[aP,Zb (by simpa using h1)]
  have m0:(h++[ak.b kT])[h.length]? =some (.b kT):=a8;have sbz:aW 7 (.ptr h.length 0) (.agg [AV.i 0,.af,.af,.af,.af,.af,.af]) (λz=>(h++[ak.b kT])[z]?)=some (az,.set h.length (.b RV.zero.row)):=(aC.zero (h:=h)).Js m0;unfold kT at sbz;have gmz:aq (some 7) (.ptr h.length 0) (λz=>(h++[ak.b RV.zero.row])[z]?)=some (.agg RV.zero.row,.au):=by rw[aA a8];rfl
  unfold xD DY fn81;simp only[ai.j,ai.s,ai.r,ai.dr,ai.tl,ai.hd];refine Rs (A9 t0 o.sl.aJ q1 @sbz @gj @cY @cZ @lB @gmz) ?_;exact BM De e Xx
 have q1:decide ((1000:Int)<(L.length:Int))=false:=YS Om;rw[N8,N7,N6];generalize hR:xD 4=R;unfold DY fn81;simp only[ai.j,ai.s,ai.r,ai.dr,ai.tl,ai.hd];refine Rs (A3 t0 o.sl.aJ q1) ?_;rw[<-hR];have hx:Ext h (h++[ak.b kT]++[ak.cells RV.zero.row true true]):=Xx;have fz:Fr (h.length+1) (h++[ak.b kT]++[ak.cells RV.zero.row true true]) (.slice (h.length+1) 0 1 7) 7 [RV.zero.row]:=by
  have:=Fr.push (h:=h++[ak.b kT]) (N:=h.length+1) (es:=7) Si [RV.zero.row] (λx hx=>by rw[Zm]at hx;rw[hx];rfl)
  simpa using this
 refine DX T (sa:=.slice (h.length+1) 0 1 7) (W:=h++[ak.b kT]++[ak.cells RV.zero.row true true]) o sh hnl Om ⟨hx,Si,.nil,(λ_ h=>by cases h),fz.ba.fJ λb hb z=>?_,(λ_ h=>by cases h),(λ_ h=>by cases h),kO.zero,?_⟩ Sn (Sq t0) Sw Sw (by simp only[aQ,aT,bo,bp,reduceAdd,reduceMul,reduceLeDiff,reduceEqDiff,bz,hlen,Zf,Zi];simp)
 ·have:=(fz.bN hb).1;exact M1
 ·rw[aP,Y6 (by simpa using h1)];rfl
end
structure Q9(L:List EV):Prop where
 n:∀x∈L,∀n∈x.ev.names,n.length<2^63
section
variable {P:Program}(T:fp P) {h:ah}
include T
def r18{L s}(o:dZ h L s)(sh:uO L)(nl:Q9 L):ay P 18 [s] h (λv k=>∃V:RV,v=.dM [.agg V.row,.i (aP (L.map EV.ev)).2.1,.i (aP (L.map EV.ev)).2.2]/\aC k V/\V.an=(aP (L.map EV.ev)).1.now/\eJ V.an/\∀i,some i∈V.bl->h.length<i):=by
 refine .kU 19 T.mix T.c18 ?_;intro ts hlen t0;unfold fn18 gA;refine Rs t0 ?_;refine WF.res T.c81 (r81 T (o.ext Xx) sh nl.n) ?_;rintro _ g ⟨sc,V,C,rfl,oV,hV,wV,oC,hC,hCl,lo⟩;have lo:∀i,some i∈V.bl->h.length+1<i:=λi hi=>by have:=lo i hi;simpa using this
 have st:=@aC.st _ _ oV;refine Rs (A3 t0 @st @aF) ?_;refine⟨V,rfl,?_,hV,wV,λi hi=>by have:=lo i hi;omega⟩;have:=oV.au (k:=h++[ak.b V.row]++g) λj hj=>ug (by have:=lo j hj;omega)
 exact this.ext Xx
end
def yG(e:ed):Bool:=decide (e.kind.length<=40)&&decide (e.names.length<=6)&&decide (e.cB.length<=8)&&decide (e.text.length<=200)&&e.names.all λx=>decide (x.length<=40)
section
variable {P:Program}(T:fp P) {h:ah}
include T
def r14{L s}(o:dZ h L s)(hl:L.length<2^63)(hn:∀x∈L,x.ev.names.length<2^63){n}(h0:n<=1000):ay P 14 [s,.i n] h (λv _=>v=.bool (ia (L.map EV.ev) n)):=by
 refine .eP 71 T.mix T.c14 ?_;intro ts hlen t0 t1;unfold fn14 gA;by_cases h1:n<L.length
 ·have q1:decide (n<(L.length:Int))=true:=YW h1;refine Rs (A4 t0 t1 o.sl.aJ q1) ?_;rw[ia,YS (by simpa using h1)];rfl
 have q1:decide (n<(L.length:Int))=false:=YS h1;have hsh:ia (L.map EV.ev) n=L.all (λy=>yG y.ev):=by
  rw[ia,YW (by simp;omega),aao,List.all_map];rfl
 rw[hsh];refine Rs (A4 t0 t1 o.sl.aJ q1) ?_;refine WL.inv T.mix (λm ts h'=>∃k:Nat,k<=L.length/\m=L.length-k/\h' =h/\L.all (λy=>yG y.ev)=(L.drop k).all (λy=>yG y.ev)/\ts.length=71/\slot ts 0=s/\slot ts 5=.i k) L.length
  ⟨0,Om,rfl,rfl,rfl,Sn,(Sq t0),gM⟩ ?_
 clear t0 t1 hlen;rintro _ ts h' ⟨k,hk,rfl,rfl,hi,hlen,t0,t5⟩;by_cases hlt:k<L.length
 case neg=>
  have e3:=fo hlt;have e4:k=L.length:=Om
  rw[e4,ZX]at hi;refine Rs (A4 t0 t5 o.sl.aJ e3) ?_;rw[hi];rfl
 have e3:=ee hlt;have e5:=wrapN (n:=k) Om;have ik:=o.sl.dG (kk:=.i64) hlt;obtain⟨x,hx⟩:∃x,x=L[k]:=⟨_,rfl⟩;have SG:x∈L:=by rw[hx];exact Za _
 have ox:=o.all x SG;have hd:L.drop k=x::L.drop (k+1):=by rw[hx];simp
 rw[hd,aau]at hi;have l1:∀{kk:ah},Ext h' kk->aq none (lL s 5 k 1) (λb=>kk[b]?)=some (.str x.ev.kind,.au):=λ{kk} e=>o.sl.pW hlt (by rw[<-hx];rfl) e
 have l2:∀{kk:ah},Ext h' kk->aq none (lL s 5 k 2) (λb=>kk[b]?)=some (x.sn,.au):=λ{kk} e=>o.sl.pW hlt (by rw[<-hx];rfl) e
 have l3:∀{kk:ah},Ext h' kk->aq none (lL s 5 k 3) (λb=>kk[b]?)=some (x.sv,.au):=λ{kk} e=>o.sl.pW hlt (by rw[<-hx];rfl) e
 have l4:∀{kk:ah},Ext h' kk->aq none (lL s 5 k 4) (λb=>kk[b]?)=some (.str x.ev.text,.au):=λ{kk} e=>o.sl.pW hlt (by rw[<-hx];rfl) e
 have dc:∀a b:Nat,decide ((b:Int)<(a:Int))= !decide (a<=b):=λa b=>by
  by_cases hc:a<=b
  ·rw[YW hc,YS Om];rfl
  ·rw[YS hc,YW Om];rfl
 have c1:decide ((40:Int)<(x.ev.kind.length:Int))= !decide (x.ev.kind.length<=40):=dc _ 40;have c2:decide ((6:Int)<(x.ev.names.length:Int))= !decide (x.ev.names.length<=6):=dc _ 6;have c3:decide ((8:Int)<(x.ev.cB.length:Int))= !decide (x.ev.cB.length<=8):=dc _ 8;have c4:decide ((200:Int)<(x.ev.text.length:Int))= !decide (x.ev.text.length<=200):=dc _ 200;have bad:yG x.ev=false->L.all (λy=>yG y.ev)=false:=λhb=>by rw[hi,hb];rfl
 by_cases b1:x.ev.kind.length<=40
 case neg=>
  have d1:decide (x.ev.kind.length<=40)=false:=YS b1;refine Rs (A9 t0 t5 o.sl.aJ e3 @ik @l1 @c1 @d1 @Zq) ?_;rw[bad (by simp only[yG,d1,aaV])]
 have d1:decide (x.ev.kind.length<=40)=true:=YW b1;by_cases b2:x.ev.names.length<=6
 case neg=>
  have d2:decide (x.ev.names.length<=6)=false:=YS b2;refine Rs (wP t0 t5 o.sl.aJ e3 @ik @l1 @l2 @c1 @d1 @c2 @d2 ox.n.aJ @Zq @Zg) ?_;rw[bad (by simp only[yG,d2,Bool.and_false,aaV])]
 have d2:decide (x.ev.names.length<=6)=true:=YW b2;by_cases b3:x.ev.cB.length<=8
 case neg=>
  have d3:decide (x.ev.cB.length<=8)=false:=YS b3;refine Rs (GU t0 t5 o.sl.aJ e3 @ik @l1 @l2 @l3 @c1 @d1 @c2 @d2 @c3 @d3 ox.n.aJ ox.v.aJ @Zq @Zg) ?_;rw[bad (by simp only[yG,d3,Bool.and_false,aaV])]
 have d3:decide (x.ev.cB.length<=8)=true:=YW b3;by_cases b4:x.ev.text.length<=200
 case neg=>
  have d4:decide (x.ev.text.length<=200)=false:=YS b4;refine Rs (Ra t0 t5 o.sl.aJ e3 @ik @l1 @l2 @l3 @l4 @c1 @d1 @c2 @d2 @c3 @d3 @c4 @d4 ox.n.aJ ox.v.aJ @Zq @Zg) ?_;rw[bad (by simp only[yG,d4,Bool.and_false,aaV])]
 have d4:decide (x.ev.text.length<=200)=true:=YW b4;have Yn:yG x.ev=x.ev.names.all λz=>decide (z.length<=40):=by simp only[yG,d1,d2,d3,d4,aao]
 rw[Yn]at hi bad;refine Rs (Nn t0 t5 o.sl.aJ e3 @ik @l1 @l2 @l3 @l4 @c1 @d1 @c2 @d2 @c3 @d3 @c4 @d4 ox.n.aJ ox.v.aJ @Zg) ?_;refine WL.inv T.mix (λm ts h1=>∃j:Nat,j<=x.ev.names.length/\m=x.ev.names.length-j/\h1=h'/\(x.ev.names.all λz=>decide (z.length<=40))=(x.ev.names.drop j).all (λz=>decide (z.length<=40))/\ts.length=71/\slot ts 0=s/\slot ts 5=.i k/\slot ts 6=.i j) x.ev.names.length
  ⟨0,Om,rfl,rfl,rfl,Sn,(Sq t0),(Sq t5),gM⟩ ?_
 clear t0 t5 hlen;rintro _ ts h1 ⟨j,hj,rfl,rfl,hij,hlen,t0,t5,t6⟩;by_cases T6:j<x.ev.names.length
 ·have f3:decide ((j:Int)<x.ev.names.length)=true:=YW Om;have f5:IntKind.i64.wrap ((j:Int)+1)=((j+1:Nat):Int):=wrapN Om;have ij:=ox.n.dG (kk:=.i64) T6;have ln:=ox.n.kY (i:=j) (x:=.str x.ev.names[j]) T6 rfl (Ext.refl _);have c5:decide ((40:Int)<(x.ev.names[j].length:Int))= !decide (x.ev.names[j].length<=40):=dc _ 40;have Uu:x.ev.names.drop j=x.ev.names[j]::x.ev.names.drop (j+1):=Si
  rw[Uu,aau]at hij;cases hz:decide (x.ev.names[j].length<=40)with
  |true=>
   rw[hz,aao]at hij
   repeat (first|simp (config:={maxSteps:=1000000}) only[aQ,aT,bo,bp,reduceAdd,reduceMul,reduceLeDiff,reduceEqDiff,bz,hlen,Zf,Zi,t0,t5,t6,ik,l2,ox.n.aJ,f3,ij,ln,c5,hz,Zg,f5]|simp (config:={maxSteps:=1000000}) (disch:=first|(simp only[YP,YV,YX]<;>omega)|rfl|omega|fail) only[fc,aQ,aT,bo,bp,reduceAdd,reduceMul,reduceLeDiff,reduceEqDiff,bz,hlen,Zf,Zi,t0,t5,t6,ik,l2,ox.n.aJ,f3,ij,ln,c5,hz,Zg,f5])
   exact⟨_,Om,j+1,Om,rfl,hij,rfl⟩
  |false=>
   rw[hz,aaV]at hij
   repeat (first|simp (config:={maxSteps:=1000000}) only[aQ,aT,bo,bp,reduceAdd,reduceMul,reduceLeDiff,reduceEqDiff,bz,hlen,Zf,Zi,t0,t5,t6,ik,l2,ox.n.aJ,f3,ij,ln,c5,hz,Zq]|simp (config:={maxSteps:=1000000}) (disch:=first|(simp only[YP,YV,YX]<;>omega)|rfl|omega|fail) only[fc,aQ,aT,bo,bp,reduceAdd,reduceMul,reduceLeDiff,reduceEqDiff,bz,hlen,Zf,Zi,t0,t5,t6,ik,l2,ox.n.aJ,f3,ij,ln,c5,hz,Zq])
   rw[bad hij]
 ·have f3:decide ((j:Int)<x.ev.names.length)=false:=YS Om;have f4:j=x.ev.names.length:=Om
  rw[f4,ZX]at hij;rw[hij,List.all_nil,aao]at hi;refine Rs (A8 t0 t5 t6 @ik @l2 ox.n.aJ @f3 e5) ?_;exact⟨_,Om,k+1,Om,rfl,hi,rfl⟩
end
theorem qp{α:Type}{row:α->List AV}{Q:α->Prop}:∀{cs:List (List AV)},(∀c∈cs,∃x,c=row x/\Q x)->∃L:List α,cs=L.map row/\∀x∈L,Q x
 |[],_=>⟨[],rfl,λ_ h=>by cases h⟩
 |c::cs,h=>by
  obtain⟨x,rfl,hx⟩:=h c (ZS ..);obtain⟨L,rfl,hL⟩:=qp (cs:=cs) λc hc=>h c (ZG _ hc)
  exact⟨x::L,rfl,λy hy=>(ZC.1 hy).elim (λe=>e▸hx) (hL y)⟩
def jr{n}(h:n<=maxLen):n<2^63:=by unfold maxLen at h;omega
def wY{h k a}(x:TY h (.int k) a):∃z,a=.int k z/\(Lit.int k z).wf=true:=by rw[TY]at x;exact x
def wX{h a}(x:TY h .str a):∃s:By,a=.str s/\s.length<=maxLen:=by rw[TY]at x;exact x
def Bi{h r a}(x:TY h (.sl r) a):∃cs:List (List AV),aH h a r.length cs/\cs.length<=maxLen/\∀c∈cs,jn h r c:=by rw[TY]at x;exact x
def tP{h l}(x:jn h [] l):l=[]:=by rw[jn]at x;exact x
def jv{h t ts l}(x:jn h (t::ts) l):∃a l',l=a::l'/\TY h t a/\jn h ts l':=by rw[jn]at x;exact x
def Bh{h l}(x:sH h [] l):l=[]:=by rw[sH]at x;exact x
def sN{h t ts l}(x:sH h (t::ts) l):∃a l',l=a::l'/\GO h t a/\sH h ts l':=by rw[sH]at x;exact x
def Dx{h k a}(x:GO h (.one (.int k)) a):∃z,a=.int k z/\(Lit.int k z).wf=true:=wY (h:=h) x
def Hf{z}(h:(Lit.int .u16 z).wf=true):0<=z/\z<=65535:=by
 simp only[Lit.wf,Zx,ZJ]at h;exact⟨h.1,h.2⟩
def Dz{h:ah}{a:AV}(x:TY h (.sl [.str]) a):∃L:List (By),aH h a 1 (L.map ao)/\L.length<=maxLen/\∀s∈L,s.length<=maxLen:=by
 obtain⟨cs,hs,hl,hc⟩:=Bi x;obtain⟨L,rfl,hL⟩:=qp (row:=ao) (Q:=λs=>s.length<=maxLen) λc Wh=>by
  obtain⟨_,_,rfl,h1,x⟩:=jv (hc c Wh);obtain rfl:=tP x;obtain⟨s,rfl,hs⟩:=wX h1;exact⟨s,rfl,hs⟩
 exact⟨L,hs,by simpa using hl,hL⟩
def DA{h:ah}{a:AV}(x:TY h (.sl [.int .i64]) a):∃L:List Int,aH h a 1 (L.map aK)/\L.length<=maxLen/\∀z∈L,(Lit.int .i64 z).wf=true:=by
 obtain⟨cs,hs,hl,hc⟩:=Bi x;obtain⟨L,rfl,hL⟩:=qp (row:=aK) (Q:=λz=>(Lit.int .i64 z).wf=true) λc Wh=>by
  obtain⟨_,_,rfl,h1,x⟩:=jv (hc c Wh);obtain rfl:=tP x;obtain⟨s,rfl,hs⟩:=wY h1;exact⟨s,rfl,hs⟩
 exact⟨L,hs,by simpa using hl,hL⟩
def EN:List CT:=[.int .i64,.str,.sl [.str],.sl [.int .i64],.str]
structure Jk(x:EV):Prop where
 n:x.ev.names.length<2^63
 v:x.ev.cB.length<2^63
 nn:∀n∈x.ev.names,n.length<2^63
 i:(Lit.int .i64 x.ev.num).wf=true
 k:x.ev.kind.length<2^63
 t:x.ev.text.length<2^63
 iv:∀z∈x.ev.cB,(Lit.int .i64 z).wf=true
def Hg{h c}(x:jn h EN c):∃y:EV,c=y.row/\bw h y/\Jk y:=by
 obtain⟨_,_,rfl,h1,x⟩:=jv x;obtain⟨_,_,rfl,h2,x⟩:=jv x;obtain⟨sn,_,rfl,h3,x⟩:=jv x;obtain⟨sv,_,rfl,h4,x⟩:=jv x;obtain⟨_,_,rfl,h5,x⟩:=jv x;obtain rfl:=tP x;obtain⟨n,rfl,hn⟩:=wY h1;obtain⟨k,rfl,hk⟩:=wX h2;obtain⟨N,hN,hNl,hNs⟩:=Dz h3;obtain⟨W,hW,hWl,hWs⟩:=DA h4;obtain⟨t,rfl,ht⟩:=wX h5;exact⟨⟨⟨n,k,N,W,t⟩,sn,sv⟩,rfl,⟨hN,hW⟩,⟨jr hNl,jr hWl,λs hs=>jr (hNs s hs),hn,jr hk,jr ht,hWs⟩⟩
structure zu(L:List EV):Prop where
 l:L.length<2^63
 e:∀x∈L,Jk x
def Dy{h:ah}{a:AV}(x:GO h (.one (.sl EN)) a):∃L:List EV,dZ h L a/\zu L:=by
 obtain⟨cs,hs,hl,hc⟩:=Bi (h:=h) x;obtain⟨L,rfl,hL⟩:=qp (row:=EV.row) (Q:=λy=>bw h y/\Jk y) λc Wh=>Hg (hc c Wh)
 exact⟨L,⟨hs,λy hy=>(hL y hy).1⟩,⟨jr (by simpa using hl),λy hy=>(hL y hy).2⟩⟩
def qT{L n}(h:ia (L.map EV.ev) n=true)(hn:n<=1000):uO L/\Q9 L/\L.length<=1000/\∀x∈L,yG x.ev=true:=by
 rw[ia,Zx,ZJ,YY]at h;have ha:∀x∈L,yG x.ev=true:=λx hx=>Zy.1 h.2 _ (Zo hx)
 have key:∀x∈L,x.ev.names.length<=6/\x.ev.cB.length<=8/\∀n∈x.ev.names,n.length<=40:=λx hx=>by
  have:=ha x hx;simp only[yG,Zx,ZJ,Zy]at this;exact⟨this.1.1.1.2,this.1.1.2,this.2⟩
 refine⟨⟨Om,λx hx=>?_⟩,⟨λx hx n hn=>?_⟩,Om,ha⟩
 ·have:=key x hx;omega
 ·have:=(key x hx).2.2 n hn;omega
def EC{α:Type}{f:α->By}{n:By}{L:List α}:decide (cT (λx=>decide (f x=n)) L<0)= !decide (n∈L.map f):=by
 rw[<-fk];by_cases h:0<=cT (λx=>decide (f x=n)) L
 ·rw[YW h,YS Om];rfl
 ·rw[YS h,YW Om];rfl
def Lm(V:RV)(n:By):decide (cT (λy:gN×AV=>decide (y.1.name=n)) V.aj<0)= !dC V.an 2 n:=by
 rw[EC (f:=λy:gN×AV=>y.1.name),<-gC];rfl
def Ha(a b c:Int):bZ (decide (bg a b c≠0)) 3=bg a b c:=by
 by_cases h:bg a b c=0
 ·rw[YS (λz=>z h),h];rfl
 ·rw[YW h,tW h];rfl
def zR(l:List ed)(t:Nat)(n:By)(r:List Int):aZ ((aP l).2.2::bZ (!dC (aP l).1.now t n) 10::r)=aZ ((gp l t n).2::r):=by
 unfold gp;by_cases h:(aP l).2.2=0
 ·rw[Y6 (λz=>z h),aZ,Zb h]
 ·rw[Zb h,aZ,Y6 h,aZ,Y6 h]
def D8{l t n}(h:(gp l t n).2=0):(gp l t n).1=(aP l).1.now/\dC (aP l).1.now t n=true:=by
 unfold gp at h ⊢;by_cases h1:(aP l).2.2=0
 ·rw[Y6 (λz=>z h1)]at h ⊢;refine⟨rfl,?_⟩;cases hc:dC (aP l).1.now t n with
  |true=>rfl
  |false=>simp only[hc]at h;exact absurd h De
 ·rw[Zb h1]at h;exact absurd h h1
def zD(k:Nat):ai:=(fn3).body.dr k
def qU(k:Nat):ai:=((fn3).body.dr k).hd
def NW:zD 9=.seq (qU 9) (zD 10):=rfl
def KT:zD 10=.seq (qU 10) (zD 11):=rfl
def NX:fn3=⟨101,3,[(6,none)],.seq (qU 0) (.seq (qU 1) (.seq (qU 2) (.seq (qU 3) (.seq (qU 4) (.seq (qU 5) (.seq (qU 6) (.seq (qU 7) (.seq (qU 8) (zD 9)))))))))⟩:=rfl
def zA{R t}(w:eJ R):(fj R t).length<=64:=by
 have h1:(fj R t).length<=R.aj.length:=by rw[fj,YY];exact ZD _ _
 have:=w.l2;omega
section
variable {P:Program}(T:fp P) {h:ah}
include T
def r19(c:Bool)(e:Int):ay P 19 [.bool c,.i e] h (λv _=>v=.i (bZ c e)):=by
 refine .eP 8 T.mix T.c19 ?_;intro ts hlen t0 t1;unfold fn19 gA;refine Rs (A2 t0 t1) ?_;refine WF.ce T.c82 (r82 T _ _) λg=>?_
 exact Rs (A2 t0 t1) Tv
def r21{s l}(hs:aH h s 1 (l.map aK))(hl:l.length<2^40):ay P 21 [s] h (λv _=>v=.i (aZ l)):=by
 refine .kU 5 T.mix T.c21 ?_;intro ts hlen t0;unfold fn21 gA;refine Rs t0 ?_;refine WF.ce T.c83 (r83 T hs Om) λg=>?_
 exact Rs t0 Tv
def GP(h:ah):AV->ah->Prop:=λv k=>Ext h k/\v=.bool true
def Bp(ha:∀k,Ext h k->ay P 15 [] k (λv _=>v=.bool true)){K:ah}{ts:TS}{b:Bool}{one two:Int}{u w:AV}{X:List (By)}(eK:Ext h K)(hu:aH K u 1 (X.map ao))(hw:aH K w 1 (X.map ao))(hX:X.length<2^40)(hlen:ts.length=101)
  (t7:slot ts 7=.bool b) (t8:slot ts 8=.i one) (t9:slot ts 9=u) (t10:slot ts 10=.i two) (t15:slot ts 15=.i one) (t16:slot ts 16=.i two) (t17:slot ts 17=.bool b) (t18:slot ts 18=w):
  WC P bL (zD 11) [] ts K (FQ [(6,none)] (GP h)):=by
 unfold zD fn3 gA;simp only[ai.j,ai.s,ai.r,ai.dr,ai.tl];have d3:(b==b)=true:=Si
 refine Rs (lQ t7 t8 t9 t10 t15 t16 t17 t18 @Zl @d3) ?_;refine WF.ce T.c25 (r25 T hu hw hX hX) λg1=>?_
 refine Rs (A9 t7 t8 t9 t10 t15 t16 t17 t18 @Zl) ?_;refine WF.ce T.c15 (ha _ (eK.trans ⟨g1,rfl⟩)) λg2=>?_
 refine Rs t7 ?_;exact⟨eK.trans (by rw[YR];exact⟨_,rfl⟩),rfl⟩
def Bo(ha:∀k,Ext h k->ay P 15 [] k (λv _=>v=.bool true)){K:ah}{ts:TS}{b:Bool}{one:Int}{u:AV}{V:RV}{kb:Nat}{l:List ed}{t:Int}(eK:Ext h K)(oV:aC K V)(wV:eJ V.an)(hV:V.an=(aP l).1.now)(mb:K[kb]? =some (.b V.row))(hu:aH K u 1 ((fB l t).1.map ao))(hlen:ts.length=101)
  (t2:slot ts 2=.i t) (t7:slot ts 7=.bool b) (t8:slot ts 8=.i one) (t9:slot ts 9=u) (t10:slot ts 10=.i (fB l t).2) (t11:slot ts 11=.ptr kb 0) (t15:slot ts 15=.i one) (t16:slot ts 16=.i (aZ [(aP l).2.2,iU t])) (t17:slot ts 17=.bool b) (t18:slot ts 18=.af):
  WC P bL (zD 10) [] ts K (FQ [(6,none)] (GP h)):=by
 have lb:=@eE _ _ _ mb;obtain⟨two,h2⟩:∃z,z=aZ [(aP l).2.2,iU t]:=⟨_,rfl⟩;rw[<-h2]at t16;rw[KT];generalize hR:zD 11=R;unfold qU fn3 gA;simp only[ai.j,ai.s,ai.r,ai.dr,ai.tl,ai.hd];by_cases hz:two=0
 ·have hq:fB l t=(fj (aP l).1.now t,0):=by rw[fB,<-h2,Y6 (λz=>z hz)]
  have q:decide (two=0)=true:=YW hz;refine Rs (Dk t2 t7 t8 t9 t10 t11 t15 t16 t17 t18 q @lb @aF) ?_;refine WF.res T.c24 (r24 T oV wV.len wV.ue t) ?_;rintro w g hw;refine Rs (lQ t2 t7 t8 t9 t10 t11 t15 t16 t17 t18) ?_;rw[<-hR];have hul:=zA (t:=t) wV;rw[hV]at hw hul;rw[hq]at hu t10;refine Bp T ha (X:=fj (aP l).1.now t) (b:=b) (one:=one) (two:=two) (eK.trans ⟨g,rfl⟩) (hu.ext ⟨g,rfl⟩) hw Om Sn (Sq t7) (Sq t8) (Sq t9) ?_ (Sq t15) (Sq t16) (Sq t17) (Sq t18);exact Zs (A2 t10 @hz) Tv
 ·have hq:fB l t=([],two):=by rw[fB,<-h2,Zb hz]
  have q:decide (two=0)=false:=YS hz;refine Rs (kS t2 t7 t8 t9 t10 t11 t15 t16 t17 t18 q) ?_;rw[<-hR];rw[hq]at hu t10;exact Bp T ha (X:=[]) (b:=b) (one:=one) (two:=two) eK hu .nil Si Sn (Sq t7) (Sq t8) (Sq t9) (Sq t10) (Sq t15) (Sq t16) (Sq t17) (Sq t18)
def Ho(ha:∀k,Ext h k->ay P 15 [] k (λv _=>v=.bool true)){K ts n u V kb l t}(eK:Ext h K)(oV:aC K V)(wV:eJ V.an)(hV:V.an=(aP l).1.now)(mb:K[kb]? =some (.b V.row))(hu:aH K u 1 ((fB l t).1.map ao))(hlen:ts.length=101)
  (t1:slot ts 1=.str n) (t2:slot ts 2=.i t) (t7:slot ts 7=.bool (gW l n t).1) (t8:slot ts 8=.i (gW l n t).2) (t9:slot ts 9=u) (t10:slot ts 10=.i (fB l t).2) (t11:slot ts 11=.ptr kb 0) (t15:slot ts 15=.i (aZ [(gp l 2 n).2,iU t])) (t16:slot ts 16=.i (aZ [(aP l).2.2,iU t])) (t17:slot ts 17=.bool false) (t18:slot ts 18=.af):
  WC P bL (zD 9) [] ts K (FQ [(6,none)] (GP h)):=by
 have lb:=@eE _ _ _ mb;obtain⟨one,h1⟩:∃z,z=aZ [(gp l 2 n).2,iU t]:=⟨_,rfl⟩;rw[<-h1]at t15;rw[NW];generalize hR:zD 10=R;unfold qU fn3 gA;simp only[ai.j,ai.s,ai.r,ai.dr,ai.tl,ai.hd];by_cases hz:one=0
 ·have q:decide (one=0)=true:=YW hz;obtain⟨a1,a2⟩:=x6 (h1.symm.trans hz);obtain⟨RI,WW⟩:=D8 a1;have hq:gW l n t=(cG (aP l).1.now (kV (aP l).1.now n) t,0):=by rw[gW,<-h1,Y6 (λz=>z hz),RI]
  rw[<-hV]at WW hq;have T2:n∈kv V.an:=aad WW;have hps:=cR T2;have Tn:bn (kv V.an) n<V.aj.length:=by simpa [kv,RV.an]using hps
  have ix:aS 3 V.s2 (.i ((bn (kv V.an) n:Nat):Int))=some (cN V.s2 3 (bn (kv V.an) n),.au):=oV.i2.dG Tn;obtain⟨y,hy⟩:∃y,y=V.aj[bn (kv V.an) n]:=⟨_,rfl⟩;have SX:y∈V.aj:=by rw[hy];exact Za _
  have Wr:y.1=kV V.an n:=by
   rw[kV,de (f:=gN.name) (l:=V.an.aj) (d:=B5) T2,hy];exact Bb
  have ly:∀{kk:ah},Ext K kk->aq (some 3) (cN V.s2 3 (bn (kv V.an) n)) (λb=>kk[b]?)=some (.agg (aX y),.au):=λ{kk} e=>by rw[hy];exact oV.i2.jD Tn e
  have oy:=oV.e2 y SX;have S2:=wV.ue.sh y SX;refine Rs (yu t1 t2 t7 t8 t9 t10 t11 t15 t16 t17 t18 q @lb @dy @aF) ?_;refine WF.ce T.c22 (r22 T oV wV.len n) λg1=>?_
  have ei:cT (λy:gN×AV=>decide (y.1.name=n)) V.aj=(bn (kv V.an) n:Int):=by
   rw[gC];exact eT (f:=λy:gN×AV=>y.1.name) (by rw[<-gC];exact T2)
  rw[ei];refine Rs (Dk t1 t2 t7 t8 t9 t10 t11 t15 t16 t17 t18 ix @ly) ?_;refine WF.ce T.c23 (r23 T (oV.ext Xx) wV.len (oy.ext Xx) S2.2 S2.1 t) λg2=>?_
  rw[Wr];refine Rs (kS t1 t2 t7 t8 t9 t10 t11 t15 t16 t17 t18) ?_;rw[<-hR];rw[hq]at t7 t8;have ex:Ext K (K++g1++g2):=Xx;refine Bo T ha (b:=cG V.an (kV V.an n) t) (one:=one) (eK.trans ex) (oV.ext ex) wV hV (ex.some mb) (hu.ext ex) Sn (Sq t2) (Sq t7) ?_ (Sq t9) (Sq t10) (Sq t11) (Sq t15) (Sq t16) Sw (Sq t18);exact Zs (A2 t8 @hz) Tv
 ·have hq:gW l n t=(false,one):=by rw[gW,<-h1,Zb hz]
  have q:decide (one=0)=false:=YS hz;refine Rs (mQ t1 t2 t7 t8 t9 t10 t11 t15 t16 t17 t18 q) ?_;rw[<-hR];rw[hq]at t7 t8;exact Bo T ha (b:=false) (one:=one) eK oV wV hV mb hu Sn (Sq t2) (Sq t7) (Sq t8) (Sq t9) (Sq t10) (Sq t11) (Sq t15) (Sq t16) (Sq t17) (Sq t18)
def r3(ha:∀k,Ext h k->ay P 15 [] k (λv _=>v=.bool true)){L s}(o:dZ h L s)(sz:zu L)(gl:Gl h){n:By}(_hn:n.length<2^63)(t:Int):ay P 3 [s,.str n,.i t] h (λv _=>v=.bool true):=by
 refine .of T.mix (abq T.c3 (Zz some NX)) ?_;obtain⟨ts,RG⟩:∃ts,ts=aR 101 [s,.str n,.i t]:=⟨_,rfl⟩;have hlen:ts.length=101:=by rw[RG];rfl
 have t0:slot ts 0=s:=by rw[RG];rfl
 have t1:slot ts 1=.str n:=by rw[RG];rfl
 have t2:slot ts 2=.i t:=by rw[RG];rfl
 show WC P bL (.seq (qU 0) (.seq (qU 1) (.seq (qU 2) (.seq (qU 3) (.seq (qU 4) (.seq (qU 5) (.seq (qU 6) (.seq (qU 7) (.seq (qU 8) (zD 9)))))))))) [] (aR 101 [s,.str n,.i t]) h (FQ [(6,none)] (GP h));rw[<-RG];clear RG;generalize hR:zD 9=R;unfold qU fn3 gA;simp only[ai.j,ai.s,ai.r,ai.dr,ai.tl,ai.hd];refine Rs (A3 t0 t1 t2) ?_;refine WF.ce T.c14 (r14 T o sz.l (λx hx=>(sz.e x hx).n) De) λg1=>?_
 cases hsh:ia (L.map EV.ev) 24 with
 |false=>
  refine Rs (A4 t0 t1 t2 @Zq) ?_;exact G8
 |true=>
 obtain⟨sh,nl,_,_⟩:=qT hsh De;by_cases hn40:(40:Int)<(n.length:Int)
 ·have q:decide ((40:Int)<(n.length:Int))=true:=YW hn40;refine Rs (A5 t0 t1 t2 @Zg q) ?_;exact G8
 have q:decide ((40:Int)<(n.length:Int))=false:=YS hn40;refine Rs (A5 t0 t1 t2 @Zg q) ?_;refine WF.ce T.c16 (r16 T (o.ext Xx) sh (gl.ext Xx) n t) λg2=>?_
 refine Rs (A3 t0 t1 t2) ?_;refine WF.res T.c17 (r17 T (o.ext Xx) sh (gl.ext Xx) t) ?_;rintro _ g3 ⟨u,rfl,hu⟩;refine Rs (A3 t0 t1 t2) ?_;refine WF.res T.c18 (r18 T (o.ext Xx) sh nl) ?_;rintro _ g4 ⟨V,rfl,oV,hV,wV,lo⟩;have st:=@aC.st _ _ oV;obtain⟨l,hl⟩:∃l,l=L.map EV.ev:=⟨_,rfl⟩;rw[<-hl]at hV hu ⊢;obtain⟨K,hK⟩:∃K,K=h++g1++g2++g3++g4:=⟨_,rfl⟩;have eK:Ext h K:=by rw[hK];exact Xx
 have hu:aH K u 1 ((fB l t).1.map ao):=hu.ext (by rw[hK];exact Xx);rw[<-hK]at oV ⊢;clear hK lo;have lb:∀{k' n' a},Ext (K++[ak.b V.row]) k'->aq n' (.ptr K.length a) (λz=>k'[z]?)=dE n' a (.b V.row):=λ{_ _ _} e=>aA (e.some a8)
 refine Rs (A4 t0 t1 t2 @st) ?_;obtain⟨K1,Vd⟩:∃Z,Z=K++[ak.b V.row]:=⟨_,rfl⟩;have e1:Ext K K1:=by rw[Vd];exact⟨_,rfl⟩
 rw[<-Vd]at lb ⊢;have oV:=oV.ext e1;have hu:=hu.ext e1;have eK:=eK.trans e1;refine WF.ce T.c20 (r20 T _ _ _) λg5=>?_
 refine Rs (A3 t0 t1 t2) ?_;refine WF.ce T.c19 (r19 T _ _) λg6=>?_
 rw[Ha];refine Rs (A5 t0 t1 t2 @lb @aF) ?_;refine WF.ce T.c22 (r22 T (oV.ext Xx) wV.len n) λg7=>?_
 have hsi:=Lm V n;rw[hV]at hsi;refine Rs (A4 t0 t1 t2 @hsi) ?_;refine WF.ce T.c19 (r19 T _ _) λg8=>?_
 refine Rs (A3 t0 t1 t2) ?_;refine WF.ce T.c21 (r21 T (cj [_,_,_]) Si) λg9=>?_
 refine Rs (A3 t0 t1 t2) ?_;refine WF.ce T.c21 (r21 T (cj [_,_]) Si) λg10=>?_
 have hone:aZ [(aP l).2.2,bZ (!dC (aP l).1.now 2 n) 10,bg t 0 999999999]=aZ [(gp l 2 n).2,iU t]:=zR l 2 n _;rw[hone];have htwo:aZ [(aP l).2.2,bg t 0 999999999]=aZ [(aP l).2.2,iU t]:=rfl;rw[htwo];refine Rs (A3 t0 t1 t2) ?_;rw[<-hR];have mb:K1[K.length]? =some (.b V.row):=by rw[Vd];exact a8
 obtain⟨K2,hK2⟩:∃Z,Z=K1++g5++g6++g7++g8++[ak.cells [.i (aP l).2.2,.i (bZ (!dC (aP l).1.now 2 n) 10),.i (bg t 0 999999999)] true true]++g9++[ak.cells [.i (aP l).2.2,.i (bg t 0 999999999)] true true]++g10:=⟨_,rfl⟩;have e2:Ext K1 K2:=by rw[hK2];exact Xx
 refine Ho T ha (l:=l) (n:=n) (t:=t) (eK.trans ?_) (oV.ext ?_) wV hV (Ext.some ?_ mb) (hu.ext ?_) Sn (Sq t1) (Sq t2) Sw Sw Sw Sw Sw Sw Sw Sw Sw
 all_goals exact Xx
end
def tU{l:List ed}(h:(aP l).2.2=0):l.length<=1000:=by
 unfold aP at h;split at h
 ·exact absurd h De
 ·omega
def yN{l m:List ed}(h:(aP (l++m)).2.2=0):(aP l).2.2=0:=by
 have hl:=tU h;rw[YP]at hl;rw[aP,Y6 (by rw[YP];omega),qY]at h;rw[aP,Y6 Om];by_cases g:(fD hO.zero l 0).2.2=0
 ·exact g
 ·rw[Zb g]at h;exact absurd h g
def BT{l m:List ed}{e:ed}(h:(aP (l++e::m)).2.2=0):(aP l).2.2=0/\eC (aP l).1 e=0/\aP (l++[e])=(iS (aP l).1 e,0,0):=by
 have h1:(aP (l++[e])).2.2=0:=yN (m:=m) (by simpa using h);have h2:=yN h1;have hl:=tU h1;rw[YP,Zp]at hl;rw[zK h2 Om]at h1 ⊢;by_cases hb:eC (aP l).1 e=0
 ·rw[Y6 (λz=>z hb)];exact⟨h2,hb,rfl⟩
 ·rw[Zb hb]at h1;exact absurd h1 hb
def Eb{H:hO}{e:ed}(hk:kH e≠.eF):(iS H e).now=jP H.now e (kH e):=by
 rw[iS,Y6 hk];show(H.cJ++[_]).getLastD _=_;simp[aal]
def I4(R:eM)(e:ed)(d:Kd):(jP R e d).aj.length<=R.aj.length+1:=by cases d<;>simp[jP,dq]
theorem yO:∀(l:List ed) (R:eM),∀x∈iw R l,x.aj.length<=R.aj.length+l.length
 |[],_,_,h=>by cases h
 |e::l,R,x,h=>by
  have h1:=I4 R e (kH e);rcases ZC.1 h with rfl|h
  ·rw[YV];omega
  ·have:=yO l _ x h;rw[YV];omega
theorem yK:∀(l:List ed) (H:hO) (i:Nat),(fD H l i).2.2=0->(fD H l i).1.c8=H.c8++l
 |[],H,i,_=>by simp[fD]
 |e::l,H,i,h=>by
  rw[fD]at h ⊢;by_cases hb:eC H e=0
  ·rw[Y6 (λz=>z hb)]at h ⊢;rw[yK l _ _ h];have:(iS H e).c8=H.c8++[e]:=by unfold iS;split<;>rfl
   rw[this,YR];rfl
  ·rw[Zb hb]at h;exact absurd h hb
def D0{l:List ed}(h:(aP l).2.2=0):(aP l).1.c8=l:=by
 have hl:=tU h;have e:aP l=fD hO.zero l 0:=by rw[aP,Y6 Om]
 rw[e]at h ⊢;rw[yK l _ _ h];rfl
def HK{l:List ed}(h:(aP l).2.2=0):(aP l).1.now.aj.length<=l.length:=by
 obtain⟨c,w⟩:=D1 h;have h1:=w.le;rw[D0 h]at h1;rw[hO.now,aal];cases hx:(aP l).1.cJ.getLast? with
 |none=>exact Zw _
 |some R=>
  have:=abg hx;rw[c.rg]at this;have:=yO _ _ _ this;show R.aj.length<=_;have hz:eM.zero.aj.length=0:=rfl;omega
def DM{R:eM}{x:gN}{t u:Int}(h:t<=u)(s:cG R x u=true):cG R x t=true:=by
 rw[cG,aaj]at s ⊢;obtain⟨n,hn,q⟩:=s;refine⟨n,hn,?_⟩;rw[fR,ZJ]at q ⊢;omega
def Hj{t:Int}(h:0<=t/\t<=999999999):iU t=0:=by
 unfold iU bg;rw[Y6 Om]
def lC{l:List ed}{x:gN}{t:Int}(h:(aP l).2.2=0)(w:eJ (aP l).1.now)(hx:x∈(aP l).1.now.aj)(ht:0<=t/\t<=999999999):gW l x.name t=(cG (aP l).1.now x t,0):=by
 have hh:dC (aP l).1.now 2 x.name=true:=YW (Zo (f:=gN.name) hx);have ho:gp l 2 x.name=((aP l).1.now,0):=by rw[gp,Y6 (λz=>z h),hh];rfl
 have hs:kV (aP l).1.now x.name=x:=mi w.n2.nd hx;unfold gW;rw[ho,Hj ht,hs];exact Y6 (λz=>z rfl)
def uW{R:eM}(w:eJ R){x:qH}(hx:x∈R.aB):gu R x.name=x:=mi w.n1.nd hx
def Ch{R:eM}(w:eJ R){x:gZ}(hx:x∈R.lines):du R x.name=x:=mi w.n0.nd hx
def uj{R:eM}{e:ed}{d:Kd}(h:fY R e d=0):kD d R e=0/\bC R e d=0:=by
 unfold fY at h;split at h
 ·exact absurd h De
 split at h
 case isTrue h1=>exact absurd h h1
 case isFalse h1=>exact⟨aaw.1 h1,h⟩
def AF{R:eM}{e:ed}(h:fY R e .accept=0):(du R (aM e 0)).acc=false/\(du R (aM e 0)).want<=((tZ R (aM e 0)).length:Int)/\∀x∈tZ R (aM e 0),cG R x (bH e 0)=true:=by
 have h1:=(uj h).2;simp only[bC]at h1;split at h1
 ·exact absurd h1 De
 case isFalse a=>
 split at h1
 ·exact absurd h1 De
 case isFalse b=>
 split at h1
 ·exact absurd h1 De
 case isFalse c=>
 refine⟨by simpa using a,Om,λx hx=>?_⟩;cases hs:cG R x (bH e 0)with
 |true=>rfl
 |false=>exact absurd (aaj.2 ⟨x,hx,by rw[hs];rfl⟩) c
def EW{R:eM}{e:ed}(h:fY R e .copy=0):aM e 0≠aM e 1:=by
 have h1:=(uj h).2;simp only[bC]at h1;split at h1
 ·exact absurd h1 De
 ·assumption
def zd(R:eM)(e:ed):(jP R e .copy).aj=R.aj.map (fO (aM e 0) (aM e 1)):=rfl
def rK(a b:By)(x:gN):(a∈x.aB/\b∉x.aB/\(fO a b x).aB=x.aB++[b])\/(¬(a∈x.aB/\b∉x.aB)/\(fO a b x).aB=x.aB):=by
 unfold fO;by_cases h:a∈x.aB/\b∉x.aB
 ·rw[Zb h];exact .inl ⟨h.1,h.2,rfl⟩
 ·rw[Y6 h];exact .inr ⟨h,rfl⟩
def CE(a b:By)(x:gN):x.aB.length<=(fO a b x).aB.length/\(fO a b x).aB.take x.aB.length=x.aB:=by
 rcases rK a b x with⟨_,_,h⟩|⟨_,h⟩<;>rw[h]
 ·simp
 ·exact⟨Y9 _,ZA⟩
def ER{a b:By}(h:a≠b)(x:gN):a∈(fO a b x).aB↔a∈x.aB:=by
 rcases rK a b x with⟨_,_,e⟩|⟨_,e⟩<;>rw[e]
 simp[h]
def EO{a b:By}{x:gN}(h:a∈x.aB):b∈(fO a b x).aB:=by
 rcases rK a b x with⟨_,_,e⟩|⟨n,e⟩<;>rw[e]
 ·simp
 ·exact aaw.1 λz=>n ⟨h,z⟩
def II{a b:By}{x:gN}(h:a∉x.aB):(fO a b x).aB=x.aB:=by
 rcases rK a b x with⟨n,_,_⟩|⟨_,e⟩
 ·exact absurd n h
 ·exact e
def CF{R:eM}{e:ed}{x:gN}{t:Int}(h:cG R x t=true):cG (jP R e .copy) (fO (aM e 0) (aM e 1) x) t=true:=by
 rw[cG,aaj]at h ⊢;obtain⟨n,hn,q⟩:=h;refine⟨n,?_,q⟩;rcases rK (aM e 0) (aM e 1) x with⟨_,_,z⟩|⟨_,z⟩<;>rw[z]
 ·exact YZ.2 (.inl hn)
 ·exact hn
def CG(a b:By)(x:gN):(fO a b x).name=x.name:=by unfold fO;split<;>rfl
def dZ.cut{h:ah}{L:List EV}{s:AV}(o:dZ h L s){i:Nat}(hi:i<=L.length):∃s',zC 5 s none (some (.int .i64 (i:Int)))=some (s',.au)/\dZ h (L.take i) s':=by
 obtain⟨s',e,h'⟩:=o.sl.Dl (lo:=none) (hi:=some (.int .i64 (i:Int))) (l:=0) (u:=i) (iF hi);exact⟨s',e,by simpa using h',λx hx=>o.all x (ZW hx)⟩
def uO.cut{L:List EV}(sh:uO L)(i:Nat):uO (L.take i):=⟨by have:=sh.l;rw[ZR];omega,λx hx=>sh.e x (ZW hx)⟩
def DC{L:List EV}{k:Nat}(h:k<L.length):(L.take (k+1)).map EV.ev=(L.take k).map EV.ev++[(L[k]).ev]:=by
 rw[ZF,YU h,Y5];rfl
def MF{L:List EV}{k:Nat}(h:k<L.length)(h0:(aP (L.map EV.ev)).2.2=0):(aP ((L.take k).map EV.ev)).2.2=0/\eC (aP ((L.take k).map EV.ev)).1 (L[k]).ev=0/\aP ((L.take (k+1)).map EV.ev)=(iS (aP ((L.take k).map EV.ev)).1 (L[k]).ev,0,0):=by
 have e:L.map EV.ev=(L.take k).map EV.ev++(L[k]).ev:: (L.drop (k+1)).map EV.ev:=by
  conv=>lhs;rw[<-aah k L,aaD h,Y5,ZP]
 rw[e]at h0;rw[DC h];exact BT h0
def oh(x:By×AV):AV×AV:=(.str x.1,x.2)
def oO(d:AV):List (By×AV)->By->AV
 |[],_=>d
 |(a,b)::r,w=>if w=a then b else oO d r w
def ux:List (By×AV)->By->AV->List (By×AV)
 |[],w,b=>[(w,b)]
 |(a,c)::r,w,b=>if w=a then(w,b)::r else(a,c)::ux r w b
theorem wI{d:AV}:∀{M w w' b},oO d (ux M w b) w' =if w' =w then b else oO d M w'
 |[],w,w',b=>rfl
 |(a,c)::r,w,w',b=>by
  rw[ux];by_cases h1:w=a
  ·subst h1;rw[Zb rfl,oO,oO];exact Ke
  ·rw[Y6 h1,oO,oO,wI];exact Kl
theorem tD{d:AV}:∀{M w},∃o:Option AV,gY .s (.str w) (M.map oh)=some o/\o.getD d=oO d M w
 |[],w=>⟨none,rfl,rfl⟩
 |(a,c)::r,w=>by
  by_cases h1:w=a
  ·subst h1;refine⟨some c,?_,?_⟩
   ·simp only[ZP,oh,gY,cV,BEq.rfl]
   ·rw[oO,Zb rfl];rfl
  ·obtain⟨o,h2,h3⟩:=tD (d:=d) (M:=r) (w:=w);have hb:(w==a)=false:=by simp[h1]
   refine⟨o,?_,?_⟩
   ·simp only[ZP,oh,gY,cV,hb];exact h2
   ·rw[oO,Y6 h1];exact h3
theorem uU:∀{M w b},mC .s (.str w) b (M.map oh)=some ((ux M w b).map oh)
 |[],w,b=>rfl
 |(a,c)::r,w,b=>by
  by_cases h1:w=a
  ·subst h1;rw[ux,Zb rfl];simp only[ZP,oh,mC,cV,BEq.rfl]
  ·have hb:(w==a)=false:=by simp[h1]
   have:=uU (M:=r) (w:=w) (b:=b);rw[ux,Y6 h1];show(match some (w==a)with|some true=>some ((AV.str w,b)::r.map oh)|some false=>(mC .s (.str w) b (r.map oh)).map ((AV.str a,c)::·)|none=>none)=_;rw[hb,this];rfl
def HU{d:AV}{r w G M}(hb:G r=some (.bf (M.map oh))):gX .s d false (.map r) (.str w) G=some (oO d M w,.au):=by
 obtain⟨o,h1,h2⟩:=tD (d:=d) (M:=M) (w:=w);rw[nY hb h1,<-h2];cases o<;>rfl
def Lw{r w b G M}(hb:G r=some (.bf (M.map oh))):rn .s (.map r) (.str w) b G=some (az,.set r (.bf ((ux M w b).map oh))):=qt hb uU
def yF{y:gN×AV}(o:y.2.one=true){b:Nat}{a0 a1 a2:AV}{tl:Bool}:km 3 0 (.agg (aX y)) b (.cells [a0,a1,a2] true tl)=some (az,.set b (.cells (aX y) true tl)):=by
 refine(lT (l:=aX y) rfl ?_ (by show 0+3<=3;omega)).trans rfl;show(true&&(true&&(y.2.one&&true)))=true;rw[o];rfl
def Lz{y:gZ}{b:Nat}{a0 a1 a2:AV}{tl:Bool}:km 3 0 (.agg (bV y)) b (.cells [a0,a1,a2] true tl)=some (az,.set b (.cells (bV y) true tl)):=by
 refine(lT (l:=bV y) rfl ?_ (by show 0+3<=3;omega)).trans rfl;simp[bV,AV.one]
section
variable {P:Program}(T:fp P) {h:ah}
include T
def r33{L:List EV}{s:AV}(o:dZ h L s)(sz:zu L){n:Int}(hn:n<=1000):ay P 33 [s,.int .i64 n] h (λv _=>v=.bool (ia (L.map EV.ev) n&&decide ((aP (L.map EV.ev)).2.2=0))):=by
 refine .eP 20 T.mix T.c33 ?_;intro ts hlen t0 t1;unfold fn33 gA;refine Rs (A2 t0 t1) ?_;refine WF.ce T.c14 (r14 T o sz.l (λx hx=>(sz.e x hx).n) hn) λg1=>?_
 cases hsh:ia (L.map EV.ev) n with
 |false=>exact Rs (A4 t0 t1 @Zq @aaV) Tv
 |true=>
 obtain⟨sh,nl,_,_⟩:=qT hsh hn;refine Rs (A3 t0 t1 @Zg) ?_;refine WF.res T.c18 (r18 T (o.ext Xx) sh nl) ?_;rintro _ g2 ⟨V,rfl,oV,hV,wV,lo⟩;have st:=@aC.st _ _ oV;exact Rs (A4 t0 t1 @st @aao) Tv
end
def ke(k:Nat):ai:=(fn5).body.dr k
def GI(k:Nat):ai:=((ke 8).hd.tl.tv.tv.dr k).hd
def Dq:ai:=(GI 2).tv
def Q7:ai:=(ke 8).hd.tl.tv.tv.dr 3
def AU(k:Nat):ai:=(Dq.dr k).hd
def Ng:ai:=Dq.dr 6
def PS:ke 8=.seq (.seq (ke 8).hd.hd (.block 6 (.loop (.seq (GI 0) (.seq (GI 1) (.seq (.block 7 Dq) Q7)))))) (ke 9):=rfl
def PU:ke 6=.seq (ke 6).hd (ke 7):=rfl
def PT:ke 7=.seq (ke 7).hd (ke 8):=rfl
def PV:fn5=⟨383,2,[(4,none)],.seq (ke 0).hd (.seq (ke 1).hd (.seq (ke 2).hd (.seq (ke 3).hd (.seq (ke 4).hd (.seq (ke 5).hd (ke 6))))))⟩:=rfl
def KF{y:qH}{b:Nat}{a0 a1:AV}{tl:Bool}:km 2 0 (.agg (dt y)) b (.cells [a0,a1] true tl)=some (az,.set b (.cells (dt y) true tl)):=by
 refine(lT (l:=dt y) rfl ?_ (by show 0+2<=2;omega)).trans rfl;simp[dt,AV.one]
def PR:Dq=.seq (AU 0) (.seq (AU 1) (.seq (AU 2) (.seq (AU 3) (.seq (AU 4) (.seq (AU 5) Ng))))):=rfl
def Nl(h:ah)(s:AV)(L:List EV)(t:Int)(k:Nat)(e0:Ex->Prop):Ex->TS->ah->Prop:=λe ts W=>
 e0 e/\Ext h W/\ts.length=383/\slot ts 0=s/\slot ts 8=.int .i64 t/\slot ts 148=s/\slot ts 149=.int .i64 L.length/\slot ts 150=.int .i64 k
section
variable {P:Program}(T:fp P) {h W:ah}{ts:TS}{L:List EV}{s:AV}{x:EV}{V U:RV}{t:Int}{k b c d:Nat}(o:dZ h L s) (sh:uO L) (gl:Gl h) (hk:k<L.length) (hl:L.length<=1000) (h0:(aP ((L.take k).map EV.ev)).2.2=0) (hV:V.an=(aP ((L.take k).map EV.ev)).1.now) (eW:Ext h W)
include T o sh gl hk hl h0 hV eW
theorem IH(cx:Cx W V x .accept)(he:fY V.an x.ev .accept=0)(mb:W[b]? =some (.cells x.row true false))(mc:W[c]? =some (.cells V.row true false))(hlen:ts.length=383)(t0:slot ts 0=s)(t8:slot ts 8=.int .i64 t)(t21:slot ts 21=.int .i64 k)(t22:slot ts 22=.ptr b 0)(t23:slot ts 23=.ptr c 0)(t148:slot ts 148=s)(t149:slot ts 149=.int .i64 L.length)(t150:slot ts 150=.int .i64 k):
  WC P bL (AU 5) [] ts W (Nl h s L t k (· =.exit 7)):=by
 obtain⟨a1,a2,a3⟩:=AF he;have wV:=cx.w;have hL2:V.aj.length<=64:=by have:=wV.l2;simpa [RV.an]using this
 have hL0:V.lines.length<=16:=wV.l0;have lb:=@eE _ _ _ mb;have lv:=@eE _ _ _ mc;have RM:x.ev.kind=[97,99,99,101,112,116]:=bW cx.we.kd;have qk:decide (x.ev.kind=[97,99,99,101,112,116])=true:=YW RM;obtain⟨n,hn⟩:∃n,n=aM x.ev 0:=⟨_,rfl⟩;have RK:0<=bH x.ev 0/\bH x.ev 0<=999999999:=cx.we.vr _ (nF (by rw[cx.we.vl];decide));obtain⟨s1,Xl,Ya⟩:=o.cut (aaS hk);unfold AU Dq GI ke fn5;simp only[ai.j,ai.s,ai.r,ai.dr,ai.tl,ai.hd,ai.tv]
 repeat (first|simp (config:={maxSteps:=1000000}) only[aQ,aT,bo,bp,reduceAdd,reduceMul,reduceLeDiff,reduceEqDiff,bz,hlen,Zf,Zi,t0,t8,t21,t22,t23,t148,t149,t150,lb,lv,bj,dy,qk,cx.o.i2.aJ]|simp (config:={maxSteps:=1000000}) (disch:=first|(simp only[YP,YV,YX]<;>omega)|rfl|omega|fail) only[fc,aQ,aT,bo,bp,reduceAdd,reduceMul,reduceLeDiff,reduceEqDiff,bz,hlen,Zf,Zi,t0,t8,t21,t22,t23,t148,t149,t150,lb,lv,bj,dy,qk,cx.o.i2.aJ])
 refine WL.inv T.mix (λm ts h'=>∃j:Nat,j<=V.aj.length/\m=V.aj.length-j/\Ext W h'/\ts.length=383/\slot ts 0=s/\slot ts 8=.int .i64 t/\slot ts 21=.int .i64 k/\slot ts 22=.ptr b 0/\slot ts 23=.ptr c 0/\slot ts 148=s/\slot ts 149=.int .i64 L.length/\slot ts 150=.int .i64 k/\slot ts 29=.int .i64 ((V.aj.take j).filter λy=>decide (y.1.line=n)).length/\slot ts 199=V.s2/\slot ts 200=.int .i64 V.aj.length/\slot ts 201=.int .i64 j) V.aj.length
  ⟨0,Om,rfl,Ext.refl W,Sn,(Sq t0),(Sq t8),(Sq t21),(Sq t22),(Sq t23),(Sq t148),(Sq t149),(Sq t150),gM,Sw,Sw,gM⟩ ?_
 clear t0 t8 t21 t22 t23 t148 t149 t150 hlen;rintro _ ts W2 ⟨j,hj,rfl,e2,hlen,t0,t8,t21,t22,t23,t148,t149,t150,t29,t199,t200,t201⟩;have cy:=cx.ext e2;have lb:=@eE _ _ _ (e2.some mb);have lv:=@eE _ _ _ (e2.some mc);by_cases hlt:j<V.aj.length
 ·have e3:=ee hlt;have e5:=wrapN (n:=j) Om;have ix:=cy.o.i2.dG (kk:=.i64) hlt;obtain⟨y,hy⟩:∃y,y=V.aj[j]:=⟨_,rfl⟩;have SX:y∈V.aj:=by rw[hy];exact Za _
  have ld:∀{k':ah},Ext W2 k'->aq (some 3) (cN V.s2 3 j) (λb=>k'[b]?)=some (.agg (aX y),.au):=λ{k'} e=>by rw[hy];exact cy.o.i2.jD hlt e
  have Sv:=(cy.o.e2 y SX).one;have TG:=@yF y Sv;unfold aX at ld TG;have i0:aS 1 x.sn (.int .i64 0)=_:=(cy.nm (i:=0) De).1;have d0:=@(cy.nm (i:=0) De).2;have v0:aS 1 x.sv (.int .i64 0)=_:=(cy.vl (i:=0) De).1;have f0:=@(cy.vl (i:=0) De).2.1;rw[<-hn]at d0;have TB:=wm (p:=λy:gN×AV=>decide (y.1.line=n)) hlt;rw[<-hy]at TB;by_cases hm:y.1.line=n
  ·have q1:decide (y.1.line≠n)=false:=YS λz=>z hm
   rw[Zb (YW hm)]at TB;have XI:((V.aj.take j).filter λy=>decide (y.1.line=n)).length<=V.aj.length:=ZL (ZD ..) (by rw[ZR];omega);have e6:=wrapN (n:=((V.aj.take j).filter λy=>decide (y.1.line=n)).length) Om
   repeat (first|simp (config:={maxSteps:=1000000}) only[aQ,aT,bo,bp,reduceAdd,reduceMul,reduceLeDiff,reduceEqDiff,bz,hlen,Zf,Zi,t0,t8,t21,t22,t23,t29,t148,t149,t150,t199,t200,t201,e3,ix,ld,TG,Sv,lb,aI,aY,i0,d0,v0,f0,q1,e6,Xl]|simp (config:={maxSteps:=1000000}) (disch:=first|(simp only[YP,YV,YX]<;>omega)|rfl|omega|fail) only[fc,aQ,aT,bo,bp,reduceAdd,reduceMul,reduceLeDiff,reduceEqDiff,bz,hlen,Zf,Zi,t0,t8,t21,t22,t23,t29,t148,t149,t150,t199,t200,t201,e3,ix,ld,TG,Sv,lb,aI,aY,i0,d0,v0,f0,q1,e6,Xl])
   have SP:y.1∈(aP ((L.take k).map EV.ev)).1.now.aj:=by rw[<-hV];exact Zo SX
   have hs:gW ((L.take k).map EV.ev) y.1.name (bH x.ev 0)=(true,0):=by
    rw[lC h0 (hV▸wV) SP RK,<-hV];rw[a3 y.1 (aaa.2 ⟨by rw[hV];exact SP,YW (hm.trans hn)⟩)]
   refine WF.ce T.c16 (r16 T (Ya.ext ((eW.trans e2).trans Xx)) (sh.cut k) (gl.ext ((eW.trans e2).trans Xx)) y.1.name (bH x.ev 0)) λg=>?_
   rw[hs];have z0:decide ((0:Int)≠0)=false:=rfl;refine Rs (yu t0 t8 t21 t22 t23 t29 t148 t149 t150 t199 t200 t201 @z0 @Zg e5) ?_;exact J2
  ·have q1:decide (y.1.line≠n)=true:=YW hm;rw[Y6 (by simpa using hm)]at TB;refine Rs (Qr t0 t8 t21 t22 t23 t29 t148 t149 t150 t199 t200 t201 e3 ix @ld @TG @Sv @lb @aI @i0 @d0 q1 e5) ?_;exact J2
 have e3:=fo hlt;have YH:(((V.aj.take j).filter λy=>decide (y.1.line=n)).length:Int)=(tZ V.an n).length:=by
  rw[ZE Om];unfold tZ RV.an;simp only[aaM,YY];rfl
 rw[YH]at t29
 repeat (first|simp (config:={maxSteps:=1000000}) only[aQ,aT,bo,bp,reduceAdd,reduceMul,reduceLeDiff,reduceEqDiff,bz,hlen,Zf,Zi,t0,t8,t21,t22,t23,t29,t148,t149,t150,t199,t200,t201,e3,lv,fI,cy.o.i0.aJ]|simp (config:={maxSteps:=1000000}) (disch:=first|(simp only[YP,YV,YX]<;>omega)|rfl|omega|fail) only[fc,aQ,aT,bo,bp,reduceAdd,reduceMul,reduceLeDiff,reduceEqDiff,bz,hlen,Zf,Zi,t0,t8,t21,t22,t23,t29,t148,t149,t150,t199,t200,t201,e3,lv,fI,cy.o.i0.aJ])
 refine WL.inv T.mix (λm ts h'=>∃j:Nat,j<=V.lines.length/\m=V.lines.length-j/\Ext W2 h'/\ts.length=383/\slot ts 0=s/\slot ts 8=.int .i64 t/\slot ts 22=.ptr b 0/\slot ts 148=s/\slot ts 149=.int .i64 L.length/\slot ts 150=.int .i64 k/\slot ts 29=.int .i64 (tZ V.an n).length/\slot ts 235=V.s0/\slot ts 236=.int .i64 V.lines.length/\slot ts 237=.int .i64 j) V.lines.length
  ⟨0,Om,rfl,Ext.refl W2,Sn,(Sq t0),(Sq t8),(Sq t22),(Sq t148),(Sq t149),(Sq t150),(Sq t29),Sw,Sw,gM⟩ ?_
 clear t0 t8 t21 t22 t23 t29 t148 t149 t150 hlen t199 t200 t201 e3 lb lv hlt;rintro _ ts W3 ⟨j,hj,rfl,e4,hlen,t0,t8,t22,t148,t149,t150,t29,t235,t236,t237⟩;have cz:=cy.ext e4;have lb:=@eE _ _ _ (e4.some (e2.some mb));by_cases hlt:j<V.lines.length
 ·have e3:=ee hlt;have e5:=wrapN (n:=j) Om;have ix:=cz.o.i0.dG (kk:=.i64) hlt;obtain⟨y,hy⟩:∃y,y=V.lines[j]:=⟨_,rfl⟩;have SX:y∈V.an.lines:=by rw[hy];exact Za _
  have ld:∀{k':ah},Ext W3 k'->aq (some 3) (cN V.s0 3 j) (λb=>k'[b]?)=some (.agg (bV y),.au):=λ{k'} e=>by rw[hy];exact cz.o.i0.jD hlt e
  have TG:=@Lz y;unfold bV at ld TG;have i0:aS 1 x.sn (.int .i64 0)=_:=(cz.nm (i:=0) De).1;have d0:=@(cz.nm (i:=0) De).2;rw[<-hn]at d0;by_cases hm:y.name=n
  ·have q1:decide (y.name=n)=true:=YW hm;have S2:du V.an n=y:=by rw[<-hm];exact Ch wV SX
   rw[<-hn,S2]at a1 a2;have q2:decide (((tZ V.an n).length:Int)<y.want)=false:=YS Om;refine Rs (M0 t0 t8 t22 t29 t148 t149 t150 t235 t236 t237 e3 ix @ld @TG @lb @aI @i0 @d0 q1 q2 @a1 e5) ?_;exact z201
  ·have q1:decide (y.name=n)=false:=YS hm;refine Rs (Nn t0 t8 t22 t29 t148 t149 t150 t235 t236 t237 e3 ix @ld @TG @lb @aI @i0 @d0 q1 e5) ?_;exact z201
 ·have e3:=fo hlt;refine Rs (kS t0 t8 t22 t29 t148 t149 t150 t235 t236 t237 e3) ?_;exact⟨rfl,(eW.trans e2).trans e4,Sn,(Sq t0),(Sq t8),(Sq t148),(Sq t149),(Sq t150)⟩
theorem Mx(cx:Cx W V x .copy)(he:fY V.an x.ev .copy=0)(oU:aC W U)(hU:U.an=jP V.an x.ev .copy)(hU2:U.an=(aP ((L.take (k+1)).map EV.ev)).1.now)(h2:(aP ((L.take (k+1)).map EV.ev)).2.2=0)(wU:eJ U.an)(ht:0<=t/\t<=65535)
  (mb:W[b]? =some (.cells x.row true false)) (mc:W[c]? =some (.cells V.row true false)) (md:W[d]? =some (.cells U.row true false)) (hlen:ts.length=383) (t0:slot ts 0=s) (t8:slot ts 8=.int .i64 t) (t21:slot ts 21=.int .i64 k) (t22:slot ts 22=.ptr b 0) (t23:slot ts 23=.ptr c 0) (t26:slot ts 26=.ptr d 0) (t148:slot ts 148=s) (t149:slot ts 149=.int .i64 L.length) (t150:slot ts 150=.int .i64 k):
  WC P bL Ng [] ts W (Nl h s L t k (· =.normal)):=by
 have hne:=EW he;have wV:=cx.w;have hL2:V.aj.length<=64:=by have:=wV.l2;simpa [RV.an]using this
 have hsh:U.aj.map Prod.fst=(V.aj.map Prod.fst).map (fO (aM x.ev 0) (aM x.ev 1)):=by
  have:=Zz eM.aj hU;rw[zd]at this;exact this
 have TF:U.aj.length=V.aj.length:=by have:=Zz List.length hsh;simpa using this
 have lv:=@eE _ _ _ mc;obtain⟨n,hn⟩:∃n,n=aM x.ev 0:=⟨_,rfl⟩;obtain⟨r,hr⟩:∃r,r=aM x.ev 1:=⟨_,rfl⟩;rw[<-hn,<-hr]at hne hsh;obtain⟨s1,Xl,Ya⟩:=o.cut (aaS hk);obtain⟨s2,sl2,os2⟩:=o.cut (i:=k+1) hk;unfold Ng Dq GI ke fn5;simp only[ai.j,ai.s,ai.r,ai.dr,ai.tl,ai.hd,ai.tv]
 repeat (first|simp (config:={maxSteps:=1000000}) only[aQ,aT,bo,bp,reduceAdd,reduceMul,reduceLeDiff,reduceEqDiff,bz,hlen,Zf,Zi,t0,t8,t21,t22,t23,t26,t148,t149,t150,lv,dy,cx.o.i2.aJ]|simp (config:={maxSteps:=1000000}) (disch:=first|(simp only[YP,YV,YX]<;>omega)|rfl|omega|fail) only[fc,aQ,aT,bo,bp,reduceAdd,reduceMul,reduceLeDiff,reduceEqDiff,bz,hlen,Zf,Zi,t0,t8,t21,t22,t23,t26,t148,t149,t150,lv,dy,cx.o.i2.aJ])
 refine WL.inv T.mix (λm ts h'=>∃j:Nat,j<=V.aj.length/\m=V.aj.length-j/\Ext W h'/\ts.length=383/\slot ts 0=s/\slot ts 8=.int .i64 t/\slot ts 21=.int .i64 k/\slot ts 22=.ptr b 0/\slot ts 23=.ptr c 0/\slot ts 26=.ptr d 0/\slot ts 148=s/\slot ts 149=.int .i64 L.length/\slot ts 150=.int .i64 k/\slot ts 260=V.s2/\slot ts 261=.int .i64 V.aj.length/\slot ts 262=.int .i64 j) V.aj.length
  ⟨0,Om,rfl,Ext.refl W,Sn,(Sq t0),(Sq t8),(Sq t21),(Sq t22),(Sq t23),(Sq t26),(Sq t148),(Sq t149),(Sq t150),Sw,Sw,gM⟩ ?_
 clear t0 t8 t21 t22 t23 t26 t148 t149 t150 hlen lv;rintro _ ts W2 ⟨j,hj,rfl,e2,hlen,t0,t8,t21,t22,t23,t26,t148,t149,t150,t260,t261,t262⟩;have cy:=cx.ext e2;have oZ:=oU.ext e2;have lb:=@eE _ _ _ (e2.some mb);have lu:=@eE _ _ _ (e2.some md);by_cases hlt:j<V.aj.length
 ·have UT:j<U.aj.length:=Om
  have e3:=ee hlt;have e5:=wrapN (n:=j) Om;have ix:=cy.o.i2.dG (kk:=.i64) hlt;have iz:=oZ.i2.dG (kk:=.i64) UT;obtain⟨y,hy⟩:∃y,y=V.aj[j]:=⟨_,rfl⟩;obtain⟨z,hz⟩:∃z,z=U.aj[j]:=⟨_,rfl⟩;have SX:y∈V.aj:=by rw[hy];exact Za _
  have hzm:z∈U.aj:=by rw[hz];exact Za _
  have hzy:z.1=fO n r y.1:=by
   have h1:(U.aj.map Prod.fst)[j]? =some z.1:=by rw[aac,YU UT,hz];rfl
   rw[hsh,aac,aac,YU hlt,<-hy]at h1;exact(ZU h1).symm
  have ld:∀{k':ah},Ext W2 k'->aq (some 3) (cN V.s2 3 j) (λb=>k'[b]?)=some (.agg (aX y),.au):=λ{k'} e=>by rw[hy];exact cy.o.i2.jD hlt e
  have lz:∀{k':ah},Ext W2 k'->aq (some 3) (cN U.s2 3 j) (λb=>k'[b]?)=some (.agg (aX z),.au):=λ{k'} e=>by rw[hz];exact oZ.i2.jD UT e
  have oy:=cy.o.e2 y SX;have oz:=oZ.e2 z hzm;have Sv:=oy.one;have Vi:=oz.one;have TG:=@yF y Sv;have stz:=@yF z Vi;unfold aX at ld lz TG stz;have i0:aS 1 x.sn (.int .i64 0)=_:=(cy.nm (i:=0) De).1;have d0:=@(cy.nm (i:=0) De).2;have i1:aS 1 x.sn (.int .i64 1)=_:=(cy.nm (i:=1) De).1;have d1:=@(cy.nm (i:=1) De).2;rw[<-hn]at d0;rw[<-hr]at d1;obtain⟨c1,c2⟩:=CE n r y.1;have c3:=ER hne y.1;have c4:=CG n r y.1;rw[<-hzy]at c1 c2 c3 c4;have S2:y.1.aB.length<=2^30:=by have:=(wV.ue.sh y SX).2;omega
  have hzl:z.1.aB.length<=2^30:=by have:=(wU.ue.sh z hzm).2;omega
  have q1:decide ((z.1.aB.length:Int)<(y.1.aB.length:Int))=false:=YS Om;obtain⟨s3,sl3,os3⟩:=oz.Dl (lo:=none) (hi:=some (.int .i64 (y.1.aB.length:Int))) (l:=0) (u:=y.1.aB.length) (iF c1);rw[aag,Nat.sub_zero,c2]at os3;have m2:y.1∈(aP ((L.take k).map EV.ev)).1.now.aj:=by rw[<-hV];exact Zo SX
  have m3:z.1∈(aP ((L.take (k+1)).map EV.ev)).1.now.aj:=by rw[<-hU2];exact Zo hzm
  have sa:gW ((L.take k).map EV.ev) y.1.name t=(cG V.an y.1 t,0):=by rw[lC h0 (hV▸wV) m2 Om,<-hV]
  have sb:gW ((L.take (k+1)).map EV.ev) y.1.name t=(cG U.an z.1 t,0):=by rw[<-c4,lC h2 (hU2▸wU) m3 Om,<-hU2]
  have mono:cG V.an y.1 t=true->cG U.an z.1 t=true:=λhs=>by
   have:=CF (e:=x.ev) hs;rw[<-hn,<-hr,<-hzy,<-hU]at this;exact this
  have ek:=wrapN (n:=k) Om;have z0:decide ((0:Int)≠0)=false:=rfl;have XR:=eW.trans e2
  repeat (first|simp (config:={maxSteps:=1000000}) only[aQ,aT,bo,bp,reduceAdd,reduceMul,reduceLeDiff,reduceEqDiff,bz,hlen,Zf,Zi,t0,t8,t21,t22,t23,t26,t148,t149,t150,t260,t261,t262,e3,ix,ld,TG,Sv,lu,dy,iz,lz,stz,Vi,oy.aJ,oz.aJ,q1,sl3]|simp (config:={maxSteps:=1000000}) (disch:=first|(simp only[YP,YV,YX]<;>omega)|rfl|omega|fail) only[fc,aQ,aT,bo,bp,reduceAdd,reduceMul,reduceLeDiff,reduceEqDiff,bz,hlen,Zf,Zi,t0,t8,t21,t22,t23,t26,t148,t149,t150,t260,t261,t262,e3,ix,ld,TG,Sv,lu,dy,iz,lz,stz,Vi,oy.aJ,oz.aJ,q1,sl3])
  refine WF.ce T.c25 (r25 T (os3.ext Xx) (oy.ext Xx) Om Om) λg1=>?_
  refine Rs (mQ t0 t8 t21 t22 @Zl @Zg @Sv @Vi @lb @aI @i0 @d0) ?_;refine WF.ce T.c35 (r35 T (oy.ext Xx) Om n) λg2=>?_
  refine Rs (lQ t0 t8 t21 t22 @Sv @Vi @lb @aI @i0 @d0) ?_;refine WF.ce T.c35 (r35 T (oz.ext Xx) Om n) λg3=>?_
  by_cases hm:n∈y.1.aB
  ·have u1:decide (n∈y.1.aB)=true:=YW hm;have u2:decide (n∈z.1.aB)=true:=YW (c3.2 hm);have u3:decide (r∈z.1.aB)=true:=YW (by rw[hzy];exact EO hm);have bb:(true==true)=true:=rfl;rw[u1,u2];refine Rs (mQ t0 t8 t21 t22 @Sv @Vi @lb @aI @i0 @d0 @bb @Zg) ?_;refine WF.ce T.c35 (r35 T (oy.ext Xx) Om n) λg4=>?_
   rw[u1];refine Rs (lQ t0 t8 t21 t22 @Sv @Vi @lb @aI @i1 @d1) ?_;refine WF.ce T.c35 (r35 T (oz.ext Xx) Om r) λg5=>?_
   rw[u3];refine Rs (kS t0 t8 t21 t22 @Sv @Vi @lb @aI @i0 @d0 @Zg) ?_;refine WF.ce T.c35 (r35 T (oy.ext Xx) Om n) λg6=>?_
   rw[u1];refine Rs (A6 t0 t8 t21 @Zg @Xl @Sv) ?_;refine WF.ce T.c16 (r16 T (Ya.ext (XR.trans Xx)) (sh.cut k) (gl.ext (XR.trans Xx)) y.1.name t) λg7=>?_
   rw[sa];refine Rs (A6 t0 t8 t21 @ek @sl2 @Sv) ?_;refine WF.ce T.c16 (r16 T (os2.ext (XR.trans Xx)) (sh.cut _) (gl.ext (XR.trans Xx)) y.1.name t) λg8=>?_
   rw[sb];cases hs:cG V.an y.1 t with
   |false=>
    refine Rs (wP t0 t8 t21 t22 t23 t26 t148 t149 t150 t260 t261 t262 @z0 e5) ?_;exact M3
   |true=>
    rw[mono hs];refine Rs (yu t0 t8 t21 t22 t23 t26 t148 t149 t150 t260 t261 t262 @z0 e5 @Zg) ?_;exact M3
  ·have u1:decide (n∈y.1.aB)=false:=YS hm;have u2:decide (n∈z.1.aB)=false:=YS λq=>hm (c3.1 q)
   have u3:decide ((z.1.aB.length:Int)≠(y.1.aB.length:Int))=false:=YS λq=>q (by rw[hzy,II hm])
   have bb:(false==false)=true:=rfl;rw[u1,u2];refine Rs (mQ t0 t8 t21 t22 @Sv @Vi @lb @aI @i0 @d0 @bb @Zg) ?_;refine WF.ce T.c35 (r35 T (oy.ext Xx) Om n) λg4=>?_
   rw[u1];refine Rs (lQ t0 t8 t21 t22 @Sv @Vi @lb @aI @i0 @d0) ?_;refine WF.ce T.c35 (r35 T (oy.ext Xx) Om n) λg6=>?_
   rw[u1];refine Rs (lQ t0 t8 t21 @Zq @Xl @Sv @Vi oy.aJ oz.aJ @u3) ?_;refine WF.ce T.c16 (r16 T (Ya.ext (XR.trans Xx)) (sh.cut k) (gl.ext (XR.trans Xx)) y.1.name t) λg7=>?_
   rw[sa];refine Rs (A6 t0 t8 t21 @ek @sl2 @Sv) ?_;refine WF.ce T.c16 (r16 T (os2.ext (XR.trans Xx)) (sh.cut _) (gl.ext (XR.trans Xx)) y.1.name t) λg8=>?_
   rw[sb];cases hs:cG V.an y.1 t with
   |false=>
    refine Rs (wP t0 t8 t21 t22 t23 t26 t148 t149 t150 t260 t261 t262 @z0 e5) ?_;exact M3
   |true=>
    rw[mono hs];refine Rs (yu t0 t8 t21 t22 t23 t26 t148 t149 t150 t260 t261 t262 @z0 e5 @Zg) ?_;exact M3
 ·have e3:=fo hlt;refine Rs (Dk t0 t8 t21 t22 t23 t26 t148 t149 t150 t260 t261 t262 e3) ?_;exact⟨rfl,eW.trans e2,Sn,(Sq t0),(Sq t8),(Sq t148),(Sq t149),(Sq t150)⟩
omit hV hk hl h0 o sh gl eW in
theorem Mu(mb:W[b]? =some (.cells x.row true false))(hn:x.ev.kind≠bh .accept)(hlen:ts.length=383)(t0:slot ts 0=s)(t8:slot ts 8=.int .i64 t)(t21:slot ts 21=.int .i64 k)(t22:slot ts 22=.ptr b 0)(t23:slot ts 23=.ptr c 0)(t26:slot ts 26=.ptr d 0)(t148:slot ts 148=s)(t149:slot ts 149=.int .i64 L.length)(t150:slot ts 150=.int .i64 k):
  WC P bL (AU 5) [] ts W (λe ts W'=>e=.normal/\W' =W/\ts.length=383/\slot ts 0=s/\slot ts 8=.int .i64 t/\slot ts 21=.int .i64 k/\slot ts 22=.ptr b 0/\slot ts 23=.ptr c 0/\slot ts 26=.ptr d 0/\slot ts 148=s/\slot ts 149=.int .i64 L.length/\slot ts 150=.int .i64 k):=by
 have:=T.mix;have lb:=@eE _ _ _ mb;have qk:decide (x.ev.kind=[97,99,99,101,112,116])=false:=YS hn;unfold AU Dq GI ke fn5;simp only[ai.j,ai.s,ai.r,ai.dr,ai.tl,ai.hd,ai.tv];exact Rs (mQ t0 t8 t21 t22 t23 t26 t148 t149 t150 @lb @bj @qk) Tv
omit h0 hV in
theorem EM(hr:(aP (L.map EV.ev)).2.2=0)(ht:0<=t/\t<=65535)(hlen:ts.length=383)(t0:slot ts 0=s)(t8:slot ts 8=.int .i64 t)(t148:slot ts 148=s)(t149:slot ts 149=.int .i64 L.length)(t150:slot ts 150=.int .i64 k):
  WC P bL Dq [] ts W (Nl h s L t k λe=>e=.normal\/e=.exit 7):=by
 obtain⟨a1,a2,a3⟩:=MF hk hr;have oW:=o.ext eW;have glW:=gl.ext eW;obtain⟨x,hx⟩:∃x,x=L[k]:=⟨_,rfl⟩;rw[<-hx]at a2 a3;have SG:x∈L:=by rw[hx];exact Za _
 have ox:=oW.all x SG;have st:=@bw.st _ _ ox;have ix:=oW.sl.dG (kk:=.i64) hk;have ld:∀{k':ah},Ext W k'->aq (some 5) (cN s 5 k) (λb=>k'[b]?)=some (.agg x.row,.au):=λ{k'} e=>by rw[hx];exact oW.sl.jD hk e
 have ek:=wrapN (n:=k) Om;obtain⟨s1,Xl,Ya⟩:=oW.cut (aaS hk);obtain⟨s2,sl2,os2⟩:=oW.cut (i:=k+1) hk;rw[PR];generalize hU:Ng=CU;generalize h5:AU 5=C5;unfold AU Dq GI ke fn5;simp only[ai.j,ai.s,ai.r,ai.dr,ai.tl,ai.hd,ai.tv];by_cases hac:x.ev.kind=bh .accept\/x.ev.kind=bh .copy
 case neg=>
  have n1:decide (x.ev.kind≠[97,99,99,101,112,116])=true:=YW λz=>hac (.inl z)
  have n2:decide (x.ev.kind≠[99,111,112,121])=true:=YW λz=>hac (.inr z)
  refine Rs (kS t0 t8 t148 t149 t150 ix @ld @st @bj @n1 @n2) ?_;exact⟨.inr rfl,eW.trans Xx,Sn,(Sq t0),(Sq t8),(Sq t148),(Sq t149),(Sq t150)⟩
 obtain⟨c1,c2⟩:=yj a2;obtain⟨kd,we⟩:=rL c1;obtain⟨_,_,c3⟩:=yo c2;have RM:=we.kH;have hne:kH x.ev≠.eF:=by
  rw[RM];intro z;have:=bW we.kd;rw[z]at this;rcases hac with q|q<;>rw[this]at q<;>exact absurd q De
 have c4:=c3 hne;rw[RM]at c4;have Un:=Eb (H:=(aP ((L.take k).map EV.ev)).1) hne;have b2:(aP ((L.take (k+1)).map EV.ev)).2.2=0:=by rw[a3]
 have b3:(aP ((L.take (k+1)).map EV.ev)).1.now=jP (aP ((L.take k).map EV.ev)).1.now x.ev kd:=by rw[a3,<-RM];exact Un
 have z0:decide ((0:Int)≠0)=false:=rfl;have key:(if x.ev.kind=bh .accept then decide (x.ev.kind≠[97,99,99,101,112,116])=false else decide (x.ev.kind≠[97,99,99,101,112,116])=true/\decide (x.ev.kind≠[99,111,112,121])=false):=by
  split
  ·rename_i q;exact YS λz=>z q
  ·rename_i q;exact⟨YW q,YS λz=>z (hac.resolve_left q)⟩
 have main:∀{V U:RV}{g1 g2:ah}{ts:TS},V.an=(aP ((L.take k).map EV.ev)).1.now->aC (W++[ak.cells x.row true false]++g1) V->eJ V.an->U.an=(aP ((L.take (k+1)).map EV.ev)).1.now->aC (W++[ak.cells x.row true false]++g1++[ak.cells V.row true false]++g2) U->eJ U.an->ts.length=383->slot ts 0=s->slot ts 8=.int .i64 t->slot ts 21=.int .i64 k->slot ts 22=.ptr W.length 0->slot ts 23=.ptr (W++[ak.cells x.row true false]++g1).length 0->slot ts 26=.ptr (W++[ak.cells x.row true false]++g1++[ak.cells V.row true false]++g2).length 0->slot ts 148=s->slot ts 149=.int .i64 L.length->slot ts 150=.int .i64 k->
   WC P bL C5 [.zE CU] ts (W++[ak.cells x.row true false]++g1++[ak.cells V.row true false]++g2++[ak.cells U.row true false]) (Nl h s L t k λe=>e=.normal\/e=.exit 7):=by
  intro V U g1 g2 ts hV oV wV Xe oU wU hlen t0 t8 t21 t22 t23 t26 t148 t149 t150;obtain⟨K,hK⟩:∃K,K=W++[ak.cells x.row true false]++g1++[ak.cells V.row true false]++g2++[ak.cells U.row true false]:=⟨_,rfl⟩;have e1:Ext W K:=by rw[hK];exact Xx
  have mb:K[W.length]? =some (.cells x.row true false):=by rw[hK];exact sF
  have mc:K[(W++[ak.cells x.row true false]++g1).length]? =some (.cells V.row true false):=by rw[hK];exact yk
  have md:K[(W++[ak.cells x.row true false]++g1++[ak.cells V.row true false]++g2).length]? =some (.cells U.row true false):=by rw[hK];exact a8
  have oV:aC K V:=by rw[hK];exact oV.ext Xx
  have oU:aC K U:=by rw[hK];exact oU.ext Xx
  rw[<-hK];rw[<-hV]at c4 b3;have nk:=vB (uj c4).1;by_cases q:x.ev.kind=bh .accept
  ·obtain rfl:kd=.accept:=by
    have:=we.kd;rw[q,js]at this;exact(ZU this).symm
   refine WC.cut _ (h5▸IH T o sh gl hk hl a1 hV (eW.trans e1) ⟨oV,wV,ox.ext e1,we,nk⟩ c4 mb mc hlen t0 t8 t21 t22 t23 t148 t149 t150) ?_;rintro e ts W' ⟨rfl,r1,r2,r3,r4,r5,r6,r7⟩;refine Rs @r3 ?_;exact⟨.inr rfl,r1,r2,r3,r4,r5,r6,r7⟩
  ·obtain rfl:kd=.copy:=by
    have:=we.kd;rw[hac.resolve_left q,js]at this;exact(ZU this).symm
   refine WC.cut _ (h5▸Mu T mb q hlen t0 t8 t21 t22 t23 t26 t148 t149 t150) ?_;rintro e ts W' ⟨rfl,rfl,r2,r3,r4,r5,r6,r7,r8,r9,r10,r11⟩;rw[qE];refine WC.Cb (hU▸Mx T o sh gl hk hl a1 hV (eW.trans e1) ⟨oV,wV,ox.ext e1,we,nk⟩ c4 oU (Xe.trans b3) Xe b2 wU ht mb mc md r2 r3 r4 r5 r6 r7 r8 r9 r10 r11) ?_;rintro e ts W' ⟨rfl,q⟩;exact⟨.inl rfl,q⟩
 have len2:∀{V U:RV},V.an=(aP ((L.take k).map EV.ev)).1.now->U.an=(aP ((L.take (k+1)).map EV.ev)).1.now->V.aj.length=U.aj.length:=λ{V U} hV Xe=>by
  have e:=Xe.trans b3;rw[<-hV]at e;have:U.an.aj.length=V.an.aj.length:=by
   rw[e];have RJ:kd=.accept\/kd=.copy:=by
    have:=bW we.kd;rcases hac with q|q<;>rw[q]at this
    ·left;cases kd<;>first|rfl|exact absurd this De
    ·right;cases kd<;>first|rfl|exact absurd this De
   rcases RJ with rfl|rfl
   ·rfl
   ·rw[zd,YY]
  simpa [RV.an]using this.symm
 by_cases q:x.ev.kind=bh .accept
 ·rw[Zb q]at key;refine Rs (kS t0 t8 t148 t149 t150 ix @ld @st @bj @key @Xl) ?_;refine WF.res T.c34 (r34 T (Ya.ext Xx) (sh.cut k) (glW.ext Xx)) ?_;rintro _ g1 ⟨V,rfl,hV,oV,wV⟩;have stV:=@aC.st _ _ oV;rw[a1];refine Rs (A8 t0 t8 t148 t149 t150 @stV @ek @sl2) ?_;refine WF.res T.c34 (r34 T (os2.ext Xx) (sh.cut _) (glW.ext Xx)) ?_;rintro _ g2 ⟨U,rfl,Xe,oU,wU⟩;have stU:=@aC.st _ _ oU;rw[b2];have el:decide ((V.aj.length:Int)≠V.aj.length)=false:=Si
  have ll:=len2 hV Xe;have lU:=oU.i2.aJ;rw[<-ll]at lU;refine Rs (kS t0 t8 t148 t149 t150 @stU @z0 @dy oV.i2.aJ @lU @el) ?_;exact z127
 ·rw[Y6 q]at key;obtain⟨key,key2⟩:=key;refine Rs (mQ t0 t8 t148 t149 t150 ix @ld @st @bj @key @key2 @Xl) ?_;refine WF.res T.c34 (r34 T (Ya.ext Xx) (sh.cut k) (glW.ext Xx)) ?_;rintro _ g1 ⟨V,rfl,hV,oV,wV⟩;have stV:=@aC.st _ _ oV;rw[a1];refine Rs (A8 t0 t8 t148 t149 t150 @stV @ek @sl2) ?_;refine WF.res T.c34 (r34 T (os2.ext Xx) (sh.cut _) (glW.ext Xx)) ?_;rintro _ g2 ⟨U,rfl,Xe,oU,wU⟩;have stU:=@aC.st _ _ oU;rw[b2];have el:decide ((V.aj.length:Int)≠V.aj.length)=false:=Si
  have ll:=len2 hV Xe;have lU:=oU.i2.aJ;rw[<-ll]at lU;refine Rs (kS t0 t8 t148 t149 t150 @stU @z0 @dy oV.i2.aJ @lU @el) ?_;exact z127
end
section
variable {P:Program}(T:fp P) {h W:ah}{ts:TS}{L:List EV}{s:AV}{V:RV}{t:Int}{b m:Nat}(ha:∀k,Ext h k->ay P 15 [] k (λv _=>v=.bool true)) (o:dZ h L s) (sh:uO L) (gl:Gl h) (hl:L.length<=1000) (hr:(aP (L.map EV.ev)).2.2=0) (ht:0<=t/\t<=65535) (eW:Ext h W)
include T ha o sh gl hl hr ht eW
def Mw(hlen:ts.length=383)(t0:slot ts 0=s)(t8:slot ts 8=.int .i64 t):WC P bL (ke 8) [] ts W (FQ [(4,none)] (GP h)):=by
 rw[PS];generalize hC:Dq=C;generalize hR:ke 9=R;unfold GI Q7 ke fn5;simp only[ai.j,ai.s,ai.r,ai.dr,ai.tl,ai.hd,ai.tv];refine Rs (A3 t0 t8 o.sl.aJ) ?_;refine WL.inv T.mix (λm ts h'=>∃k:Nat,k<=L.length/\m=L.length-k/\Ext h h'/\ts.length=383/\slot ts 0=s/\slot ts 8=.int .i64 t/\slot ts 148=s/\slot ts 149=.int .i64 L.length/\slot ts 150=.int .i64 k) L.length
  ⟨0,Om,rfl,eW,Sn,(Sq t0),(Sq t8),(Sq t0),Sw,gM⟩ ?_
 clear t0 t8 hlen eW;rintro _ ts W2 ⟨k,hk,rfl,e2,hlen,t0,t8,t148,t149,t150⟩;by_cases hlt:k<L.length
 ·have e3:=ee hlt;have e5:=wrapN (n:=k) Om;refine Rs (A6 t0 t8 t148 t149 t150 e3) ?_;refine WC.cut _ (hC▸EM T o sh gl hlt hl e2 hr ht Sn (Sq t0) (Sq t8) (Sq t148) (Sq t149) (Sq t150)) ?_;rintro e ts W3 ⟨he,e4,hlen,t0,t8,t148,t149,t150⟩;rcases he with rfl|rfl
  ·exact Kj
  ·exact Kj
 ·have e3:=fo hlt;refine Rs (A6 t0 t8 t148 t149 t150 e3) ?_;rw[<-hR];unfold ke fn5;simp only[ai.j,ai.s,ai.r,ai.dr,ai.tl,ai.hd,ai.tv];refine Rs t0 ?_;refine WF.ce T.c15 (ha _ (e2.trans Xx)) λg=>?_
  refine Rs t0 ?_;exact⟨e2.trans Xx,rfl⟩
def Mt(oV:aC W V)(wV:eJ V.an)(hV:V.an=(aP (L.map EV.ev)).1.now){M:List (By×AV)}(mb:W[b]? =some (.cells V.row true false))(mm:W[m]? =some (.bf (M.map oh)))(hM:∀x∈V.aB,oO (.int .i64 0) M x.name=.int .i64 x.last)(hlen:ts.length=383)(t0:slot ts 0=s)(t5:slot ts 5=.ptr b 0)(t8:slot ts 8=.int .i64 t)(t9:slot ts 9=.map m):WC P bL (ke 7) [] ts W (FQ [(4,none)] (GP h)):=by
 have hL2:V.aj.length<=64:=by have:=wV.l2;simpa [RV.an]using this
 have lb:=@eE _ _ _ mb;rw[PT];generalize hR:ke 8=R;unfold ke fn5;simp only[ai.j,ai.s,ai.r,ai.dr,ai.tl,ai.hd,ai.tv];refine Rs (A7 t0 t5 t8 t9 @lb @dy oV.i2.aJ) ?_;refine WL.inv T.mix (λm' ts h'=>∃j:Nat,j<=V.aj.length/\m' =V.aj.length-j/\Ext W h'/\ts.length=383/\slot ts 0=s/\slot ts 8=.int .i64 t/\slot ts 9=.map m/\slot ts 84=V.s2/\slot ts 85=.int .i64 V.aj.length/\slot ts 86=.int .i64 j) V.aj.length
  ⟨0,Om,rfl,Ext.refl W,Sn,(Sq t0),(Sq t8),(Sq t9),Sw,Sw,gM⟩ ?_
 clear t0 t5 t8 t9 hlen lb;rintro _ ts W2 ⟨j,hj,rfl,e2,hlen,t0,t8,t9,t84,t85,t86⟩;by_cases hlt:j<V.aj.length
 case neg=>
  have e3:=fo hlt;refine Rs (A7 t0 t8 t9 t84 t85 t86 e3) ?_;rw[<-hR];exact Mw T ha o sh gl hl hr ht (eW.trans e2) Sn (Sq t0) (Sq t8)
 have e3:=ee hlt;have e5:=wrapN (n:=j) Om;have o2:=oV.ext e2;have ix:=o2.i2.dG (kk:=.i64) hlt;obtain⟨y,hy⟩:∃y,y=V.aj[j]:=⟨_,rfl⟩;have SX:y∈V.aj:=by rw[hy];exact Za _
 have Ta:y.1∈V.an.aj:=Zo SX;have ld:∀{k':ah},Ext W2 k'->aq (some 3) (cN V.s2 3 j) (λb=>k'[b]?)=some (.agg (aX y),.au):=λ{k'} e=>by rw[hy];exact o2.i2.jD hlt e
 have oy:=o2.e2 y SX;have Sv:=oy.one;have TG:=@yF y Sv;unfold aX at ld TG;obtain⟨_,ws1,_,ws2⟩:=wV.sh y.1 Ta;have S2:y.1.aB.length<=2^30:=by have:=(wV.ue.sh y SX).2;omega
 refine Rs (mQ t0 t8 t9 t84 t85 t86 e3 ix @ld @TG @Sv oy.aJ) ?_;obtain⟨W3,RZ⟩:∃W3,W3=W2++[ak.cells [AV.str y.1.name,AV.str y.1.line,y.2] true false]:=⟨_,rfl⟩;have e23:Ext W2 W3:=by rw[RZ];exact⟨_,rfl⟩
 have m13:W3[W2.length]? =some (.cells [AV.str y.1.name,AV.str y.1.line,y.2] true false):=by rw[RZ];exact a8
 rw[<-RZ];obtain⟨b3,Ue⟩:∃b3,b3=W2.length:=⟨_,rfl⟩;rw[<-Ue]at m13 ⊢;clear RZ Ue;have oy:=oy.ext e23;refine WL.inv T.mix (λm' ts h'=>h' =W3/\∃i:Nat,i<=y.1.aB.length/\m' =y.1.aB.length-i/\ts.length=383/\slot ts 0=s/\slot ts 8=.int .i64 t/\slot ts 9=.map m/\slot ts 13=.ptr b3 0/\slot ts 14=.bool ((y.1.aB.take i).any (fR V.an t))/\slot ts 84=V.s2/\slot ts 85=.int .i64 V.aj.length/\slot ts 86=.int .i64 j/\slot ts 91=y.2/\slot ts 92=.int .i64 y.1.aB.length/\slot ts 93=.int .i64 i) y.1.aB.length
  ⟨rfl,0,Om,rfl,Sn,(Sq t0),(Sq t8),(Sq t9),Sw,gM,(Sq t84),(Sq t85),(Sq t86),Sw,Sw,gM⟩ ?_
 clear t0 t8 t9 t84 t85 t86 hlen e3 ix ld TG;rintro _ ts W4 ⟨h4,i,hi,rfl,hlen,t0,t8,t9,t13,t14,t84,t85,t86,t91,t92,t93⟩;rw[h4];by_cases Ss:i<y.1.aB.length
 ·have e3:=ee Ss;have e6:=wrapN (n:=i) Om;have ix:=oy.dG (kk:=.i64) Ss;obtain⟨n,hn⟩:∃n,n=y.1.aB[i]:=⟨_,rfl⟩;have ld:aq none (cN y.2 1 i) (λb=>W3[b]?)=some (.str n,.au):=oy.kY Ss (by rw[hn];rfl) (Ext.refl _);have T2:n∈jG V.an:=ws2 n (by rw[hn];exact Za _);have hag:oO (.int .i64 0) M n=.int .i64 (gu V.an n).last:=by
   have h1:gu V.an n∈V.aB:=gI T2;have h2:(gu V.an n).name=n:=gk T2;have:=hM _ h1;rw[h2]at this;exact this
  have lk:=HU (d:=.int .i64 0) (w:=n) ((e2.trans e23).some mm);rw[hag]at lk;have R7:(y.1.aB.take (i+1)).any (fR V.an t)=((y.1.aB.take i).any (fR V.an t)||decide (t<=(gu V.an n).last)):=by
   rw[ZF,YU Ss,List.any_append,<-hn];simp[fR]
  cases hb:(y.1.aB.take i).any (fR V.an t)with
  |true=>
   rw[hb]at t14 R7;refine Rs (yu t0 t8 t9 t13 t14 t84 t85 t86 t91 t92 t93 e3 ix @ld e6) ?_;exact z182
  |false=>
   rw[hb]at t14 R7;refine Rs (Jl t0 t8 t9 t13 t14 t84 t85 t86 t91 t92 t93 e3 ix @ld @bS @lk e6) ?_;exact z182
 have e3:=fo Ss;have hall:(y.1.aB.take i).any (fR V.an t)=cG V.an y.1 t:=by rw[ZE Om];rfl
 rw[hall]at t14;have l13:=@eE _ _ _ m13;have w1:IntKind.i64.wrap (t+1)=t+1:=bu Om Om;have e03:=(eW.trans e2).trans e23;have sa:gW (L.map EV.ev) y.1.name t=(cG V.an y.1 t,0):=by rw[lC hr (hV▸wV) (hV▸Ta) Om,<-hV]
 have sb:gW (L.map EV.ev) y.1.name (t+1)=(cG V.an y.1 (t+1),0):=by rw[lC hr (hV▸wV) (hV▸Ta) Om,<-hV]
 have z0:decide ((0:Int)≠0)=false:=rfl;have bb:(cG V.an y.1 t==cG V.an y.1 t)=true:=Si
 have q0:decide ((y.1.aB.length:Int)=0)=false:=YS λq=>ws1 (ZZ.1 Om)
 refine Rs (wP t0 t8 t9 t13 t14 t84 t85 t86 t91 t92 t93 e3 @l13 @Sv) ?_;refine WF.ce T.c16 (r16 T (o.ext (e03.trans Xx)) sh (gl.ext (e03.trans Xx)) y.1.name t) λg1=>?_
 rw[sa];refine Rs (kS t0 t8 t9 t13 t14 t84 t85 t86 @l13 @Sv @w1) ?_;refine WF.ce T.c16 (r16 T (o.ext (e03.trans Xx)) sh (gl.ext (e03.trans Xx)) y.1.name (t+1)) λg2=>?_
 rw[sb];cases hs:cG V.an y.1 (t+1)with
 |false=>
  refine Rs (Dr t0 t8 t9 t13 t14 t84 t85 t86 @z0 @bb @l13 @Sv oy.aJ q0 @Zg e5) ?_;exact J1
 |true=>
  have Se:=DM (by omega:t<=t+1) hs;rw[Se]at t14 bb ⊢;refine Rs (Dr t0 t8 t9 t13 t14 t84 t85 t86 @z0 @bb @l13 @Sv oy.aJ q0 @Zg e5) ?_;exact J1
def Mv(oV:aC W V)(wV:eJ V.an)(hV:V.an=(aP (L.map EV.ev)).1.now)(mb:W[b]? =some (.cells V.row true false))(hlen:ts.length=383)(t0:slot ts 0=s)(t5:slot ts 5=.ptr b 0)(t8:slot ts 8=.int .i64 t)(t9:slot ts 9=.map W.length):WC P bL (ke 6) [] ts (W++[.bf []]) (FQ [(4,none)] (GP h)):=by
 have hL1:V.aB.length<=16:=wV.l1;have lb:=@eE _ _ _ mb;rw[PU];generalize hR:ke 7=R;unfold ke fn5;simp only[ai.j,ai.s,ai.r,ai.dr,ai.tl,ai.hd,ai.tv];refine Rs (A7 t0 t5 t8 t9 @lb @jX oV.i1.aJ) ?_;refine WL.inv T.mix (λm' ts h'=>∃(j:Nat) (M:List (By×AV)),j<=V.aB.length/\m' =V.aB.length-j/\Ext W h'/\h'[W.length]? =some (.bf (M.map oh))/\(∀x∈V.aB.take j,oO (.int .i64 0) M x.name=.int .i64 x.last)/\ts.length=383/\slot ts 0=s/\slot ts 5=.ptr b 0/\slot ts 8=.int .i64 t/\slot ts 9=.map W.length/\slot ts 71=V.s1/\slot ts 72=.int .i64 V.aB.length/\slot ts 73=.int .i64 j) V.aB.length
  ⟨0,[],Om,rfl,⟨_,rfl⟩,a8,(λx hx=>by cases hx),Sn,(Sq t0),(Sq t5),(Sq t8),(Sq t9),Sw,Sw,gM⟩ ?_
 clear t0 t5 t8 t9 hlen lb;rintro _ ts W2 ⟨j,M,hj,rfl,e2,mm,hM,hlen,t0,t5,t8,t9,t71,t72,t73⟩;by_cases hlt:j<V.aB.length
 case neg=>
  have e3:=fo hlt;rw[ZE Om]at hM;refine Rs (A8 t0 t5 t8 t9 t71 t72 t73 e3) ?_;rw[<-hR];exact Mt T ha o sh gl hl hr ht (eW.trans e2) (oV.ext e2) wV hV (e2.some mb) mm hM Sn (Sq t0) (Sq t5) (Sq t8) (Sq t9)
 have e3:=ee hlt;have e5:=wrapN (n:=j) Om;have o2:=oV.ext e2;have ix:=o2.i1.dG (kk:=.i64) hlt;obtain⟨y,hy⟩:∃y,y=V.aB[j]:=⟨_,rfl⟩;have SX:y∈V.an.aB:=by rw[hy];exact Za _
 have ld:∀{k':ah},Ext W2 k'->aq (some 2) (cN V.s1 2 j) (λb=>k'[b]?)=some (.agg (dt y),.au):=λ{k'} e=>by rw[hy];exact o2.i1.jD hlt e
 have TG:=@KF y;unfold dt at ld TG;have u0:rn .s (.map W.length) (.str y.name) (.int .i64 y.last) (λz=>(W2++[ak.cells [AV.str y.name,AV.int .i64 y.last] true false])[z]?)=some (az,.set W.length (.bf ((ux M y.name (.int .i64 y.last)).map oh))):=Lw ((show Ext W2 _ from⟨_,rfl⟩).some mm);have hWl:=(YQ.1 mm).1;refine Rs (wP t0 t5 t8 t9 t71 t72 t73 e3 ix @ld @TG @hP @u0 e5) ?_;refine⟨_,Om,j+1,ux M y.name (.int .i64 y.last),Om,rfl,(e2.iQ (Y9 _)).trans ⟨_,rfl⟩,by rw[YT (by rw[ZI];omega),Zd Om],λx hx=>?_,rfl⟩;rw[wI];rw[ZF,YU hlt,<-hy]at hx;by_cases hn:x.name=y.name
 ·rw[Zb hn];have SG:x∈V.an.aB:=by
   rcases YZ.1 hx with hx|hx
   ·exact ZW hx
   ·rw[Option.toList,Zm]at hx;rw[hx];exact SX
  have h1:=uW wV SG;have h2:=uW wV SX;rw[hn,h2]at h1;rw[h1]
 ·rw[Y6 hn];rcases YZ.1 hx with hx|hx
  ·exact hM x hx
  ·rw[Option.toList,Zm]at hx;exact absurd (by rw[hx]) hn
end
section
variable {P:Program}(T:fp P) {h:ah}
include T
def r5(ha:∀k,Ext h k->ay P 15 [] k (λv _=>v=.bool true)){L:List EV}{s:AV}(o:dZ h L s)(sz:zu L)(gl:Gl h){t:Int}(ht:0<=t/\t<=65535):ay P 5 [s,.int .u16 t] h (λv _=>v=.bool true):=by
 refine .of T.mix (abq T.c5 (Zz some PV)) ?_;obtain⟨ts,RG⟩:∃ts,ts=aR 383 [s,.int .u16 t]:=⟨_,rfl⟩;have hlen:ts.length=383:=by rw[RG];rfl
 have t0:slot ts 0=s:=by rw[RG];rfl
 have t1:slot ts 1=.int .u16 t:=by rw[RG];rfl
 show WC P bL (.seq (ke 0).hd (.seq (ke 1).hd (.seq (ke 2).hd (.seq (ke 3).hd (.seq (ke 4).hd (.seq (ke 5).hd (ke 6))))))) [] (aR 383 [s,.int .u16 t]) h (FQ [(4,none)] (GP h));rw[<-RG];clear RG;generalize hR:ke 6=R;unfold ke fn5;simp only[ai.j,ai.s,ai.r,ai.dr,ai.tl,ai.hd];refine Rs (A2 t0 t1) ?_;refine WF.ce T.c33 (r33 T o sz De) λg1=>?_
 by_cases hacc:ia (L.map EV.ev) 20=true/\(aP (L.map EV.ev)).2.2=0
 case neg=>
  have hf:(ia (L.map EV.ev) 20&&decide ((aP (L.map EV.ev)).2.2=0))=false:=by
   cases hs:ia (L.map EV.ev) 20 with
   |false=>rfl
   |true=>rw[aao];exact YS λz=>hacc ⟨hs,z⟩
  rw[hf];refine Rs (A3 t0 t1 @Zq) ?_;exact G8
 obtain⟨hsh,hr⟩:=hacc;rw[hsh,YW hr];obtain⟨sh,nl,hl,_⟩:=qT hsh De;have hl20:L.length<=20:=by
  rw[ia,Zx,ZJ,YY]at hsh;have:=hsh.1;omega
 have bt:(true&&true)=true:=rfl;refine Rs (A4 t0 t1 @bt @Zg) ?_;refine WF.res T.c34 (r34 T (o.ext Xx) sh (gl.ext Xx)) ?_;rintro _ g2 ⟨V,rfl,hV,oV,wV⟩;have st:=@aC.st _ _ oV;obtain⟨K,hK⟩:∃K,K=h++g1++g2++[ak.cells V.row true false]:=⟨_,rfl⟩;have eK:Ext h K:=by rw[hK];exact Xx
 have mb:K[(h++g1++g2).length]? =some (.cells V.row true false):=by rw[hK];exact a8
 have oK:aC K V:=by rw[hK];exact oV.ext Xx
 have lb:=@eE _ _ _ mb;rw[hr];have z0:decide ((0:Int)≠0)=false:=rfl;have Yo:=HK hr;rw[<-hV,YY]at Yo;have Yo:V.aj.length<=L.length:=by simpa [RV.an]using Yo
 have ht16:V.aB.length<=16:=wV.l1;have q1:decide ((20:Int)<(V.aj.length:Int))=false:=YS Om;have q2:decide ((20:Int)<(V.aB.length:Int))=false:=YS Om;have w1:IntKind.i64.wrap t=t:=bu Om Om;refine Rs (A3 t0 t1 @st) ?_;rw[<-hK];refine Rs (kS t0 t1 @z0 @lb @jX @dy oV.i1.aJ oV.i2.aJ q1 q2 @w1) ?_;rw[<-hR];exact Mv T ha o sh gl hl hr ht eK oK wV hV mb Sn (Sq t0) Sw Sw Sw
end
end Go.Abs
