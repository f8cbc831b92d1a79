/- A part of the proof that HouseSafe holds. No condition. -/
import Derived.Test.YtgplmdgpmbegiaaGreatDoorSa9
import Derived.Test.YtgplmdgpmbegiaaGreatDoorSa8
import Derived.Test.YtgplmdgpmbegiaaGreatDoorSa0
set_option maxHeartbeats 4000000
set_option linter.all false
open Nat (reduceAdd reduceMul reduceLeDiff reduceEqDiff)
namespace Go.Abs
def wu(k:Nat):aj:=(fn81).body.dr k
def Dh(k:Nat):aj:=((fn81).body.dr k).hd
def MQ:fn81= ⟨110,1,[(2,none),(3,some (some 7)),(4,none),(5,none)],.seq (Dh 0) (wu 1)⟩:=rfl
def MP:wu 1= .seq (Dh 1) (wu 2):=rfl
def MO:wu 2= .seq (Dh 2) (wu 3):=rfl
def MN:wu 3= .seq (Dh 3) (wu 4):=rfl
def MM:wu 4= .seq (Dh 4) (wu 5):=rfl
def PQ(M:Nat)(l:List gy):AV→ah→Prop:=fun v k=>
 ∃ (sc:AV) (V:RV) (C:List EV),v= .dJ [sc,.agg V.row,.i (bU l).2.1,.i (bU l).2.2]∧aD k V∧V.ar= (bU l).1.now∧fo V.ar∧fH k C sc∧C.map EV.ev= (bU l).1.fc∧C.length≤1000∧∀i,some i∈V.bl→M < i
def LZ(h:ah)(l:List gy):AV→ah→Prop:=fun v k=>Ext h k∧PQ h.length l v k
structure LH(h W:ah)(L:List EV)(k:Nat)(C:List EV)(A:List RV)(sc sa:AV):Prop where
 x:Ext h W
 b:W[h.length]? =some (.b km)
 c:aK (fy [some h.length] W) sc 5 (C.map EV.row)
 ce:∀e∈C,bo (fy [some h.length] W) e
 a:aK (fy [some h.length] W) sa 7 ((RV.zero::A).map RV.row)
 ae:∀R∈A,aD (fy [some h.length] W) R
 al:∀R∈A,∀i,some i∈R.bl→h.length < i
 w:lz ⟨(L.take k).map EV.ev,C.map EV.ev,A.map RV.ar⟩
 r:bU (L.map EV.ev)=rD ⟨(L.take k).map EV.ev,C.map EV.ev,A.map RV.ar⟩ ((L.drop k).map EV.ev) k
def xV{W W2 b}(e:Ext W W2):jg (fy [some b] W) (fy [some b] W2):=ng (fun i hi _=>e.get hi) fun _ _ h=>h
def At{W b X}:jg (fy [some b] W) (W.set b X):=fun i c mu tl hb=>by
 obtain⟨h1,h2⟩:=qN hb;have:i≠b:=fun e=>h1 (by rw[e];simp)
 rw[XK (YP this)];exact h2
def LH.ext{h W W2 L k C A sc sa}(s:LH h W L k C A sc sa)(e:Ext W W2):LH h W2 L k C A sc sa:=
 ⟨s.x.trans e,e.some s.b,s.c.sub (xV e),fun y hy=>(s.ce y hy).sub (xV e),s.a.sub (xV e),fun y hy=>(s.ae y hy).sub (xV e),s.al,s.w,s.r⟩
def JE{h W}(e:Ext h W):jg h (fy [some h.length] W):=fun i c mu tl hb=>by
 have hl:=(Xr.1 hb).1;rw[tC (by intro z;simp only[XT,X1]at z;omega)];exact e.some hb
def AZ{h k l i e}(he:e≠0)(hr:bU l= (ki.zero,i,e))(hx:Ext h k):LZ h l (.dJ [.af,.agg RV.zero.row,.i i,.i e]) k:=by
 refine⟨hx,.af,RV.zero,[],by rw[hr],aD.zero,by rw[hr];rfl,fo.zero,⟨.nil,fun _ h=>by cases h⟩,by rw[hr];rfl,Si,fun i hi=>by simp[RV.zero,RV.bl,sB]at hi⟩
def JC:Option AV→Option AV→Option AV→Option AV→Option AV
 | some a,some b,some c,some d=>some (.dJ [a,b,c,d])
 | _,_,_,_=>none
def kR{a b c d}:JC (some a) (some b) (some c) (some d)=some (.dJ [a,b,c,d]):=rfl
def fU{ts h r s t u}:cN [r,s,t,u] ts h=JC (du ts h r) (du ts h s) (du ts h t) (du ts h u):=by
 simp only[cN,iI];cases du ts h r<;>cases du ts h s<;>cases du ts h t<;>cases du ts h u<;>rfl
def KU{A n}(hn:n=A.length): (RV.zero::A)[n]? =some (A.getLastD RV.zero):=by
 subst hn;rcases lD A with rfl| ⟨m,y,rfl⟩
 ·rfl
 ·simp
def zp(A:List RV): (A.getLastD RV.zero).ar= (A.map RV.ar).getLastD gJ.zero:=by
 rcases lD A with rfl| ⟨m,y,rfl⟩
 ·rfl
 ·simp
set_option maxRecDepth 10000
attribute [local irreducible] WP WC WE WB WR WF WL WG fV WM
section
variable {P:Program} (T:fA P) {h W:ah} {ts:TS}
include T
theorem Dg{L s}(o:fH h L s)(sh:Aa L)(hnl:∀x∈L,∀n∈x.ev.names,n.length < 2^63)(hl:L.length≤1000){sa}(st:LH h W L 0 [] [] .af sa)(hlen:ts.length=110)(t0:slot ts 0=s)(t3:slot ts 3= .ptr h.length 0)(t6:slot ts 6= .af)(t7:slot ts 7=sa):
  WC P bR (wu 4) [] ts W (FQ [(2,none),(3,some (some 7)),(4,none),(5,none)] (LZ h (L.map EV.ev))):=by
 rw[MM];generalize hE:wu 5=E;unfold Dh fn81;simp only[aj.j,aj.s,aj.r,aj.dr,aj.tl,aj.hd];refine Rs (A4 t0 t3 t6 t7) ?_;refine WL.inv T.mix (fun m ts W=>∃ (k:Nat) (C:List EV) (A:List RV) (sc sa:AV),k≤L.length∧m=L.length - k∧LH h W L k C A sc sa∧ts.length=110∧slot ts 0=s∧slot ts 3= .ptr h.length 0∧slot ts 6=sc∧slot ts 7=sa∧slot ts 8= .i k) L.length
  ⟨0,[],[],.af,sa,Om,rfl,st,Sn,(Sq t0),(Sq t3),(Sq t6),(Sq t7),iF⟩ ?_
 clear t0 t3 t6 t7 hlen st;rintro _ ts W ⟨k,C,A,sc,sa,hk,rfl,st,hlen,t0,t3,t6,t7,t8⟩;have hAC:A.length=C.length:=by have:=st.w.ln;simpa using this
 have hCl:C.length≤L.length:=by have:=st.w.le;simp only[XB,Yq]at this;omega
 have oW:=o.ext st.x;have UA:=st.c.sub (jg.fy _ _);have sta:=st.a.sub (jg.fy _ _);have stae:∀R∈A,aD W R:=fun R hR=>(st.ae R hR).sub (jg.fy _ _)
 obtain⟨N,hN⟩:∃N,N=A.getLastD RV.zero:=⟨_,rfl⟩;have hgN: (RV.zero::A)[C.length]? =some N:=by rw[hN];exact KU hAC.symm
 have hCA:C.length < (RV.zero::A).length:=by simp only[Xy];omega
 have hgN': (RV.zero::A)[C.length]=N:=by rw[Xw hCA]at hgN;exact Yu hgN
 have ix:aZ 7 sa (.i (C.length:Int))=some (cV sa 7 C.length,.az):=sta.dG hCA;have ld:∀{kk:ah},Ext W kk→ao (some 7) (cV sa 7 C.length) (fun b=>kk[b]?)=some (.agg N.row,.az):=fun {kk} e=>by rw[←hgN'];exact sta.kB hCA e
 have oN:aD (fy [some h.length] W) N:=by
  rcases lD A with hA| ⟨m,y,hA⟩
  ·rw[hN,hA];exact aD.zero
  ·have:N=y:=by rw[hN,hA];simp
   rw[this];exact st.ae y (by rw[hA];simp)
 have lN:∀i,some i∈N.bl→h.length < i:=by
  rcases lD A with hA| ⟨m,y,hA⟩
  ·intro i hi;rw[hN,hA]at hi;simp[RV.zero,RV.bl,sB]at hi
  ·have:N=y:=by rw[hN,hA];simp
   rw[this];exact st.al y (by rw[hA];simp)
 have hNr:N.ar= (A.map RV.ar).getLastD gJ.zero:=by rw[hN];exact zp A
 have wN:fo N.ar:=by rw[hNr];exact st.w.now
 have hbl:=(Xr.1 st.b).1;by_cases hlt:k < L.length
 case neg=>
  have e3:=gq hlt;have e4:k=L.length:=Om
  have hr:=st.r;rw[e4,Ys]at hr;have TH:bU (L.map EV.ev)= (⟨(L.take L.length).map EV.ev,C.map EV.ev,A.map RV.ar⟩,0,0):=hr;have RZ:=oN.Ir st.b;have gm:=nP (W:=W) (b:=h.length) (V:=N) hbl;refine Rs (A7 t0 t3 t6 t7 t8 oW.sl.aP e3) ?_;rw[←hE];unfold wu fn81;simp only[aj.j,aj.s,aj.r,aj.dr,aj.tl];refine Rs (Cu t0 t3 t6 t7 t8 UA.aP ix @ld @RZ @aF @gm @fU @cX @cY @kR) ?_;exact⟨st.x.iH (XH _),sc,N,C,by rw[TH],oN.sub At,by rw[TH,hNr];rfl,wN,⟨st.c.sub At,fun y hy=>(st.ce y hy).sub At⟩,by rw[TH],Om,lN⟩
 have e3:=fk hlt;have e5:IntKind.i64.wrap ((k:Int)+1)= ((k+1:Nat):Int):=wrapN Om;have ik:=oW.sl.dG (kk:=.i64) hlt;obtain⟨x,hx⟩:∃x,x=L[k]:=⟨_,rfl⟩;have Ru:x∈L:=by rw[hx];exact XJ _
 have lx:∀{kk:ah},Ext W kk→ao (some 5) (cV s 5 k) (fun b=>kk[b]?)=some (.agg x.row,.az):=fun {kk} e=>by rw[hx];exact oW.sl.kB hlt e
 have lx0:∀{kk:ah},Ext W kk→ao none (lh s 5 k 0) (fun b=>kk[b]?)=some (.i x.ev.num,.az):=fun {kk} e=>oW.sl.pG hlt (by rw[←hx];rfl) e
 have lx1:∀{kk:ah},Ext W kk→ao none (lh s 5 k 1) (fun b=>kk[b]?)=some (.str x.ev.kind,.az):=fun {kk} e=>oW.sl.pG hlt (by rw[←hx];rfl) e
 have ox:bo W x:=oW.all x Ru;have hd:L.drop k=x::L.drop (k+1):=by rw[hx];simp
 have QJ: (L.take (k+1)).map EV.ev= (L.take k).map EV.ev++ [x.ev]:=by rw[Ye,Xw hlt,XD,hx];rfl
 have Qs:=st.r;rw[hd,Yr,rD]at Qs;obtain⟨H,hH⟩:∃H:ki,H= ⟨(L.take k).map EV.ev,C.map EV.ev,A.map RV.ar⟩:=⟨_,rfl⟩;rw[←hH]at Qs;have hHe:H.de.length=k:=by rw[hH];simp only[XB,Yq];omega
 have wH:lz H:=by rw[hH];exact st.w
 have hNow:N.ar=H.now:=by rw[hNr,hH];rfl
 have sbz:∀{kk:ah},Ext W kk→aW 7 (.ptr h.length 0) (.agg [AV.i 0,.af,.af,.af,.af,.af,.af]) (fun z=>kk[z]?)=some (aB,.set h.length (.b RV.zero.row)):=fun {kk} e=>(aD.zero (h:=W)).Ir (e.some st.b)
 have fin:∀{W' G:ah} {c:Int},Ext h W'→fG H x.ev=c→c≠0→LZ h (L.map EV.ev) (.dJ [.af,.agg RV.zero.row,.i ((k+1:Nat):Int),.i c]) (W'.set h.length (.b RV.zero.row)++G):=by
  intro W' G c e hb h0;refine AZ h0 ?_ ((e.iH (XH _)).trans ⟨G,rfl⟩);rw[Qs,XI (by rw[hb];exact h0),hb];simp
 have gmz:∀{W' G:ah},h.length < W'.length→ao (some 7) (.ptr h.length 0) (fun z=>(W'.set h.length (.b RV.zero.row)++G)[z]?)=some (.agg RV.zero.row,.az):=fun {W' G} hb=>by
  rw[an (by rw[Xv (by rw[Yd];exact hb)];exact XL hb)];rfl
 have Sz:=(sh.e x Ru);refine Rs (A9 t0 t3 t6 t7 t8 oW.sl.aP e3 @ik @lx) ?_;refine WF.ce T.c39 (r39 T (ox.ext Xx) ⟨Om,Om⟩ (hnl x Ru)) fun g1=>?_
 obtain⟨W1,Ta⟩:∃Z,Z=W++g1:=⟨_,rfl⟩;rw[←Ta];have e1:Ext W W1:=⟨g1,Ta⟩;have lx0:∀{kk:ah},Ext W1 kk→ao none (lh s 5 k 0) (fun b=>kk[b]?)=some (.i x.ev.num,.az):=fun {kk} e=>lx0 (e1.trans e)
 have lx1:∀{kk:ah},Ext W1 kk→ao none (lh s 5 k 1) (fun b=>kk[b]?)=some (.str x.ev.kind,.az):=fun {kk} e=>lx1 (e1.trans e)
 have lx:∀{kk:ah},Ext W1 kk→ao (some 5) (cV s 5 k) (fun b=>kk[b]?)=some (.agg x.row,.az):=fun {kk} e=>lx (e1.trans e)
 have ld:∀{kk:ah},Ext W1 kk→ao (some 7) (cV sa 7 C.length) (fun b=>kk[b]?)=some (.agg N.row,.az):=fun {kk} e=>ld (e1.trans e)
 have sbz:∀{kk:ah},Ext W1 kk→aW 7 (.ptr h.length 0) (.agg [AV.i 0,.af,.af,.af,.af,.af,.af]) (fun z=>kk[z]?)=some (aB,.set h.length (.b RV.zero.row)):=fun {kk} e=>sbz (e1.trans e)
 have Vc:h.length < W1.length:=by have:=e1.len;omega
 have Uu:=fun {G:ah}=>gmz (G:=G) Vc
 have st:=st.ext e1;have stx:=st.x;have d11:decide ((11:Int)=0)=false:=rfl;have d11':decide ((11:Int)≠0)=true:=rfl;have d12:decide ((12:Int)=0)=false:=rfl;have d21:decide ((21:Int)=0)=false:=rfl;have d12':decide ((12:Int)≠0)=true:=rfl;have d21':decide ((21:Int)≠0)=true:=rfl;have d0:decide ((0:Int)=0)=true:=rfl;have d0':decide ((0:Int)≠0)=false:=rfl;by_cases h1:gI x.ev=0
 case neg=>
  have q1:decide (gI x.ev=0)=false:=Xu h1;have q2:decide (gI x.ev≠0)=true:=Xz h1;refine Rs (Cu t0 t3 t6 t7 t8 UA.aP q1 q2 e5 @sbz @fU @cX @cY @kR @Uu) ?_;exact fin stx (by rw[fG,XI h1]) h1
 have q1:decide (gI x.ev=0)=true:=Xz h1;have q1':decide (gI x.ev≠0)=false:=Xu (fun z=>z h1);obtain⟨d,we⟩:=w9 h1;have hkD:=we.oT;have Qu:x.ev.kind=bz d:=cw we.kd;have UO:fG H x.ev=jT H x.ev:=by rw[fG,XG (fun z=>z h1)]
 by_cases h2:x.ev.num= ((k+1:Nat):Int)
 case neg=>
  have q3:decide (x.ev.num≠((k+1:Nat):Int))=true:=Xz h2;refine Rs (Ql t0 t3 t6 t7 t8 UA.aP q1 @ik @lx0 e5 q3 @d11 @d11' @sbz @fU @cX @cY @kR @Uu) ?_;exact fin stx (by rw[UO,jT,XI (by rw[hHe];simpa using h2)]) De
 have q3:decide (x.ev.num≠((k+1:Nat):Int))=false:=Xu (fun z=>z h2);have Sp:¬x.ev.num≠(H.de.length:Int)+1:=by rw[hHe];simpa using h2
 by_cases hu:d= .e8
 case pos=>
  have hK:oT x.ev= .e8:=by rw[hkD,hu]
  have q4:decide (bz d= [117,110,100,111])=true:=by rw[nL,hu];rfl
  rcases lD C with hC| ⟨M,c,hC⟩
  ·have q5:decide ((C.length:Int)=0)=true:=by rw[hC];rfl
   refine Rs (PS t0 t3 t6 t7 t8 UA.aP q1 @ik @lx0 @lx1 e5 q3 @Qu q4 q5 @d12 @d12' @sbz @fU @cX @cY @kR @Uu) ?_;refine fin (c:=12) stx ?_ De;rw[UO,jT,XG Sp,XI hK,hH,hC];rfl
  ·have hCl2:C.length=M.length+1:=by rw[hC];simp
   have q5:decide ((C.length:Int)=0)=false:=Xu Om;have w1:IntKind.i64.wrap ((C.length:Int) - 1)= (M.length:Int):=by rw[bp Om Om];omega
   have hMl:M.length < C.length:=Om
   have hcM:C[M.length]=c:=by simp[hC]
   have ic:aZ 5 sc (.i (M.length:Int))=some (cV sc 5 M.length,.az):=UA.dG hMl;have lc:∀{kk:ah},Ext W1 kk→ao none (lh sc 5 M.length 1) (fun b=>kk[b]?)=some (.str c.ev.kind,.az):=fun {kk} e=>UA.pG hMl (by rw[hcM];rfl) (e1.trans e)
   obtain⟨dc,wc⟩:=st.w.cn c.ev (XZ (by rw[hC];simp));have hkc:c.ev.kind=bz dc:=cw wc.kd;have hlast:H.fc.getLast? =some c.ev:=by rw[hH,hC];simp
   by_cases hr:dc= .rel
   ·have q6:decide (bz dc= [114,101,108,101,97,115,101])=true:=by rw[qb,hr];rfl
    repeat (first| simp (config:={ maxSteps:=1000000 }) only[aV,bd,bD,bE,reduceAdd,reduceMul,reduceLeDiff,reduceEqDiff,bF,hlen,XO,XR,t0,t3,t6,t7,t8,UA.aP,q1,ik,lx0,lx1,e5,q3,Qu,q4,q5,w1,ic,lc,hkc,q6,d21,d21',sbz,fU,cX,cY,kR,Uu]| simp (config:={ maxSteps:=1000000 }) (disch:=first| (simp only[Xs,Xy,XA]<;>omega)| rfl| omega| fail) only[fM,aV,bd,bD,bE,reduceAdd,reduceMul,reduceLeDiff,reduceEqDiff,bF,hlen,XO,XR,t0,t3,t6,t7,t8,UA.aP,q1,ik,lx0,lx1,e5,q3,Qu,q4,q5,w1,ic,lc,hkc,q6,d21,d21',sbz,fU,cX,cY,kR,Uu])
    refine fin (c:=21) stx ?_ De;rw[UO,jT,XG Sp,XI hK,hlast];simp only[wc.oT,hr,XR]
   ·have q6:decide (bz dc= [114,101,108,101,97,115,101])=false:=by rw[qb];exact Xu hr
    have Rx:fG H x.ev=0:=by
     rw[UO,jT,XG Sp,XI hK,hlast];simp only[wc.oT,hr,XO]
    obtain⟨QR,ec,hsc⟩:=st.c.Fc (lo:=none) (hi:=some (.i (M.length:Int))) (jw Om);obtain⟨sa',ea,hsa⟩:=st.a.Fc (lo:=none) (hi:=some (.i (C.length:Int))) (jw (by simp;omega));refine Rs (L5 t0 t3 t6 t7 t8 UA.aP q1 @ik @lx0 @lx1 e5 q3 @Qu q4 q5 @w1 @ic @lc @hkc q6 @ec @ea) ?_;rcases lD A with hA| ⟨D,R,hA⟩
    ·rw[hA]at hAC;simp only[XA]at hAC;omega
    have hCM:List.take (M.length - 0) (List.drop 0 C)=M:=by rw[hC];simp
    have hDl:D.length=M.length:=by have:=hAC;rw[hA]at this;simp only[Xs,XV]at this;omega
    have hAD:List.take (C.length - 0) (List.drop 0 (RV.zero::A))=RV.zero::D:=by
     rw[hCl2,hA,Nat.sub_zero,YO,Zo,←hDl];simp
    rw[hCM]at hsc;rw[hAD]at hsa;have S9:mT H x.ev= ⟨(L.take (k+1)).map EV.ev,M.map EV.ev,D.map RV.ar⟩:=by
     rw[mT,XI hK,hH,QJ,hC,hA];simp
    refine⟨_,Om,k+1,M,D,QR,sa',Om,rfl,⟨stx,st.b,hsc,fun y hy=>st.ce y (by rw[hC];simp[hy]),hsa,fun y hy=>st.ae y (by rw[hA];simp[hy]),fun y hy=>st.al y (by rw[hA];simp[hy]),?_,?_⟩,rfl,rfl,rfl⟩
    ·rw[←S9];exact wH.add Rx
    ·rw[Qs,XG (fun z=>z Rx),S9]
 case neg=>
 have hK:oT x.ev≠.e8:=by rw[hkD];exact hu
 have q4:decide (bz d= [117,110,100,111])=false:=by rw[nL];exact Xu hu
 have hacs:fG H x.ev=je N.ar x.ev d:=by rw[UO,jT,XG Sp,XG hK,hkD,←hNow]
 refine Rs (IC t0 t3 t6 t7 t8 UA.aP q1 @ik @lx0 @lx1 @lx e5 q3 @Qu q4 ix @ld) ?_;have ox1:=ox.ext e1;have oN1:aD W1 N:=(oN.sub (jg.fy _ _)).ext e1;refine WF.res T.c129 (r129 T (d:=d) (oN1.ext Xx) wN (ox1.ext Xx) we hu) ?_;rintro _ g2 ⟨V',rfl,Wp,Vn⟩;obtain⟨W2,Q0⟩:∃Z,Z=W1++ [aq.b [AV.i 0,.af,.af,.af,.af,.af,.af]]++g2:=⟨_,rfl⟩;rw[←Q0]at Wp ⊢;have e2:Ext W1 W2:=by rw[Q0,Xt];exact⟨_,rfl⟩
 have m2:W2[W1.length]? =some (.b km):=by
  rw[Q0];exact(show Ext (W1++ [aq.b km]) _ from⟨g2,rfl⟩).some bf
 have hl2:W1.length < W2.length:=(Xr.1 m2).1;have sbn:=Wp.Ir m2;obtain⟨W3,QI⟩:∃Z,Z=W2.set W1.length (.b V'.row):=⟨_,rfl⟩;have e3':Ext W1 W3:=by rw[QI];exact e2.iH (XH _)
 have x3:Ext h W3:=stx.trans e3';have m3:W3[W1.length]? =some (.b V'.row):=by rw[QI];exact XL hl2
 have WZ:W3.length=W2.length:=by rw[QI,Yd]
 have k3:∀i,i≠W1.length→W3[i]? =W2[i]? :=fun i hi=>by rw[QI,XK (YP hi)]
 have sbz3:=sbz e3';have gmz3:ao (some 7) (.ptr h.length 0) (fun z=>(W3.set h.length (.b RV.zero.row))[z]?)=some (.agg RV.zero.row,.az):=nP Om;have nj:=st.ext e3';by_cases h5:je N.ar x.ev d=0
 case neg=>
  have q5:decide (je N.ar x.ev d≠0)=true:=Xz h5;have ef:=fin (W':=W3) (G:=[]) x3 hacs h5;rw[XU]at ef;rw[QI]at sbz3 gmz3 ef;refine Rs (zU t0 t3 t6 t7 t8 @sbn q5 e5 @sbz3 @fU @cX @cY @kR @gmz3) ?_;exact ef
 have q5:decide (je N.ar x.ev d≠0)=false:=Xu (fun z=>z h5);have Rx:fG H x.ev=0:=by rw[hacs,h5]
 obtain⟨hVr,hVb⟩:=Vn h5;have hVb:∀i,some i∈V'.bl→W1.length < i:=fun i hi=>by have:=hVb i hi;simp only[Xs,XV]at this;omega
 refine Rs (A7 t0 t3 t6 t7 t8 @sbn q5) ?_;rw[←QI];have stc3:=nj.c.sub (jg.fy _ _);refine WR.pX (N:=W3.length) (w:=88) bf (XH _) (stc3.ext Xx) (by rw[XB];omega) fun a1 y1 f1=>?_
 have p1:=f1.a8.one;obtain⟨Y,hY⟩:∃Z,Z=W3++ [aq.b []]++y1:=⟨_,rfl⟩;rw[←hY]at f1 ⊢;have eY:Ext W3 Y:=by rw[hY,Xt];exact⟨_,rfl⟩
 have lxY:∀{kk:ah},Ext Y kk→ao (some 5) (cV s 5 k) (fun b=>kk[b]?)=some (.agg x.row,.az):=fun {kk} e=>lx ((e3'.trans eY).trans e)
 have bs:=@bo.FT _ _ ox;refine Rs (A9 t0 t3 t6 t7 t8 @ik @lxY @bs @p1) ?_;refine WR.pY (B:=W3) (cs:=C.map EV.row) f1 rfl eY De (by rw[XB];omega) ?_;intro W4 s4 x4 hf4 hn4 q4' l4 hk4;have hrow:C.map EV.row++ [x.row]= (C++ [x]).map EV.row:=by rw[XD];rfl
 rw[hrow]at hf4;have st4:=nj.ext x4;have sta4:=st4.a.sub (jg.fy _ _);refine Rs (A5 t0 t3 t6 t7 t8) ?_;refine WR.pX (N:=W4.length) (w:=152) bf (XH _) (sta4.ext Xx) (by simp only[XB,Xy];omega) fun a2 y2 f2=>?_
 have p2:=f2.a8.one;obtain⟨Y2,SL⟩:∃Z,Z=W4++ [aq.b []]++y2:=⟨_,rfl⟩;rw[←SL]at f2 ⊢;have Te:Ext W4 Y2:=by rw[SL,Xt];exact⟨_,rfl⟩
 have lnx:∀{kk n a},Ext Y2 kk→ao n (.ptr W1.length a) (fun z=>kk[z]?)=cp n a (.b V'.row):=fun {_ _ _} e=>an (((x4.trans Te).trans e).some m3)
 have bv:=@aD.FT _ _ Wp;refine Rs (A9 t0 t3 t6 t7 t8 @lnx @aF @bv @p2) ?_;refine WR.pY (B:=W4) (cs:=(RV.zero::A).map RV.row) f2 rfl Te De (by simp only[XB,Xy];omega) ?_;intro W5 s5 x5 Xf hn5 q5' l5 hk5;have hrow2: (RV.zero::A).map RV.row++ [V'.row]= (RV.zero:: (A++ [V'])).map RV.row:=Si
 rw[hrow2]at Xf;have st5:=st4.ext x5;have oV5:aD W5 V':=((Wp.az fun i hi=>k3 i (by have:=hVb i hi;omega)).ext x4).ext x5;have S9:mT H x.ev= ⟨(L.take (k+1)).map EV.ev,(C++ [x]).map EV.ev,(A++ [V']).map RV.ar⟩:=by
  rw[mT,XG hK,hkD,hH,QJ];simp only[XD,Yr,Zf,hVr];rw[←hNow,hH]at *
  first| rfl| simp[hNr,ki.now]
 have hlW3:h.length < W3.length:=Om
 have hl4:W3.length≤W4.length:=x4.len;refine Rs (A6 t0 t3 t6 t7 t8 e5) ?_;refine⟨_,Om,k+1,C++ [x],A++ [V'],s4,s5,Om,rfl,⟨x3.trans (x4.trans x5),st5.b,(hf4.ext x5).a8.fy fun b hb z=>?_,fun y hy=>?_,Xf.a8.fy fun b hb z=>?_,fun R hR=>?_,fun R hR=>?_,?_,?_⟩,rfl,rfl,rfl⟩
 ·have:=(hf4.bN hb).1;exact LJ
 ·rcases XC.1 hy with hy| hy
  ·exact st5.ce y hy
  ·rw[XT]at hy;rw[hy];exact(o.all x Ru).sub (JE (x3.trans (x4.trans x5)))
 ·have:=(Xf.bN hb).1;exact LJ
 ·rcases XC.1 hR with hR| hR
  ·exact st5.ae R hR
  ·rw[XT]at hR;rw[hR];exact oV5.fy fun i hi z=>by
    have:=hVb i hi;exact LJ
 ·rcases XC.1 hR with hR| hR
  ·exact st5.al R hR
  ·rw[XT]at hR;rw[hR];intro i hi;have:=hVb i hi;omega
 ·rw[←S9];exact wH.add Rx
 ·rw[Qs,XG (fun z=>z Rx),S9]
theorem r81{L s}(o:fH h L s)(sh:Aa L)(hnl:∀x∈L,∀n∈x.ev.names,n.length < 2^63):aA P 81 [s] h (PQ h.length (L.map EV.ev)):=by
 refine .of T.mix (Z6 T.c81 (X6 some MQ)) ?_;obtain⟨ts,Qn⟩:∃ts,ts=aT 110 [s]:=⟨_,rfl⟩;have hlen:ts.length=110:=by rw[Qn];rfl
 have t0:slot ts 0=s:=by rw[Qn];rfl
 show WC P bR (.seq (Dh 0) (wu 1)) [] (aT 110 [s]) h (FQ [(2,none),(3,some (some 7)),(4,none),(5,none)] (LZ h (L.map EV.ev)));rw[←Qn];clear Qn;have hsl:=sh.l;by_cases h1:1000 < L.length
 ·have q1:decide ((1000:Int)< (L.length:Int))=true:=Xz Om;have e:bU (L.map EV.ev)= (ki.zero,0,5):=by rw[bU,XI (by simpa using h1)]
  have m0: (h++ [aq.b km])[h.length]? =some (.b km):=bf;have sbz:aW 7 (.ptr h.length 0) (.agg [AV.i 0,.af,.af,.af,.af,.af,.af]) (fun z=>(h++ [aq.b km])[z]?)=some (aB,.set h.length (.b RV.zero.row)):=(aD.zero (h:=h)).Ir m0;unfold km at sbz;have gmz:ao (some 7) (.ptr h.length 0) (fun z=>(h++ [aq.b RV.zero.row])[z]?)=some (.agg RV.zero.row,.az):=by rw[an bf];rfl
  unfold wu Dh fn81;simp only[aj.j,aj.s,aj.r,aj.dr,aj.tl,aj.hd];refine Rs (A9 t0 o.sl.aP q1 @sbz @fU @cX @cY @kR @gmz) ?_;exact AZ De e Xx
 have q1:decide ((1000:Int)< (L.length:Int))=false:=Xu Om;rw[MP,MO,MN];generalize hR:wu 4=R;unfold Dh fn81;simp only[aj.j,aj.s,aj.r,aj.dr,aj.tl,aj.hd];refine Rs (A3 t0 o.sl.aP q1) ?_;rw[←hR];have hx:Ext h (h++ [aq.b km]++ [aq.cells RV.zero.row true true]):=Xx;have fz:Fr (h.length+1) (h++ [aq.b km]++ [aq.cells RV.zero.row true true]) (.slice (h.length+1) 0 1 7) 7 [RV.zero.row]:=by
  have:=Fr.push (h:=h++ [aq.b km]) (N:=h.length+1) (es:=7) Si [RV.zero.row] (fun x hx=>by rw[XT]at hx;rw[hx];rfl)
  simpa using this
 refine Dg T (sa:=.slice (h.length+1) 0 1 7) (W:=h++ [aq.b km]++ [aq.cells RV.zero.row true true]) o sh hnl Om ⟨hx,Si,.nil,(fun _ h=>by cases h),fz.a8.fy fun b hb z=>?_,(fun _ h=>by cases h),(fun _ h=>by cases h),lz.zero,?_⟩ Sn (Sq t0) Sw Sw (by simp only[aV,bd,bD,bE,reduceAdd,reduceMul,reduceLeDiff,reduceEqDiff,bF,hlen,XO,XR];simp)
 ·have:=(fz.bN hb).1;exact LJ
 ·rw[bU,XG (by simpa using h1)];rfl
end
structure PR(L:List EV):Prop where
 n:∀x∈L,∀n∈x.ev.names,n.length < 2^63
section
variable {P:Program} (T:fA P) {h:ah}
include T
theorem r18{L s}(o:fH h L s)(sh:Aa L)(nl:PR L):aA P 18 [s] h (fun v k=>∃V:RV,v= .dJ [.agg V.row,.i (bU (L.map EV.ev)).2.1,.i (bU (L.map EV.ev)).2.2]∧aD k V∧V.ar= (bU (L.map EV.ev)).1.now∧fo V.ar∧∀i,some i∈V.bl→h.length < i):=by
 refine .kE 19 T.mix T.c18 ?_;intro ts hlen t0;unfold fn18;refine Rs t0 ?_;refine WF.res T.c81 (r81 T (o.ext Xx) sh nl.n) ?_;rintro _ g ⟨sc,V,C,rfl,oV,hV,wV,oC,hC,hCl,lo⟩;have lo:∀i,some i∈V.bl→h.length+1 < i:=fun i hi=>by have:=lo i hi;simpa using this
 have st:=@aD.st _ _ oV;refine Rs (A3 t0 @st @aF) ?_;refine⟨V,rfl,?_,hV,wV,fun i hi=>by have:=lo i hi;omega⟩;have:=oV.az (k:=h++ [aq.b V.row]++g) fun j hj=>yp (by have:=lo j hj;omega)
 exact this.ext Xx
end
def xY(e:gy):Bool:=decide (e.kind.length≤40) && decide (e.names.length≤6) && decide (e.cC.length≤8) && decide (e.text.length≤200) && e.names.all fun x=>decide (x.length≤40)
section
variable {P:Program} (T:fA P) {h:ah}
include T
theorem r14{L s}(o:fH h L s)(hl:L.length < 2^63)(hn:∀x∈L,x.ev.names.length < 2^63){n}(h0:n≤1000):aA P 14 [s,.i n] h (fun v _=>v= .bool (mC (L.map EV.ev) n)):=by
 refine .eF 71 T.mix T.c14 ?_;intro ts hlen t0 t1;unfold fn14;by_cases h1:n < L.length
 ·have q1:decide (n < (L.length:Int))=true:=Xz h1;refine Rs (A4 t0 t1 o.sl.aP q1) ?_;rw[mC,Xu (by simpa using h1)];rfl
 have q1:decide (n < (L.length:Int))=false:=Xu h1;have hsh:mC (L.map EV.ev) n=L.all (fun y=>xY y.ev):=by
  rw[mC,Xz (by simp;omega),YZ,List.all_map];rfl
 rw[hsh];refine Rs (A4 t0 t1 o.sl.aP q1) ?_;refine WL.inv T.mix (fun m ts h'=>∃k:Nat,k≤L.length∧m=L.length - k∧h' =h∧L.all (fun y=>xY y.ev)= (L.drop k).all (fun y=>xY y.ev)∧ts.length=71∧slot ts 0=s∧slot ts 5= .i k) L.length
  ⟨0,Om,rfl,rfl,rfl,Sn,(Sq t0),iF⟩ ?_
 clear t0 t1 hlen;rintro _ ts h' ⟨k,hk,rfl,rfl,hi,hlen,t0,t5⟩;by_cases hlt:k < L.length
 case neg=>
  have e3:=gq hlt;have e4:k=L.length:=Om
  rw[e4,Ys]at hi;refine Rs (A4 t0 t5 o.sl.aP e3) ?_;rw[hi];rfl
 have e3:=fk hlt;have e5:IntKind.i64.wrap ((k:Int)+1)= ((k+1:Nat):Int):=wrapN Om;have ik:=o.sl.dG (kk:=.i64) hlt;obtain⟨x,hx⟩:∃x,x=L[k]:=⟨_,rfl⟩;have Ru:x∈L:=by rw[hx];exact XJ _
 have ox:=o.all x Ru;have hd:L.drop k=x::L.drop (k+1):=by rw[hx];simp
 rw[hd,YY]at hi;have l1:∀{kk:ah},Ext h' kk→ao none (lh s 5 k 1) (fun b=>kk[b]?)=some (.str x.ev.kind,.az):=fun {kk} e=>o.sl.pG hlt (by rw[←hx];rfl) e
 have l2:∀{kk:ah},Ext h' kk→ao none (lh s 5 k 2) (fun b=>kk[b]?)=some (x.sn,.az):=fun {kk} e=>o.sl.pG hlt (by rw[←hx];rfl) e
 have l3:∀{kk:ah},Ext h' kk→ao none (lh s 5 k 3) (fun b=>kk[b]?)=some (x.sv,.az):=fun {kk} e=>o.sl.pG hlt (by rw[←hx];rfl) e
 have l4:∀{kk:ah},Ext h' kk→ao none (lh s 5 k 4) (fun b=>kk[b]?)=some (.str x.ev.text,.az):=fun {kk} e=>o.sl.pG hlt (by rw[←hx];rfl) e
 have dc:∀a b:Nat,decide ((b:Int)< (a:Int))= !decide (a≤b):=fun a b=>by
  by_cases hc:a≤b
  ·rw[Xz hc,Xu Om];rfl
  ·rw[Xu hc,Xz Om];rfl
 have c1:decide ((40:Int)< (x.ev.kind.length:Int))= !decide (x.ev.kind.length≤40):=dc _ 40;have c2:decide ((6:Int)< (x.ev.names.length:Int))= !decide (x.ev.names.length≤6):=dc _ 6;have c3:decide ((8:Int)< (x.ev.cC.length:Int))= !decide (x.ev.cC.length≤8):=dc _ 8;have c4:decide ((200:Int)< (x.ev.text.length:Int))= !decide (x.ev.text.length≤200):=dc _ 200;have bad:xY x.ev=false→L.all (fun y=>xY y.ev)=false:=fun hb=>by rw[hi,hb];rfl
 by_cases b1:x.ev.kind.length≤40
 case neg=>
  have d1:decide (x.ev.kind.length≤40)=false:=Xu b1;refine Rs (A9 t0 t5 o.sl.aP e3 @ik @l1 @c1 @d1 @XY) ?_;rw[bad (by simp only[xY,d1,ZL])]
 have d1:decide (x.ev.kind.length≤40)=true:=Xz b1;by_cases b2:x.ev.names.length≤6
 case neg=>
  have d2:decide (x.ev.names.length≤6)=false:=Xu b2;refine Rs (zU t0 t5 o.sl.aP e3 @ik @l1 @l2 @c1 @d1 @c2 @d2 ox.n.aP @XY @XW) ?_;rw[bad (by simp only[xY,d2,Bool.and_false,ZL])]
 have d2:decide (x.ev.names.length≤6)=true:=Xz b2;by_cases b3:x.ev.cC.length≤8
 case neg=>
  have d3:decide (x.ev.cC.length≤8)=false:=Xu b3;refine Rs (F0 t0 t5 o.sl.aP e3 @ik @l1 @l2 @l3 @c1 @d1 @c2 @d2 @c3 @d3 ox.n.aP ox.v.aP @XY @XW) ?_;rw[bad (by simp only[xY,d3,Bool.and_false,ZL])]
 have d3:decide (x.ev.cC.length≤8)=true:=Xz b3;by_cases b4:x.ev.text.length≤200
 case neg=>
  have d4:decide (x.ev.text.length≤200)=false:=Xu b4;refine Rs (PT t0 t5 o.sl.aP e3 @ik @l1 @l2 @l3 @l4 @c1 @d1 @c2 @d2 @c3 @d3 @c4 @d4 ox.n.aP ox.v.aP @XY @XW) ?_;rw[bad (by simp only[xY,d4,Bool.and_false,ZL])]
 have d4:decide (x.ev.text.length≤200)=true:=Xz b4;have WH:xY x.ev=x.ev.names.all fun z=>decide (z.length≤40):=by simp only[xY,d1,d2,d3,d4,YZ]
 rw[WH]at hi bad;refine Rs (O4 t0 t5 o.sl.aP e3 @ik @l1 @l2 @l3 @l4 @c1 @d1 @c2 @d2 @c3 @d3 @c4 @d4 ox.n.aP ox.v.aP @XW) ?_;refine WL.inv T.mix (fun m ts h1=>∃j:Nat,j≤x.ev.names.length∧m=x.ev.names.length - j∧h1=h'∧(x.ev.names.all fun z=>decide (z.length≤40))= (x.ev.names.drop j).all (fun z=>decide (z.length≤40))∧ts.length=71∧slot ts 0=s∧slot ts 5= .i k∧slot ts 6= .i j) x.ev.names.length
  ⟨0,Om,rfl,rfl,rfl,Sn,(Sq t0),(Sq t5),iF⟩ ?_
 clear t0 t5 hlen;rintro _ ts h1 ⟨j,hj,rfl,rfl,hij,hlen,t0,t5,t6⟩;by_cases SC:j < x.ev.names.length
 ·have f3:decide ((j:Int)< x.ev.names.length)=true:=Xz Om;have f5:IntKind.i64.wrap ((j:Int)+1)= ((j+1:Nat):Int):=wrapN Om;have ij:=ox.n.dG (kk:=.i64) SC;have ln:=ox.n.kO (i:=j) (x:=.str x.ev.names[j]) SC rfl (Ext.refl _);have c5:decide ((40:Int)< (x.ev.names[j].length:Int))= !decide (x.ev.names[j].length≤40):=dc _ 40;have S2:x.ev.names.drop j=x.ev.names[j]::x.ev.names.drop (j+1):=Si
  rw[S2,YY]at hij;cases hz:decide (x.ev.names[j].length≤40)with
  | true=>
   rw[hz,YZ]at hij
   repeat (first| simp (config:={ maxSteps:=1000000 }) only[aV,bd,bD,bE,reduceAdd,reduceMul,reduceLeDiff,reduceEqDiff,bF,hlen,XO,XR,t0,t5,t6,ik,l2,ox.n.aP,f3,ij,ln,c5,hz,XW,f5]| simp (config:={ maxSteps:=1000000 }) (disch:=first| (simp only[Xs,Xy,XA]<;>omega)| rfl| omega| fail) only[fM,aV,bd,bD,bE,reduceAdd,reduceMul,reduceLeDiff,reduceEqDiff,bF,hlen,XO,XR,t0,t5,t6,ik,l2,ox.n.aP,f3,ij,ln,c5,hz,XW,f5])
   exact⟨_,Om,j+1,Om,rfl,hij,rfl⟩
  | false=>
   rw[hz,ZL]at hij
   repeat (first| simp (config:={ maxSteps:=1000000 }) only[aV,bd,bD,bE,reduceAdd,reduceMul,reduceLeDiff,reduceEqDiff,bF,hlen,XO,XR,t0,t5,t6,ik,l2,ox.n.aP,f3,ij,ln,c5,hz,XY]| simp (config:={ maxSteps:=1000000 }) (disch:=first| (simp only[Xs,Xy,XA]<;>omega)| rfl| omega| fail) only[fM,aV,bd,bD,bE,reduceAdd,reduceMul,reduceLeDiff,reduceEqDiff,bF,hlen,XO,XR,t0,t5,t6,ik,l2,ox.n.aP,f3,ij,ln,c5,hz,XY])
   rw[bad hij]
 ·have f3:decide ((j:Int)< x.ev.names.length)=false:=Xu Om;have f4:j=x.ev.names.length:=Om
  rw[f4,Ys]at hij;rw[hij,List.all_nil,YZ]at hi;refine Rs (A8 t0 t5 t6 @ik @l2 ox.n.aP @f3 e5) ?_;exact⟨_,Om,k+1,Om,rfl,hi,rfl⟩
end
theorem p8{α:Type}{row:α→List AV}{Q:α→Prop}:∀{cs:List (List AV)},(∀c∈cs,∃x,c=row x∧Q x)→∃L:List α,cs=L.map row∧∀x∈L,Q x
 | [],_=>⟨[],rfl,fun _ h=>by cases h⟩
 | c::cs,h=>by
  obtain⟨x,rfl,hx⟩:=h c (Yn ..);obtain⟨L,rfl,hL⟩:=p8 (cs:=cs) fun c hc=>h c (Yb _ hc)
  exact⟨x::L,rfl,fun y hy=>(X9.1 hy).elim (fun e=>e▸hx) (hL y)⟩
def iU{n}(h:n≤maxLen):n < 2^63:=by unfold maxLen at h;omega
def vY{h k a}(x:TY h (.int k) a):∃z,a= .int k z∧(Lit.int k z).wf=true:=by rw[TY]at x;exact x
def th{h a}(x:TY h .str a):∃s:By,a= .str s∧s.length≤maxLen:=by rw[TY]at x;exact x
def An{h r a}(x:TY h (.sl r) a):∃cs:List (List AV),aK h a r.length cs∧cs.length≤maxLen∧∀c∈cs,iR h r c:=by rw[TY]at x;exact x
def tg{h l}(x:iR h [] l):l= []:=by rw[iR]at x;exact x
def iX{h t ts l}(x:iR h (t::ts) l):∃a l',l=a::l'∧TY h t a∧iR h ts l':=by rw[iR]at x;exact x
def Am{h l}(x:rN h [] l):l= []:=by rw[rN]at x;exact x
def oI{h t ts l}(x:rN h (t::ts) l):∃a l',l=a::l'∧E6 h t a∧rN h ts l':=by rw[rN]at x;exact x
def CB{h k a}(x:E6 h (.one (.int k)) a):∃z,a= .int k z∧(Lit.int k z).wf=true:=vY (h:=h) x
def CA{h a}(x:E6 h (.one .str) a):∃s:By,a= .str s∧s.length≤maxLen:=th (h:=h) x
def CD{h:ah}{a:AV}(x:TY h (.sl [.str]) a):∃L:List (By),aK h a 1 (L.map au)∧L.length≤maxLen∧∀s∈L,s.length≤maxLen:=by
 obtain⟨cs,hs,hl,hc⟩:=An x;obtain⟨L,rfl,hL⟩:=p8 (row:=au) (Q:=fun s=>s.length≤maxLen) fun c UN=>by
  obtain⟨_,_,rfl,h1,x⟩:=iX (hc c UN);obtain rfl:=tg x;obtain⟨s,rfl,hs⟩:=th h1;exact⟨s,rfl,hs⟩
 exact⟨L,hs,by simpa using hl,hL⟩
def CE{h:ah}{a:AV}(x:TY h (.sl [.int .i64]) a):∃L:List Int,aK h a 1 (L.map aL)∧L.length≤maxLen∧∀z∈L,(Lit.int .i64 z).wf=true:=by
 obtain⟨cs,hs,hl,hc⟩:=An x;obtain⟨L,rfl,hL⟩:=p8 (row:=aL) (Q:=fun z=>(Lit.int .i64 z).wf=true) fun c UN=>by
  obtain⟨_,_,rfl,h1,x⟩:=iX (hc c UN);obtain rfl:=tg x;obtain⟨s,rfl,hs⟩:=vY h1;exact⟨s,rfl,hs⟩
 exact⟨L,hs,by simpa using hl,hL⟩
def DZ:List CT:=[.int .i64,.str,.sl [.str],.sl [.int .i64],.str]
structure Ij(x:EV):Prop where
 n:x.ev.names.length < 2^63
 v:x.ev.cC.length < 2^63
 nn:∀n∈x.ev.names,n.length < 2^63
 i: (Lit.int .i64 x.ev.num).wf=true
 k:x.ev.kind.length < 2^63
 t:x.ev.text.length < 2^63
 iv:∀z∈x.ev.cC,(Lit.int .i64 z).wf=true
def Gg{h c}(x:iR h DZ c):∃y:EV,c=y.row∧bo h y∧Ij y:=by
 obtain⟨_,_,rfl,h1,x⟩:=iX x;obtain⟨_,_,rfl,h2,x⟩:=iX x;obtain⟨sn,_,rfl,h3,x⟩:=iX x;obtain⟨sv,_,rfl,h4,x⟩:=iX x;obtain⟨_,_,rfl,h5,x⟩:=iX x;obtain rfl:=tg x;obtain⟨n,rfl,hn⟩:=vY h1;obtain⟨k,rfl,hk⟩:=th h2;obtain⟨N,hN,hNl,hNs⟩:=CD h3;obtain⟨W,hW,hWl,hWs⟩:=CE h4;obtain⟨t,rfl,ht⟩:=th h5;exact⟨⟨⟨n,k,N,W,t⟩,sn,sv⟩,rfl,⟨hN,hW⟩,⟨iU hNl,iU hWl,fun s hs=>iU (hNs s hs),hn,iU hk,iU ht,hWs⟩⟩
structure FX(L:List EV):Prop where
 l:L.length < 2^63
 e:∀x∈L,Ij x
def CC{h:ah}{a:AV}(x:E6 h (.one (.sl DZ)) a):∃L:List EV,fH h L a∧FX L:=by
 obtain⟨cs,hs,hl,hc⟩:=An (h:=h) x;obtain⟨L,rfl,hL⟩:=p8 (row:=EV.row) (Q:=fun y=>bo h y∧Ij y) fun c UN=>Gg (hc c UN)
 exact⟨L,⟨hs,fun y hy=>(hL y hy).1⟩,⟨iU (by simpa using hl),fun y hy=>(hL y hy).2⟩⟩
def Au{L n}(h:mC (L.map EV.ev) n=true)(hn:n≤1000):Aa L∧PR L∧L.length≤1000∧∀x∈L,xY x.ev=true:=by
 rw[mC,X4,Yg,XB]at h;have ha:∀x∈L,xY x.ev=true:=fun x hx=>X5.1 h.2 _ (XZ hx)
 have key:∀x∈L,x.ev.names.length≤6∧x.ev.cC.length≤8∧∀n∈x.ev.names,n.length≤40:=fun x hx=>by
  have:=ha x hx;simp only[xY,X4,Yg,X5]at this;exact⟨this.1.1.1.2,this.1.1.2,this.2⟩
 refine⟨⟨Om,fun x hx=>?_⟩,⟨fun x hx n hn=>?_⟩,Om,ha⟩
 ·have:=key x hx;omega
 ·have:=(key x hx).2.2 n hn;omega
def DP{α:Type}{f:α→By}{n:By}{L:List α}:decide (cS (fun x=>decide (f x=n)) L < 0)= !decide (n∈L.map f):=by
 rw[←eZ];by_cases h:0≤cS (fun x=>decide (f x=n)) L
 ·rw[Xz h,Xu Om];rfl
 ·rw[Xu h,Xz Om];rfl
def Kf(V:RV)(n:By):decide (cS (fun y:jh×AV=>decide (y.1.name=n)) V.ak < 0)= !dD V.ar 2 n:=by
 rw[DP (f:=fun y:jh×AV=>y.1.name),←gf];rfl
def Gc(a b c:Int):bX (decide (bh a b c≠0)) 3=bh a b c:=by
 by_cases h:bh a b c=0
 ·rw[Xu (fun z=>z h),h];rfl
 ·rw[Xz h,tu h];rfl
def zb(l:List gy)(t:Nat)(n:By)(r:List Int):aX ((bU l).2.2::bX (!dD (bU l).1.now t n) 10::r)=aX ((gE l t n).2::r):=by
 unfold gE;by_cases h: (bU l).2.2=0
 ·rw[XG (fun z=>z h),aX,XI h]
 ·rw[XI h,aX,XG h,aX,XG h]
def Dr{l t n}(h: (gE l t n).2=0): (gE l t n).1= (bU l).1.now∧dD (bU l).1.now t n=true:=by
 unfold gE at h ⊢;by_cases h1: (bU l).2.2=0
 ·rw[XG (fun z=>z h1)]at h ⊢;refine⟨rfl,?_⟩;cases hc:dD (bU l).1.now t n with
  | true=>rfl
  | false=>simp only[hc]at h;exact absurd h De
 ·rw[XI h1]at h;exact absurd h h1
def yV(k:Nat):aj:=(fn3).body.dr k
def qz(k:Nat):aj:=((fn3).body.dr k).hd
def ME:yV 9= .seq (qz 9) (yV 10):=rfl
def JO:yV 10= .seq (qz 10) (yV 11):=rfl
def MF:fn3= ⟨101,3,[(6,none)],.seq (qz 0) (.seq (qz 1) (.seq (qz 2) (.seq (qz 3) (.seq (qz 4) (.seq (qz 5) (.seq (qz 6) (.seq (qz 7) (.seq (qz 8) (yV 9)))))))))⟩:=rfl
def yR{R t}(w:fo R): (eX R t).length≤64:=by
 have h1: (eX R t).length≤R.ak.length:=by rw[eX,XB];exact Ya _ _
 have:=w.l2;omega
section
variable {P:Program} (T:fA P) {h:ah}
include T
theorem r19(c:Bool)(e:Int):aA P 19 [.bool c,.i e] h (fun v _=>v= .i (bX c e)):=by
 refine .eF 8 T.mix T.c19 ?_;intro ts hlen t0 t1;unfold fn19 yT;refine Rs (A2 t0 t1) ?_;refine WF.ce T.c82 (r82 T _ _) fun g=>?_
 exact Rs (A2 t0 t1) Tv
theorem r21{s l}(hs:aK h s 1 (l.map aL))(hl:l.length < 2^40):aA P 21 [s] h (fun v _=>v= .i (aX l)):=by
 refine .kE 5 T.mix T.c21 ?_;intro ts hlen t0;unfold fn21;refine Rs t0 ?_;refine WF.ce T.c83 (r83 T hs Om) fun g=>?_
 exact Rs t0 Tv
def L0(h:ah):AV→ah→Prop:=fun v k=>Ext h k∧v= .bool true
theorem Aw(ha:∀k,Ext h k→aA P 15 [] k (fun v _=>v= .bool true)){K:ah}{ts:TS}{b:Bool}{one two:Int}{u w:AV}{X:List (By)}(eK:Ext h K)(hu:aK K u 1 (X.map au))(hw:aK K w 1 (X.map au))(hX:X.length < 2^40)(hlen:ts.length=101)
  (t7:slot ts 7= .bool b) (t8:slot ts 8= .i one) (t9:slot ts 9=u) (t10:slot ts 10= .i two) (t15:slot ts 15= .i one) (t16:slot ts 16= .i two) (t17:slot ts 17= .bool b) (t18:slot ts 18=w):
  WC P bR (yV 11) [] ts K (FQ [(6,none)] (L0 h)):=by
 unfold yV fn3;simp only[aj.j,aj.s,aj.r,aj.dr,aj.tl];have d3: (b==b)=true:=Si
 refine Rs (mY t7 t8 t9 t10 t15 t16 t17 t18 @XS @d3) ?_;refine WF.ce T.c25 (r25 T hu hw hX hX) fun g1=>?_
 refine Rs (A9 t7 t8 t9 t10 t15 t16 t17 t18 @XS) ?_;refine WF.ce T.c15 (ha _ (eK.trans ⟨g1,rfl⟩)) fun g2=>?_
 refine Rs t7 ?_;exact⟨eK.trans (by rw[Xt];exact⟨_,rfl⟩),rfl⟩
theorem Av(ha:∀k,Ext h k→aA P 15 [] k (fun v _=>v= .bool true)){K:ah}{ts:TS}{b:Bool}{one:Int}{u:AV}{V:RV}{kb:Nat}{l:List gy}{t:Int}(eK:Ext h K)(oV:aD K V)(wV:fo V.ar)(hV:V.ar= (bU l).1.now)(mb:K[kb]? =some (.b V.row))(hu:aK K u 1 ((fp l t).1.map au))(hlen:ts.length=101)
  (t2:slot ts 2= .i t) (t7:slot ts 7= .bool b) (t8:slot ts 8= .i one) (t9:slot ts 9=u) (t10:slot ts 10= .i (fp l t).2) (t11:slot ts 11= .ptr kb 0) (t15:slot ts 15= .i one) (t16:slot ts 16= .i (aX [(bU l).2.2,jl t])) (t17:slot ts 17= .bool b) (t18:slot ts 18= .af):
  WC P bR (yV 10) [] ts K (FQ [(6,none)] (L0 h)):=by
 have lb:∀{k' n' a},Ext K k'→ao n' (.ptr kb a) (fun z=>k'[z]?)=cp n' a (.b V.row):=fun {_ _ _} e=>an (e.some mb)
 obtain⟨two,h2⟩:∃z,z=aX [(bU l).2.2,jl t]:=⟨_,rfl⟩;rw[←h2]at t16;rw[JO];generalize hR:yV 11=R;unfold qz fn3;simp only[aj.j,aj.s,aj.r,aj.dr,aj.tl,aj.hd];by_cases hz:two=0
 ·have hq:fp l t= (eX (bU l).1.now t,0):=by rw[fp,←h2,XG (fun z=>z hz)]
  have q:decide (two=0)=true:=Xz hz;refine Rs (Cw t2 t7 t8 t9 t10 t11 t15 t16 t17 t18 q @lb @aF) ?_;refine WF.res T.c24 (r24 T oV wV.len wV.vS t) ?_;rintro w g hw;refine Rs (mY t2 t7 t8 t9 t10 t11 t15 t16 t17 t18) ?_;rw[←hR];have hul:=yR (t:=t) wV;rw[hV]at hw hul;rw[hq]at hu t10;refine Aw T ha (X:=eX (bU l).1.now t) (b:=b) (one:=one) (two:=two) (eK.trans ⟨g,rfl⟩) (hu.ext ⟨g,rfl⟩) hw Om Sn (Sq t7) (Sq t8) (Sq t9) ?_ (Sq t15) (Sq t16) (Sq t17) (Sq t18);exact Zs (A2 t10 @hz) Tv
 ·have hq:fp l t= ([],two):=by rw[fp,←h2,XI hz]
  have q:decide (two=0)=false:=Xu hz;refine Rs (mX t2 t7 t8 t9 t10 t11 t15 t16 t17 t18 q) ?_;rw[←hR];rw[hq]at hu t10;exact Aw T ha (X:=[]) (b:=b) (one:=one) (two:=two) eK hu .nil Si Sn (Sq t7) (Sq t8) (Sq t9) (Sq t10) (Sq t15) (Sq t16) (Sq t17) (Sq t18)
theorem Gn(ha:∀k,Ext h k→aA P 15 [] k (fun v _=>v= .bool true)){K ts n u V kb l t}(eK:Ext h K)(oV:aD K V)(wV:fo V.ar)(hV:V.ar= (bU l).1.now)(mb:K[kb]? =some (.b V.row))(hu:aK K u 1 ((fp l t).1.map au))(hlen:ts.length=101)
  (t1:slot ts 1= .str n) (t2:slot ts 2= .i t) (t7:slot ts 7= .bool (kT l n t).1) (t8:slot ts 8= .i (kT l n t).2) (t9:slot ts 9=u) (t10:slot ts 10= .i (fp l t).2) (t11:slot ts 11= .ptr kb 0) (t15:slot ts 15= .i (aX [(gE l 2 n).2,jl t])) (t16:slot ts 16= .i (aX [(bU l).2.2,jl t])) (t17:slot ts 17= .bool false) (t18:slot ts 18= .af):
  WC P bR (yV 9) [] ts K (FQ [(6,none)] (L0 h)):=by
 have lb:∀{k' n' a},Ext K k'→ao n' (.ptr kb a) (fun z=>k'[z]?)=cp n' a (.b V.row):=fun {_ _ _} e=>an (e.some mb)
 obtain⟨one,h1⟩:∃z,z=aX [(gE l 2 n).2,jl t]:=⟨_,rfl⟩;rw[←h1]at t15;rw[ME];generalize hR:yV 10=R;unfold qz fn3;simp only[aj.j,aj.s,aj.r,aj.dr,aj.tl,aj.hd];by_cases hz:one=0
 ·have q:decide (one=0)=true:=Xz hz;obtain⟨a1,a2⟩:=wY (h1.symm.trans hz);obtain⟨Qp,Vf⟩:=Dr a1;have hq:kT l n t= (eI (bU l).1.now (kS (bU l).1.now n) t,0):=by rw[kT,←h1,XG (fun z=>z hz),Qp]
  rw[←hV]at Vf hq;have SV:n∈jV V.ar:=YH Vf;have hps:=cP SV;have RO:bj (jV V.ar) n < V.ak.length:=by simpa [jV,RV.ar]using hps
  have ix:aZ 3 V.s2 (.i ((bj (jV V.ar) n:Nat):Int))=some (cV V.s2 3 (bj (jV V.ar) n),.az):=oV.i2.dG RO;obtain⟨y,hy⟩:∃y,y=V.ak[bj (jV V.ar) n]:=⟨_,rfl⟩;have TU:y∈V.ak:=by rw[hy];exact XJ _
  have UX:y.1=kS V.ar n:=by
   rw[kS,c9 (f:=jh.name) (l:=V.ar.ak) (d:=Bo) SV,hy];exact Ag
  have ly:∀{kk:ah},Ext K kk→ao (some 3) (cV V.s2 3 (bj (jV V.ar) n)) (fun b=>kk[b]?)=some (.agg (bg y),.az):=fun {kk} e=>by rw[hy];exact oV.i2.kB RO e
  have oy:=oV.e2 y TU;have RW:=wV.vS.sh y TU;refine Rs (Cu t1 t2 t7 t8 t9 t10 t11 t15 t16 t17 t18 q @lb @eJ @aF) ?_;refine WF.ce T.c22 (r22 T oV wV.len n) fun g1=>?_
  have ei:cS (fun y:jh×AV=>decide (y.1.name=n)) V.ak= (bj (jV V.ar) n:Int):=by
   rw[gf];exact eD (f:=fun y:jh×AV=>y.1.name) (by rw[←gf];exact SV)
  rw[ei];refine Rs (Cw t1 t2 t7 t8 t9 t10 t11 t15 t16 t17 t18 ix @ly) ?_;refine WF.ce T.c23 (r23 T (oV.ext Xx) wV.len (oy.ext Xx) RW.2 RW.1 t) fun g2=>?_
  rw[UX];refine Rs (mX t1 t2 t7 t8 t9 t10 t11 t15 t16 t17 t18) ?_;rw[←hR];rw[hq]at t7 t8;have ex:Ext K (K++g1++g2):=Xx;refine Av T ha (b:=eI V.ar (kS V.ar n) t) (one:=one) (eK.trans ex) (oV.ext ex) wV hV (ex.some mb) (hu.ext ex) Sn (Sq t2) (Sq t7) ?_ (Sq t9) (Sq t10) (Sq t11) (Sq t15) (Sq t16) Sw (Sq t18);exact Zs (A2 t8 @hz) Tv
 ·have hq:kT l n t= (false,one):=by rw[kT,←h1,XI hz]
  have q:decide (one=0)=false:=Xu hz;refine Rs (pU t1 t2 t7 t8 t9 t10 t11 t15 t16 t17 t18 q) ?_;rw[←hR];rw[hq]at t7 t8;exact Av T ha (b:=false) (one:=one) eK oV wV hV mb hu Sn (Sq t2) (Sq t7) (Sq t8) (Sq t9) (Sq t10) (Sq t11) (Sq t15) (Sq t16) (Sq t17) (Sq t18)
theorem r3(ha:∀k,Ext h k→aA P 15 [] k (fun v _=>v= .bool true)){L s}(o:fH h L s)(sz:FX L)(gl:Gl h){n:By}(_hn:n.length < 2^63)(t:Int):aA P 3 [s,.str n,.i t] h (fun v _=>v= .bool true):=by
 refine .of T.mix (Z6 T.c3 (X6 some MF)) ?_;obtain⟨ts,Qn⟩:∃ts,ts=aT 101 [s,.str n,.i t]:=⟨_,rfl⟩;have hlen:ts.length=101:=by rw[Qn];rfl
 have t0:slot ts 0=s:=by rw[Qn];rfl
 have t1:slot ts 1= .str n:=by rw[Qn];rfl
 have t2:slot ts 2= .i t:=by rw[Qn];rfl
 show WC P bR (.seq (qz 0) (.seq (qz 1) (.seq (qz 2) (.seq (qz 3) (.seq (qz 4) (.seq (qz 5) (.seq (qz 6) (.seq (qz 7) (.seq (qz 8) (yV 9)))))))))) [] (aT 101 [s,.str n,.i t]) h (FQ [(6,none)] (L0 h));rw[←Qn];clear Qn;generalize hR:yV 9=R;unfold qz fn3;simp only[aj.j,aj.s,aj.r,aj.dr,aj.tl,aj.hd];refine Rs (A3 t0 t1 t2) ?_;refine WF.ce T.c14 (r14 T o sz.l (fun x hx=>(sz.e x hx).n) De) fun g1=>?_
 cases hsh:mC (L.map EV.ev) 24 with
 | false=>
  refine Rs (A4 t0 t1 t2 @XY) ?_;exact I5
 | true=>
 obtain⟨sh,nl,_,_⟩:=Au hsh De;by_cases hn40: (40:Int)< (n.length:Int)
 ·have q:decide ((40:Int)< (n.length:Int))=true:=Xz hn40;refine Rs (A5 t0 t1 t2 @XW q) ?_;exact I5
 have q:decide ((40:Int)< (n.length:Int))=false:=Xu hn40;refine Rs (A5 t0 t1 t2 @XW q) ?_;refine WF.ce T.c16 (r16 T (o.ext Xx) sh (gl.ext Xx) n t) fun g2=>?_
 refine Rs (A3 t0 t1 t2) ?_;refine WF.res T.c17 (r17 T (o.ext Xx) sh (gl.ext Xx) t) ?_;rintro _ g3 ⟨u,rfl,hu⟩;refine Rs (A3 t0 t1 t2) ?_;refine WF.res T.c18 (r18 T (o.ext Xx) sh nl) ?_;rintro _ g4 ⟨V,rfl,oV,hV,wV,lo⟩;have st:=@aD.st _ _ oV;obtain⟨l,hl⟩:∃l,l=L.map EV.ev:=⟨_,rfl⟩;rw[←hl]at hV hu ⊢;obtain⟨K,hK⟩:∃K,K=h++g1++g2++g3++g4:=⟨_,rfl⟩;have eK:Ext h K:=by rw[hK];exact Xx
 have hu:aK K u 1 ((fp l t).1.map au):=hu.ext (by rw[hK];exact Xx);rw[←hK]at oV ⊢;clear hK lo;have lb:∀{k' n' a},Ext (K++ [aq.b V.row]) k'→ao n' (.ptr K.length a) (fun z=>k'[z]?)=cp n' a (.b V.row):=fun {_ _ _} e=>an (e.some bf)
 refine Rs (A4 t0 t1 t2 @st) ?_;obtain⟨K1,TO⟩:∃Z,Z=K++ [aq.b V.row]:=⟨_,rfl⟩;have e1:Ext K K1:=by rw[TO];exact⟨_,rfl⟩
 rw[←TO]at lb ⊢;have oV:=oV.ext e1;have hu:=hu.ext e1;have eK:=eK.trans e1;refine WF.ce T.c20 (r20 T _ _ _) fun g5=>?_
 refine Rs (A3 t0 t1 t2) ?_;refine WF.ce T.c19 (r19 T _ _) fun g6=>?_
 rw[Gc];refine Rs (A5 t0 t1 t2 @lb @aF) ?_;refine WF.ce T.c22 (r22 T (oV.ext Xx) wV.len n) fun g7=>?_
 have hsi:=Kf V n;rw[hV]at hsi;refine Rs (A4 t0 t1 t2 @hsi) ?_;refine WF.ce T.c19 (r19 T _ _) fun g8=>?_
 refine Rs (A3 t0 t1 t2) ?_;refine WF.ce T.c21 (r21 T (b9 [_,_,_]) Si) fun g9=>?_
 refine Rs (A3 t0 t1 t2) ?_;refine WF.ce T.c21 (r21 T (b9 [_,_]) Si) fun g10=>?_
 have hone:aX [(bU l).2.2,bX (!dD (bU l).1.now 2 n) 10,bh t 0 999999999]=aX [(gE l 2 n).2,jl t]:=zb l 2 n _;rw[hone];have htwo:aX [(bU l).2.2,bh t 0 999999999]=aX [(bU l).2.2,jl t]:=rfl;rw[htwo];refine Rs (A3 t0 t1 t2) ?_;rw[←hR];have mb:K1[K.length]? =some (.b V.row):=by rw[TO];exact bf
 obtain⟨K2,hK2⟩:∃Z,Z=K1++g5++g6++g7++g8++ [aq.cells [.i (bU l).2.2,.i (bX (!dD (bU l).1.now 2 n) 10),.i (bh t 0 999999999)] true true]++g9++ [aq.cells [.i (bU l).2.2,.i (bh t 0 999999999)] true true]++g10:=⟨_,rfl⟩;have e2:Ext K1 K2:=by rw[hK2];exact Xx
 refine Gn T ha (l:=l) (n:=n) (t:=t) (eK.trans ?_) (oV.ext ?_) wV hV (Ext.some ?_ mb) (hu.ext ?_) Sn (Sq t1) (Sq t2) Sw Sw Sw Sw Sw Sw Sw Sw Sw
 all_goals exact Xx
end
end Go.Abs
