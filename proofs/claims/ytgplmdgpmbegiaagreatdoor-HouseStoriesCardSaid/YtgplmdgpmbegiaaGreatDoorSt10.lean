/- A part of the proof that HouseStories holds. No condition. -/
import Derived.Test.YtgplmdgpmbegiaaGreatDoorSt9
import Derived.Test.YtgplmdgpmbegiaaGreatDoorSt8
import Derived.Test.YtgplmdgpmbegiaaGreatDoorSt7
import Derived.Test.YtgplmdgpmbegiaaGreatDoorSt0
set_option maxHeartbeats 4000000
set_option linter.all false
open Nat (reduceAdd reduceMul reduceLeDiff reduceEqDiff)
namespace Go.Abs
def xE(k:Nat):ai:=(fn81).body.dr k
def DS(k:Nat):ai:=((fn81).body.dr k).hd
def Nq:fn81= ⟨110,1,[(2,none),(3,some (some 7)),(4,none),(5,none)],.seq (DS 0) (xE 1)⟩:=rfl
def Np:xE 1= .seq (DS 1) (xE 2):=rfl
def No:xE 2= .seq (DS 2) (xE 3):=rfl
def Nn:xE 3= .seq (DS 3) (xE 4):=rfl
def Nl:xE 4= .seq (DS 4) (xE 5):=rfl
def Qr(M:Nat)(l:List ed):AV→ah→Prop:=fun v k=>
 ∃ (sc:AV) (V:RV) (C:List EV),v= .dL [sc,.agg V.row,.i (bU l).2.1,.i (bU l).2.2]∧aC k V∧V.an= (bU l).1.now∧fk V.an∧dB k C sc∧C.map EV.ev= (bU l).1.ez∧C.length≤1000∧∀i,some i∈V.bl→M < i
def MD(h:ah)(l:List ed):AV→ah→Prop:=fun v k=>Ext h k∧Qr h.length l v k
structure Mm(h W:ah)(L:List EV)(k:Nat)(C:List EV)(A:List RV)(sc sa:AV):Prop where
 x:Ext h W
 b:W[h.length]? =some (.b kH)
 c:aK (fG [some h.length] W) sc 5 (C.map EV.row)
 ce:∀e∈C,bg (fG [some h.length] W) e
 a:aK (fG [some h.length] W) sa 7 ((RV.zero::A).map RV.row)
 ae:∀R∈A,aC (fG [some h.length] W) R
 al:∀R∈A,∀i,some i∈R.bl→h.length < i
 w:kC ⟨(L.take k).map EV.ev,C.map EV.ev,A.map RV.an⟩
 r:bU (L.map EV.ev)=k9 ⟨(L.take k).map EV.ev,C.map EV.ev,A.map RV.an⟩ ((L.drop k).map EV.ev) k
def yE{W W2 b}(e:Ext W W2):ji (fG [some b] W) (fG [some b] W2):=nE (fun i hi _=>e.get hi) fun _ _ h=>h
def Bh{W b X}:ji (fG [some b] W) (W.set b X):=fun i c mu tl hb=>by
 obtain⟨h1,h2⟩:=rk hb;have:i≠b:=fun e=>h1 (by rw[e];simp)
 rw[Yj (Zv this)];exact h2
def Mm.ext{h W W2 L k C A sc sa}(s:Mm h W L k C A sc sa)(e:Ext W W2):Mm h W2 L k C A sc sa:=
 ⟨s.x.trans e,e.some s.b,s.c.sub (yE e),fun y hy=>(s.ce y hy).sub (yE e),s.a.sub (yE e),fun y hy=>(s.ae y hy).sub (yE e),s.al,s.w,s.r⟩
def Kc{h W}(e:Ext h W):ji h (fG [some h.length] W):=fun i c mu tl hb=>by
 have hl:=(X1.1 hb).1;rw[ua (by intro z;simp only[Yt,Yy]at z;omega)];exact e.some hb
def vh{l}(he: (bU l).2.2≠0): (bU l).1=jj.zero:=by
 revert he
 unfold bU;split
 ·intro _;rfl
 ·have key:∀ (l:List ed) (H:jj) (i:Nat),(k9 H l i).2.2≠0→(k9 H l i).1=jj.zero:=by
   intro l
   induction l with
   | nil=>intro H i z;exact absurd rfl z
   | cons e l ih=>
    intro H i;rw[k9];split
    case isTrue hb=>intro _;rfl
    case isFalse hb=>exact ih _ _
  exact key _ _ _
def BG{h k l i e}(he:e≠0)(hr:bU l= (jj.zero,i,e))(hx:Ext h k):MD h l (.dL [.af,.agg RV.zero.row,.i i,.i e]) k:=by
 refine⟨hx,.af,RV.zero,[],by rw[hr],aC.zero,by rw[hr];rfl,fk.zero,⟨.nil,fun _ h=>by cases h⟩,by rw[hr];rfl,Si,fun i hi=>by simp[RV.zero,RV.bl,sB]at hi⟩
def Kb:Option AV→Option AV→Option AV→Option AV→Option AV
 | some a,some b,some c,some d=>some (.dL [a,b,c,d])
 | _,_,_,_=>none
def k5{a b c d}:Kb (some a) (some b) (some c) (some d)=some (.dL [a,b,c,d]):=rfl
def gf{ts h r s t u}:cO [r,s,t,u] ts h=Kb (du ts h r) (du ts h s) (du ts h t) (du ts h u):=by
 simp only[cO,iL];cases du ts h r<;>cases du ts h s<;>cases du ts h t<;>cases du ts h u<;>rfl
def Lv{A n}(hn:n=A.length): (RV.zero::A)[n]? =some (A.getLastD RV.zero):=by
 subst hn;rcases j7 A with rfl| ⟨m,y,rfl⟩
 ·rfl
 ·simp
def Ac(A:List RV): (A.getLastD RV.zero).an= (A.map RV.an).getLastD eX.zero:=by
 rcases j7 A with rfl| ⟨m,y,rfl⟩
 ·rfl
 ·simp
set_option maxRecDepth 10000
attribute [local irreducible] WP WC WE WB WR WF WL WG fT WM
section
variable {P:Program} (T:fy P) {h W:ah} {ts:TS}
include T
def DR{L s}(o:dB h L s)(sh:zp L)(hnl:∀x∈L,∀n∈x.ev.names,n.length < 2^63)(hl:L.length≤1000){sa}(st:Mm h W L 0 [] [] .af sa)(hlen:ts.length=110)(t0:slot ts 0=s)(t3:slot ts 3= .ptr h.length 0)(t6:slot ts 6= .af)(t7:slot ts 7=sa):
  WC P bR (xE 4) [] ts W (FQ [(2,none),(3,some (some 7)),(4,none),(5,none)] (MD h (L.map EV.ev))):=by
 rw[Nl];generalize hE:xE 5=E;unfold DS fn81;simp only[ai.j,ai.s,ai.r,ai.dr,ai.tl,ai.hd];refine Rs (A4 t0 t3 t6 t7) ?_;refine WL.inv T.mix (fun m ts W=>∃ (k:Nat) (C:List EV) (A:List RV) (sc sa:AV),k≤L.length∧m=L.length - k∧Mm h W L k C A sc sa∧ts.length=110∧slot ts 0=s∧slot ts 3= .ptr h.length 0∧slot ts 6=sc∧slot ts 7=sa∧slot ts 8= .i k) L.length
  ⟨0,[],[],.af,sa,Om,rfl,st,Sn,(Sq t0),(Sq t3),(Sq t6),(Sq t7),hP⟩ ?_
 clear t0 t3 t6 t7 hlen st;rintro _ ts W ⟨k,C,A,sc,sa,hk,rfl,st,hlen,t0,t3,t6,t7,t8⟩;have hAC:A.length=C.length:=by have:=st.w.ln;simpa using this
 have hCl:C.length≤L.length:=by have:=st.w.le;simp only[Ya,Y5]at this;omega
 have oW:=o.ext st.x;have Vc:=st.c.sub (ji.fG _ _);have sta:=st.a.sub (ji.fG _ _);have stae:∀R∈A,aC W R:=fun R hR=>(st.ae R hR).sub (ji.fG _ _)
 obtain⟨N,hN⟩:∃N,N=A.getLastD RV.zero:=⟨_,rfl⟩;have hgN: (RV.zero::A)[C.length]? =some N:=by rw[hN];exact Lv hAC.symm
 have hCA:C.length < (RV.zero::A).length:=by simp only[X8];omega
 have hgN': (RV.zero::A)[C.length]=N:=by rw[X6 hCA]at hgN;exact Y6 hgN
 have ix:aZ 7 sa (.i (C.length:Int))=some (cV sa 7 C.length,.au):=sta.dI hCA;have ld:∀{kk:ah},Ext W kk→aq (some 7) (cV sa 7 C.length) (fun b=>kk[b]?)=some (.agg N.row,.au):=fun {kk} e=>by rw[←hgN'];exact sta.kR hCA e
 have oN:aC (fG [some h.length] W) N:=by
  rcases j7 A with hA| ⟨m,y,hA⟩
  ·rw[hN,hA];exact aC.zero
  ·have:N=y:=by rw[hN,hA];simp
   rw[this];exact st.ae y (by rw[hA];simp)
 have lN:∀i,some i∈N.bl→h.length < i:=by
  rcases j7 A with hA| ⟨m,y,hA⟩
  ·intro i hi;rw[hN,hA]at hi;simp[RV.zero,RV.bl,sB]at hi
  ·have:N=y:=by rw[hN,hA];simp
   rw[this];exact st.al y (by rw[hA];simp)
 have hNr:N.an= (A.map RV.an).getLastD eX.zero:=by rw[hN];exact Ac A
 have wN:fk N.an:=by rw[hNr];exact st.w.now
 have hbl:=(X1.1 st.b).1;by_cases hlt:k < L.length
 case neg=>
  have e3:=fQ hlt;have e4:k=L.length:=Om
  have hr:=st.r;rw[e4,YZ]at hr;have Uj:bU (L.map EV.ev)= (⟨(L.take L.length).map EV.ev,C.map EV.ev,A.map RV.an⟩,0,0):=hr;have SA:=oN.I4 st.b;have gm:=n6 (W:=W) (b:=h.length) (V:=N) hbl;refine Rs (A7 t0 t3 t6 t7 t8 oW.sl.aL e3) ?_;rw[←hE];unfold xE fn81;simp only[ai.j,ai.s,ai.r,ai.dr,ai.tl];refine Rs (Db t0 t3 t6 t7 t8 Vc.aL ix @ld @SA @aG @gm @gf @cW @cX @k5) ?_;exact⟨st.x.iK (Yg _),sc,N,C,by rw[Uj],oN.sub Bh,by rw[Uj,hNr];rfl,wN,⟨st.c.sub Bh,fun y hy=>(st.ce y hy).sub Bh⟩,by rw[Uj],Om,lN⟩
 have e3:=eT hlt;have e5:=wrapN (n:=k) Om;have ik:=oW.sl.dI (kk:=.i64) hlt;obtain⟨x,hx⟩:∃x,x=L[k]:=⟨_,rfl⟩;have RC:x∈L:=by rw[hx];exact Yi _
 have lx:∀{kk:ah},Ext W kk→aq (some 5) (cV s 5 k) (fun b=>kk[b]?)=some (.agg x.row,.au):=fun {kk} e=>by rw[hx];exact oW.sl.kR hlt e
 have lx0:∀{kk:ah},Ext W kk→aq none (jv s 5 k 0) (fun b=>kk[b]?)=some (.i x.ev.num,.au):=fun {kk} e=>oW.sl.lG hlt (by rw[←hx];rfl) e
 have lx1:∀{kk:ah},Ext W kk→aq none (jv s 5 k 1) (fun b=>kk[b]?)=some (.str x.ev.kind,.au):=fun {kk} e=>oW.sl.lG hlt (by rw[←hx];rfl) e
 have ox:bg W x:=oW.all x RC;have hd:L.drop k=x::L.drop (k+1):=by rw[hx];simp
 have Rh: (L.take (k+1)).map EV.ev= (L.take k).map EV.ev++ [x.ev]:=by rw[YM,X6 hlt,Yc,hx];rfl
 have Q1:=st.r;rw[hd,YY,k9]at Q1;obtain⟨H,hH⟩:∃H:jj,H= ⟨(L.take k).map EV.ev,C.map EV.ev,A.map RV.an⟩:=⟨_,rfl⟩;rw[←hH]at Q1;have hHe:H.db.length=k:=by rw[hH];simp only[Ya,Y5];omega
 have wH:kC H:=by rw[hH];exact st.w
 have hNow:N.an=H.now:=by rw[hNr,hH];rfl
 have sbz:∀{kk:ah},Ext W kk→aT 7 (.ptr h.length 0) (.agg [AV.i 0,.af,.af,.af,.af,.af,.af]) (fun z=>kk[z]?)=some (aA,.set h.length (.b RV.zero.row)):=fun {kk} e=>(aC.zero (h:=W)).I4 (e.some st.b)
 have fin:∀{W' G:ah} {c:Int},Ext h W'→fD H x.ev=c→c≠0→MD h (L.map EV.ev) (.dL [.af,.agg RV.zero.row,.i ((k+1:Nat):Int),.i c]) (W'.set h.length (.b RV.zero.row)++G):=by
  intro W' G c e hb h0;refine BG h0 ?_ ((e.iK (Yg _)).trans ⟨G,rfl⟩);rw[Q1,Yh (by rw[hb];exact h0),hb];simp
 have gmz:∀{W' G:ah},h.length < W'.length→aq (some 7) (.ptr h.length 0) (fun z=>(W'.set h.length (.b RV.zero.row)++G)[z]?)=some (.agg RV.zero.row,.au):=fun {W' G} hb=>by
  rw[az (by rw[X5 (by rw[YL];exact hb)];exact Yl hb)];rfl
 have Tc:=(sh.e x RC);refine Rs (A9 t0 t3 t6 t7 t8 oW.sl.aL e3 @ik @lx) ?_;refine WF.ce T.c39 (r39 T (ox.ext Xx) ⟨Om,Om⟩ (hnl x RC)) fun g1=>?_
 obtain⟨W1,TL⟩:∃Z,Z=W++g1:=⟨_,rfl⟩;rw[←TL];have e1:Ext W W1:=⟨g1,TL⟩;have lx0:∀{kk:ah},Ext W1 kk→aq none (jv s 5 k 0) (fun b=>kk[b]?)=some (.i x.ev.num,.au):=fun {kk} e=>lx0 (e1.trans e)
 have lx1:∀{kk:ah},Ext W1 kk→aq none (jv s 5 k 1) (fun b=>kk[b]?)=some (.str x.ev.kind,.au):=fun {kk} e=>lx1 (e1.trans e)
 have lx:∀{kk:ah},Ext W1 kk→aq (some 5) (cV s 5 k) (fun b=>kk[b]?)=some (.agg x.row,.au):=fun {kk} e=>lx (e1.trans e)
 have ld:∀{kk:ah},Ext W1 kk→aq (some 7) (cV sa 7 C.length) (fun b=>kk[b]?)=some (.agg N.row,.au):=fun {kk} e=>ld (e1.trans e)
 have sbz:∀{kk:ah},Ext W1 kk→aT 7 (.ptr h.length 0) (.agg [AV.i 0,.af,.af,.af,.af,.af,.af]) (fun z=>kk[z]?)=some (aA,.set h.length (.b RV.zero.row)):=fun {kk} e=>sbz (e1.trans e)
 have VK:h.length < W1.length:=by have:=e1.len;omega
 have U6:=fun {G:ah}=>gmz (G:=G) VK
 have st:=st.ext e1;have stx:=st.x;have d11:decide ((11:Int)=0)=false:=rfl;have d11':decide ((11:Int)≠0)=true:=rfl;have d12:decide ((12:Int)=0)=false:=rfl;have d21:decide ((21:Int)=0)=false:=rfl;have d12':decide ((12:Int)≠0)=true:=rfl;have d21':decide ((21:Int)≠0)=true:=rfl;have d0:decide ((0:Int)=0)=true:=rfl;have d0':decide ((0:Int)≠0)=false:=rfl;by_cases h1:gL x.ev=0
 case neg=>
  have q1:decide (gL x.ev=0)=false:=X3 h1;have q2:decide (gL x.ev≠0)=true:=X7 h1;refine Rs (Db t0 t3 t6 t7 t8 Vc.aL q1 q2 e5 @sbz @gf @cW @cX @k5 @U6) ?_;exact fin stx (by rw[fD,Yh h1]) h1
 have q1:decide (gL x.ev=0)=true:=X7 h1;have q1':decide (gL x.ev≠0)=false:=X3 (fun z=>z h1);obtain⟨d,we⟩:=uk h1;have To:=we.jH;have Q0:x.ev.kind=bu d:=cg we.kd;have Vq:fD H x.ev=j5 H x.ev:=by rw[fD,Yd (fun z=>z h1)]
 by_cases h2:x.ev.num= ((k+1:Nat):Int)
 case neg=>
  have q3:decide (x.ev.num≠((k+1:Nat):Int))=true:=X7 h2;refine Rs (Mp t0 t3 t6 t7 t8 Vc.aL q1 @ik @lx0 e5 q3 @d11 @d11' @sbz @gf @cW @cX @k5 @U6) ?_;exact fin stx (by rw[Vq,j5,Yh (by rw[hHe];simpa using h2)]) De
 have q3:decide (x.ev.num≠((k+1:Nat):Int))=false:=X3 (fun z=>z h2);have S0:¬x.ev.num≠(H.db.length:Int)+1:=by rw[hHe];simpa using h2
 by_cases hu:d= .ee
 case pos=>
  have hK:jH x.ev= .ee:=by rw[To,hu]
  have q4:decide (bu d= [117,110,100,111])=true:=by rw[nX,hu];rfl
  rcases j7 C with hC| ⟨M,c,hC⟩
  ·have q5:decide ((C.length:Int)=0)=true:=by rw[hC];rfl
   refine Rs (Jf t0 t3 t6 t7 t8 Vc.aL q1 @ik @lx0 @lx1 e5 q3 @Q0 q4 q5 @d12 @d12' @sbz @gf @cW @cX @k5 @U6) ?_;refine fin (c:=12) stx ?_ De;rw[Vq,j5,Yd S0,Yh hK,hH,hC];rfl
  ·have hCl2:C.length=M.length+1:=by rw[hC];simp
   have q5:decide ((C.length:Int)=0)=false:=X3 Om;have w1:IntKind.i64.wrap ((C.length:Int) - 1)= (M.length:Int):=by rw[bo Om Om];omega
   have hMl:M.length < C.length:=Om
   have hcM:C[M.length]=c:=by simp[hC]
   have ic:aZ 5 sc (.i (M.length:Int))=some (cV sc 5 M.length,.au):=Vc.dI hMl;have lc:∀{kk:ah},Ext W1 kk→aq none (jv sc 5 M.length 1) (fun b=>kk[b]?)=some (.str c.ev.kind,.au):=fun {kk} e=>Vc.lG hMl (by rw[hcM];rfl) (e1.trans e)
   obtain⟨dc,wc⟩:=st.w.cn c.ev (Yx (by rw[hC];simp));have hkc:c.ev.kind=bu dc:=cg wc.kd;have hlast:H.ez.getLast? =some c.ev:=by rw[hH,hC];simp
   by_cases hr:dc= .rel
   ·have q6:decide (bu dc= [114,101,108,101,97,115,101])=true:=by rw[qq,hr];rfl
    repeat (first| simp (config:={ maxSteps:=1000000 }) only[aW,bd,bC,bD,reduceAdd,reduceMul,reduceLeDiff,reduceEqDiff,bE,hlen,Yo,Ys,t0,t3,t6,t7,t8,Vc.aL,q1,ik,lx0,lx1,e5,q3,Q0,q4,q5,w1,ic,lc,hkc,q6,d21,d21',sbz,gf,cW,cX,k5,U6]| simp (config:={ maxSteps:=1000000 }) (disch:=first| (simp only[X2,X8,X9]<;>omega)| rfl| omega| fail) only[fU,aW,bd,bC,bD,reduceAdd,reduceMul,reduceLeDiff,reduceEqDiff,bE,hlen,Yo,Ys,t0,t3,t6,t7,t8,Vc.aL,q1,ik,lx0,lx1,e5,q3,Q0,q4,q5,w1,ic,lc,hkc,q6,d21,d21',sbz,gf,cW,cX,k5,U6])
    refine fin (c:=21) stx ?_ De;rw[Vq,j5,Yd S0,Yh hK,hlast];simp only[wc.jH,hr,Ys]
   ·have q6:decide (bu dc= [114,101,108,101,97,115,101])=false:=by rw[qq];exact X3 hr
    have R9:fD H x.ev=0:=by
     rw[Vq,j5,Yd S0,Yh hK,hlast];simp only[wc.jH,hr,Yo]
    obtain⟨Rp,ec,hsc⟩:=st.c.FT (lo:=none) (hi:=some (.i (M.length:Int))) (jy Om);obtain⟨sa',ea,hsa⟩:=st.a.FT (lo:=none) (hi:=some (.i (C.length:Int))) (jy (by simp;omega));refine Rs (MG t0 t3 t6 t7 t8 Vc.aL q1 @ik @lx0 @lx1 e5 q3 @Q0 q4 q5 @w1 @ic @lc @hkc q6 @ec @ea) ?_;rcases j7 A with hA| ⟨D,R,hA⟩
    ·rw[hA]at hAC;simp only[X9]at hAC;omega
    have hCM:List.take (M.length - 0) (List.drop 0 C)=M:=by rw[hC];simp
    have hDl:D.length=M.length:=by have:=hAC;rw[hA]at this;simp only[X2,Yv]at this;omega
    have hAD:List.take (C.length - 0) (List.drop 0 (RV.zero::A))=RV.zero::D:=by
     rw[hCl2,hA,Nat.sub_zero,Zu,ZX,←hDl];simp
    rw[hCM]at hsc;rw[hAD]at hsa;have TK:lM H x.ev= ⟨(L.take (k+1)).map EV.ev,M.map EV.ev,D.map RV.an⟩:=by
     rw[lM,Yh hK,hH,Rh,hC,hA];simp
    refine⟨_,Om,k+1,M,D,Rp,sa',Om,rfl,⟨stx,st.b,hsc,fun y hy=>st.ce y (by rw[hC];simp[hy]),hsa,fun y hy=>st.ae y (by rw[hA];simp[hy]),fun y hy=>st.al y (by rw[hA];simp[hy]),?_,?_⟩,rfl,rfl,rfl⟩
    ·rw[←TK];exact wH.add R9
    ·rw[Q1,Yd (fun z=>z R9),TK]
 case neg=>
 have hK:jH x.ev≠.ee:=by rw[To];exact hu
 have q4:decide (bu d= [117,110,100,111])=false:=by rw[nX];exact X3 hu
 have hacs:fD H x.ev=gK N.an x.ev d:=by rw[Vq,j5,Yd S0,Yd hK,To,←hNow]
 refine Rs (Jg t0 t3 t6 t7 t8 Vc.aL q1 @ik @lx0 @lx1 @lx e5 q3 @Q0 q4 ix @ld) ?_;have ox1:=ox.ext e1;have oN1:aC W1 N:=(oN.sub (ji.fG _ _)).ext e1;refine WF.res T.c129 (r129 T (d:=d) (oN1.ext Xx) wN (ox1.ext Xx) we hu) ?_;rintro _ g2 ⟨V',rfl,Xj,VX⟩;obtain⟨W2,Rz⟩:∃Z,Z=W1++ [ak.b [AV.i 0,.af,.af,.af,.af,.af,.af]]++g2:=⟨_,rfl⟩;rw[←Rz]at Xj ⊢;have e2:Ext W1 W2:=by rw[Rz,X4];exact⟨_,rfl⟩
 have m2:W2[W1.length]? =some (.b kH):=by
  rw[Rz];exact(show Ext (W1++ [ak.b kH]) _ from⟨g2,rfl⟩).some ba
 have hl2:W1.length < W2.length:=(X1.1 m2).1;have sbn:=Xj.I4 m2;obtain⟨W3,Rg⟩:∃Z,Z=W2.set W1.length (.b V'.row):=⟨_,rfl⟩;have e3':Ext W1 W3:=by rw[Rg];exact e2.iK (Yg _)
 have x3:Ext h W3:=stx.trans e3';have m3:W3[W1.length]? =some (.b V'.row):=by rw[Rg];exact Yl hl2
 have XH:W3.length=W2.length:=by rw[Rg,YL]
 have k3:∀i,i≠W1.length→W3[i]? =W2[i]? :=fun i hi=>by rw[Rg,Yj (Zv hi)]
 have sbz3:=sbz e3';have gmz3:aq (some 7) (.ptr h.length 0) (fun z=>(W3.set h.length (.b RV.zero.row))[z]?)=some (.agg RV.zero.row,.au):=n6 Om;have nH:=st.ext e3';by_cases h5:gK N.an x.ev d=0
 case neg=>
  have q5:decide (gK N.an x.ev d≠0)=true:=X7 h5;have ef:=fin (W':=W3) (G:=[]) x3 hacs h5;rw[Yu]at ef;rw[Rg]at sbz3 gmz3 ef;refine Rs (AF t0 t3 t6 t7 t8 @sbn q5 e5 @sbz3 @gf @cW @cX @k5 @gmz3) ?_;exact ef
 have q5:decide (gK N.an x.ev d≠0)=false:=X3 (fun z=>z h5);have R9:fD H x.ev=0:=by rw[hacs,h5]
 obtain⟨hVr,hVb⟩:=VX h5;have hVb:∀i,some i∈V'.bl→W1.length < i:=fun i hi=>by have:=hVb i hi;simp only[X2,Yv]at this;omega
 refine Rs (A7 t0 t3 t6 t7 t8 @sbn q5) ?_;rw[←Rg];have stc3:=nH.c.sub (ji.fG _ _);refine WR.pA (N:=W3.length) (w:=88) ba (Yg _) (stc3.ext Xx) (by rw[Ya];omega) fun a1 y1 f1=>?_
 have p1:=f1.aX.one;obtain⟨Y,hY⟩:∃Z,Z=W3++ [ak.b []]++y1:=⟨_,rfl⟩;rw[←hY]at f1 ⊢;have eY:Ext W3 Y:=by rw[hY,X4];exact⟨_,rfl⟩
 have lxY:∀{kk:ah},Ext Y kk→aq (some 5) (cV s 5 k) (fun b=>kk[b]?)=some (.agg x.row,.au):=fun {kk} e=>lx ((e3'.trans eY).trans e)
 have bs:=@bg.EK _ _ ox;refine Rs (A9 t0 t3 t6 t7 t8 @ik @lxY @bs @p1) ?_;refine WR.pC (B:=W3) (cs:=C.map EV.row) f1 rfl eY De (by rw[Ya];omega) ?_;intro W4 s4 x4 hf4 hn4 q4' l4 hk4;have hrow:C.map EV.row++ [x.row]= (C++ [x]).map EV.row:=by rw[Yc];rfl
 rw[hrow]at hf4;have st4:=nH.ext x4;have sta4:=st4.a.sub (ji.fG _ _);refine Rs (A5 t0 t3 t6 t7 t8) ?_;refine WR.pA (N:=W4.length) (w:=152) ba (Yg _) (sta4.ext Xx) (by simp only[Ya,X8];omega) fun a2 y2 f2=>?_
 have p2:=f2.aX.one;obtain⟨Y2,Tq⟩:∃Z,Z=W4++ [ak.b []]++y2:=⟨_,rfl⟩;rw[←Tq]at f2 ⊢;have TP:Ext W4 Y2:=by rw[Tq,X4];exact⟨_,rfl⟩
 have lnx:∀{kk n a},Ext Y2 kk→aq n (.ptr W1.length a) (fun z=>kk[z]?)=dE n a (.b V'.row):=fun {_ _ _} e=>az (((x4.trans TP).trans e).some m3)
 have bv:=@aC.EK _ _ Xj;refine Rs (A9 t0 t3 t6 t7 t8 @lnx @aG @bv @p2) ?_;refine WR.pC (B:=W4) (cs:=(RV.zero::A).map RV.row) f2 rfl TP De (by simp only[Ya,X8];omega) ?_;intro W5 s5 x5 XO hn5 q5' l5 hk5;have hrow2: (RV.zero::A).map RV.row++ [V'.row]= (RV.zero:: (A++ [V'])).map RV.row:=Si
 rw[hrow2]at XO;have st5:=st4.ext x5;have oV5:aC W5 V':=((Xj.au fun i hi=>k3 i (by have:=hVb i hi;omega)).ext x4).ext x5;have TK:lM H x.ev= ⟨(L.take (k+1)).map EV.ev,(C++ [x]).map EV.ev,(A++ [V']).map RV.an⟩:=by
  rw[lM,Yd hK,To,hH,Rh];simp only[Yc,YY,ZV,hVr];rw[←hNow,hH]at *
  first| rfl| simp[hNr,jj.now]
 have hlW3:h.length < W3.length:=Om
 have hl4:W3.length≤W4.length:=x4.len;refine Rs (A6 t0 t3 t6 t7 t8 e5) ?_;refine⟨_,Om,k+1,C++ [x],A++ [V'],s4,s5,Om,rfl,⟨x3.trans (x4.trans x5),st5.b,(hf4.ext x5).aX.fG fun b hb z=>?_,fun y hy=>?_,XO.aX.fG fun b hb z=>?_,fun R hR=>?_,fun R hR=>?_,?_,?_⟩,rfl,rfl,rfl⟩
 ·have:=(hf4.bM hb).1;exact z93
 ·rcases Yb.1 hy with hy| hy
  ·exact st5.ce y hy
  ·rw[Yt]at hy;rw[hy];exact(o.all x RC).sub (Kc (x3.trans (x4.trans x5)))
 ·have:=(XO.bM hb).1;exact z93
 ·rcases Yb.1 hR with hR| hR
  ·exact st5.ae R hR
  ·rw[Yt]at hR;rw[hR];exact oV5.fG fun i hi z=>by
    have:=hVb i hi;exact z93
 ·rcases Yb.1 hR with hR| hR
  ·exact st5.al R hR
  ·rw[Yt]at hR;rw[hR];intro i hi;have:=hVb i hi;omega
 ·rw[←TK];exact wH.add R9
 ·rw[Q1,Yd (fun z=>z R9),TK]
def r81{L s}(o:dB h L s)(sh:zp L)(hnl:∀x∈L,∀n∈x.ev.names,n.length < 2^63):ay P 81 [s] h (Qr h.length (L.map EV.ev)):=by
 refine .of T.mix (aaE T.c81 (YC some Nq)) ?_;obtain⟨ts,QV⟩:∃ts,ts=aU 110 [s]:=⟨_,rfl⟩;have hlen:ts.length=110:=by rw[QV];rfl
 have t0:slot ts 0=s:=by rw[QV];rfl
 show WC P bR (.seq (DS 0) (xE 1)) [] (aU 110 [s]) h (FQ [(2,none),(3,some (some 7)),(4,none),(5,none)] (MD h (L.map EV.ev)));rw[←QV];clear QV;have hsl:=sh.l;by_cases h1:1000 < L.length
 ·have q1:decide ((1000:Int)< (L.length:Int))=true:=X7 Om;have e:bU (L.map EV.ev)= (jj.zero,0,5):=by rw[bU,Yh (by simpa using h1)]
  have m0: (h++ [ak.b kH])[h.length]? =some (.b kH):=ba;have sbz:aT 7 (.ptr h.length 0) (.agg [AV.i 0,.af,.af,.af,.af,.af,.af]) (fun z=>(h++ [ak.b kH])[z]?)=some (aA,.set h.length (.b RV.zero.row)):=(aC.zero (h:=h)).I4 m0;unfold kH at sbz;have gmz:aq (some 7) (.ptr h.length 0) (fun z=>(h++ [ak.b RV.zero.row])[z]?)=some (.agg RV.zero.row,.au):=by rw[az ba];rfl
  unfold xE DS fn81;simp only[ai.j,ai.s,ai.r,ai.dr,ai.tl,ai.hd];refine Rs (A9 t0 o.sl.aL q1 @sbz @gf @cW @cX @k5 @gmz) ?_;exact BG De e Xx
 have q1:decide ((1000:Int)< (L.length:Int))=false:=X3 Om;rw[Np,No,Nn];generalize hR:xE 4=R;unfold DS fn81;simp only[ai.j,ai.s,ai.r,ai.dr,ai.tl,ai.hd];refine Rs (A3 t0 o.sl.aL q1) ?_;rw[←hR];have hx:Ext h (h++ [ak.b kH]++ [ak.cells RV.zero.row true true]):=Xx;have fz:Fr (h.length+1) (h++ [ak.b kH]++ [ak.cells RV.zero.row true true]) (.slice (h.length+1) 0 1 7) 7 [RV.zero.row]:=by
  have:=Fr.push (h:=h++ [ak.b kH]) (N:=h.length+1) (es:=7) Si [RV.zero.row] (fun x hx=>by rw[Yt]at hx;rw[hx];rfl)
  simpa using this
 refine DR T (sa:=.slice (h.length+1) 0 1 7) (W:=h++ [ak.b kH]++ [ak.cells RV.zero.row true true]) o sh hnl Om ⟨hx,Si,.nil,(fun _ h=>by cases h),fz.aX.fG fun b hb z=>?_,(fun _ h=>by cases h),(fun _ h=>by cases h),kC.zero,?_⟩ Sn (Sq t0) Sw Sw (by simp only[aW,bd,bC,bD,reduceAdd,reduceMul,reduceLeDiff,reduceEqDiff,bE,hlen,Yo,Ys];simp)
 ·have:=(fz.bM hb).1;exact z93
 ·rw[bU,Yd (by simpa using h1)];rfl
end
structure ME(L:List EV):Prop where
 n:∀x∈L,∀n∈x.ev.names,n.length < 2^63
section
variable {P:Program} (T:fy P) {h:ah}
include T
def r18{L s}(o:dB h L s)(sh:zp L)(nl:ME L):ay P 18 [s] h (fun v k=>∃V:RV,v= .dL [.agg V.row,.i (bU (L.map EV.ev)).2.1,.i (bU (L.map EV.ev)).2.2]∧aC k V∧V.an= (bU (L.map EV.ev)).1.now∧fk V.an∧∀i,some i∈V.bl→h.length < i):=by
 refine .kM 19 T.mix T.c18 ?_;intro ts hlen t0;unfold fn18;refine Rs t0 ?_;refine WF.res T.c81 (r81 T (o.ext Xx) sh nl.n) ?_;rintro _ g ⟨sc,V,C,rfl,oV,hV,wV,oC,hC,hCl,lo⟩;have lo:∀i,some i∈V.bl→h.length+1 < i:=fun i hi=>by have:=lo i hi;simpa using this
 have st:=@aC.st _ _ oV;refine Rs (A3 t0 @st @aG) ?_;refine⟨V,rfl,?_,hV,wV,fun i hi=>by have:=lo i hi;omega⟩;have:=oV.au (k:=h++ [ak.b V.row]++g) fun j hj=>y4 (by have:=lo j hj;omega)
 exact this.ext Xx
end
def zK(l:List ed)(e:ed):nP (l++ [e])=nP l++ [{ e with num:=(l.length:Int)+1 }]:=by
 simp[nP,List.mapIdx_append]
def BN(l:List ed): (nP l).length=l.length:=by rw[nP,List.length_mapIdx]
def EB(l:List Int):Int:=if l.length=0 then 12 else if 32 < l.length then 5 else if l.any (fun n=>decide (bh n 0 999999999≠0))=true then 3 else 0
def yd(l:List Int):EB l= (n9 l).2:=by
 unfold EB n9;by_cases h1:l.length=0
 ·simp[h1,bf,bV]
 by_cases h2:32 < l.length
 ·simp[h1,h2,bf,bV]
 have e:bf [bV (decide (l.length=0)) 12,bV (decide (32 < l.length)) 5]=0:=by simp[h1,h2,bf,bV]
 have g:¬ ((0:Int)≠0):=fun z=>z rfl
 rw[Yd h1,Yd h2,e,Yd g];clear e h1 h2;have key:bf (l.map fun n=>bh n 0 999999999)=if l.any (fun n=>decide (bh n 0 999999999≠0))=true then 3 else 0:=by
  induction l with
  | nil=>rfl
  | cons a l ih=>
   rw[YY,bf,aai];by_cases h:bh a 0 999999999=0
   ·rw[Yh h,ih,X3 (fun z=>z h)];rfl
   ·rw[Yd h,X7 h,tU h];rfl
 rw[key];by_cases hc:l.any (fun n=>decide (bh n 0 999999999≠0))=true
 ·rw[Yh hc,Yh De]
 ·rw[Yd hc,Yd g]
def yH(e:ed):Bool:=decide (e.kind.length≤40) && decide (e.names.length≤6) && decide (e.b9.length≤8) && decide (e.text.length≤200) && e.names.all fun x=>decide (x.length≤40)
def EV.nu(x:EV)(m:Int):EV:=⟨{ x.ev with num:=m },x.sn,x.sv⟩
theorem bg.nu{h x}(o:bg h x)(m:Int):bg h (x.nu m):=⟨o.n,o.v⟩
section
variable {P:Program} (T:fy P) {h:ah}
include T
def r30{L s}(o:dB h L s)(sh:zp L)(nl:ME L)(n:By):ay P 30 [s,.str n] h (fun v k=>∃L':List EV,dB k L' v∧L'.map EV.ev=nP ((bU (L.map EV.ev)).1.ez.filter (cE n))∧L'.length≤1000):=by
 refine .eD 63 T.mix T.c30 ?_;intro ts hlen t0 t1;unfold fn30;refine Rs (A2 t0 t1) ?_;refine WF.res T.c81 (r81 T (o.ext Xx) sh nl.n) ?_;rintro _ g ⟨sc,V,C,rfl,oV,hV,wV,oC,hC,hCl,lo⟩;have st:=@aC.st _ _ oV;have hcn:∀x∈C,∃d,jG x.ev d∧d≠.ee:=fun x hx=>by
  have hm:x.ev∈(bU (L.map EV.ev)).1.ez:=by rw[←hC];exact Yx hx
  by_cases h1: (bU (L.map EV.ev)).2.2=0
  ·obtain⟨chn,_⟩:=yM h1;have:=chn.ok;obtain⟨l1,l2,hl⟩:=List.append_of_mem hm;rw[hl]at this;exact(rL l1 l2 eX.zero x.ev 0 this fk.zero).2.1
  ·rw[vh h1]at hm;cases hm
 rw[←hC];obtain⟨W,hW⟩:∃Z,Z=h++g++ [ak.b V.row]:=⟨_,rfl⟩;have eW:Ext h W:=by rw[hW];exact Xx
 have oC:dB W C sc:=oC.ext (by rw[hW];exact Ext.app _ (Ext.refl _));refine Rs (A3 t0 t1 @st) ?_;rw[←hW];refine WL.inv T.mix (fun m ts K=>∃ (k:Nat) (out:AV) (L':List EV),k≤C.length∧m=C.length - k∧Ext W K∧Fr W.length K out 5 (L'.map EV.row)∧(∀x∈L',bg W x)∧L'.map EV.ev=nP (((C.take k).map EV.ev).filter (cE n))∧L'.length≤k∧ts.length=63∧slot ts 1= .str n∧slot ts 5=sc∧slot ts 9=out∧slot ts 10= .i k) C.length
  ⟨0,.af,[],Om,rfl,.refl _,.nil,(fun _ h=>by cases h),rfl,Si,Sn,(Sq t1),Sw,Sw,hP⟩ ?_
 clear t0 t1 hlen;rintro _ ts K ⟨k,out,L',hk,rfl,xK,hfr,hL',hev,Tc,hlen,t1,t5,t9,t10⟩;have oK:=oC.ext xK;by_cases hlt:k < C.length
 case neg=>
  have e3:=fQ hlt;have e4:k=C.length:=Om
  rw[e4,YF]at hev;refine Rs (A6 t1 t5 t9 t10 oK.sl.aL e3) ?_;exact⟨eW.trans xK,L',⟨hfr.aX,fun x hx=>(hL' x hx).ext xK⟩,hev,Om⟩
 have e3:=eT hlt;have e5:=wrapN (n:=k) Om;have ik:=oK.sl.dI (kk:=.i64) hlt;obtain⟨x,hx⟩:∃x,x=C[k]:=⟨_,rfl⟩;have RC:x∈C:=by rw[hx];exact Yi _
 have ox:bg K x:=oK.all x RC;have oxW:bg W x:=oC.all x RC;have lx:∀{kk:ah},Ext K kk→aq (some 5) (cV sc 5 k) (fun b=>kk[b]?)=some (.agg x.row,.au):=fun {kk} e=>by rw[hx];exact oK.sl.kR hlt e
 have Rh: (C.take (k+1)).map EV.ev= (C.take k).map EV.ev++ [x.ev]:=by rw[YM,X6 hlt,Yc,hx];rfl
 have sx:=@bg.st _ _ ox;obtain⟨d,we,hd⟩:=hcn x RC;have Q0:x.ev.kind=bu d:=cg we.kd;have To:=we.jH;have wl:IntKind.i64.wrap ((L'.length:Int)+1)= (L'.length:Int)+1:=bo Om Om;have Sd:L'.length= (((C.take k).map EV.ev).filter (cE n)).length:=by rw[←BN,←hev,Ya]
 have sbk:aT 1 (.ptr K.length 0) (.i ((L'.length:Int)+1)) (fun z=>(K++ [ak.b x.row])[z]?)=some (aA,.set K.length (.b (x.nu ((L'.length:Int)+1)).row)):=(aN ba).trans (bW rfl (by show 0+1≤5;omega));have bs:=@bg.EK _ _ (ox.nu ((L'.length:Int)+1));have lz:∀{kk:ah},Ext (K++ [ak.b (x.nu ((L'.length:Int)+1)).row]) kk→aq (some 5) (.ptr K.length 0) (fun z=>kk[z]?)=some (.agg (x.nu ((L'.length:Int)+1)).row,.au):=fun {kk} e=>by rw[az (e.some ba)];rfl
 have hlo:=hfr.aX.aL;obtain⟨Z,hZ⟩:∃Z,Z=K++ [ak.b (x.nu ((L'.length:Int)+1)).row]:=⟨_,rfl⟩;have eZ:Ext K Z:=by rw[hZ];exact⟨_,rfl⟩
 have yes:cE n x.ev=true→∀ (W5:ah) (s':AV),Ext W W5→Fr W.length W5 s' 5 (L'.map EV.row++ [(x.nu ((L'.length:Int)+1)).row])→Fr W.length W5 s' 5 ((L'++ [x.nu ((L'.length:Int)+1)]).map EV.row)∧(∀y∈L'++ [x.nu ((L'.length:Int)+1)],bg W y)∧(L'++ [x.nu ((L'.length:Int)+1)]).map EV.ev=nP (((C.take (k+1)).map EV.ev).filter (cE n))∧(L'++ [x.nu ((L'.length:Int)+1)]).length≤k+1:=by
  intro hab W5 s' x5 hff;refine⟨by rw[Yc];exact hff,fun y hy=>?_,?_,by simp;omega⟩
  ·rcases Yb.1 hy with hy| hy
   ·exact hL' y hy
   ·rw[Yt]at hy;rw[hy];exact oxW.nu _
  ·rw[Rh,Zw,ZR,Yh hab,Z7,zK,Yc,hev,←Sd];rfl
 have no:cE n x.ev=false→L'.map EV.ev=nP (((C.take (k+1)).map EV.ev).filter (cE n)):=by
  intro hab;rw[Rh,Zw,ZR,Yd (by rw[hab];decide),Z7,Yu];exact hev
 cases d with
 | ee=>exact absurd rfl hd
 | line=>
  obtain⟨i0,d0⟩:=bI ox we 0 0 rfl De;by_cases hn:aO x.ev 0=n
  case pos=>
   have q:decide (aO x.ev 0=n)=true:=X7 hn;have hab:cE n x.ev=true:=by rw[cE,To];exact q
   refine kE (Jf @t1 @t5 @t9 @t10 oK.sl.aL @e3 @ik @lx @sx @a8 @aM @Q0 @eO @Yp @Yk @i0 @d0 @q @hlo @wl @sbk @lz @bs) ?_
   try rw[←hZ]
   exact z6
  have q:decide (aO x.ev 0=n)=false:=X3 hn;have hab:cE n x.ev=false:=by rw[cE,To];exact q
  refine kE (Mp @t1 @t5 @t9 @t10 oK.sl.aL @e3 @ik @lx @sx @a8 @aM @Q0 @eO @Yp @Yk @i0 @d0 @q @e5) ?_;exact⟨_,Om,k+1,out,L',Om,rfl,xK.trans ⟨_,rfl⟩,hfr.app _,hL',no hab,Om,rfl,rfl⟩
 | tape=>
  have hab:cE n x.ev=true:=by rw[cE,To];rfl
  refine kE (Mo @t1 @t5 @t9 @t10 oK.sl.aL @e3 @ik @lx @sx @a8 @aM @Q0 @eO @Yp @Yk @hlo @wl @sbk @lz @bs) ?_
  try rw[←hZ]
  exact z6
 | gg=>
  obtain⟨i1,d1⟩:=bI ox we 1 1 rfl De;by_cases hn:aO x.ev 1=n
  case pos=>
   have q:decide (aO x.ev 1=n)=true:=X7 hn;have hab:cE n x.ev=true:=by rw[cE,To];exact q
   refine kE (Jf @t1 @t5 @t9 @t10 oK.sl.aL @e3 @ik @lx @sx @a8 @aM @Q0 @eO @Yp @Yk @i1 @d1 @q @hlo @wl @sbk @lz @bs) ?_
   try rw[←hZ]
   exact z6
  have q:decide (aO x.ev 1=n)=false:=X3 hn;have hab:cE n x.ev=false:=by rw[cE,To];exact q
  refine kE (Mp @t1 @t5 @t9 @t10 oK.sl.aL @e3 @ik @lx @sx @a8 @aM @Q0 @eO @Yp @Yk @i1 @d1 @q @e5) ?_;exact⟨_,Om,k+1,out,L',Om,rfl,xK.trans ⟨_,rfl⟩,hfr.app _,hL',no hab,Om,rfl,rfl⟩
 | copy=>
  have hab:cE n x.ev=true:=by rw[cE,To];rfl
  refine kE (Mo @t1 @t5 @t9 @t10 oK.sl.aL @e3 @ik @lx @sx @a8 @aM @Q0 @eO @Yp @Yk @hlo @wl @sbk @lz @bs) ?_
  try rw[←hZ]
  exact z6
 | accept=>
  obtain⟨i0,d0⟩:=bI ox we 0 0 rfl De;by_cases hn:aO x.ev 0=n
  case pos=>
   have q:decide (aO x.ev 0=n)=true:=X7 hn;have hab:cE n x.ev=true:=by rw[cE,To];exact q
   refine kE (Jf @t1 @t5 @t9 @t10 oK.sl.aL @e3 @ik @lx @sx @a8 @aM @Q0 @eO @Yp @Yk @i0 @d0 @q @hlo @wl @sbk @lz @bs) ?_
   try rw[←hZ]
   exact z6
  have q:decide (aO x.ev 0=n)=false:=X3 hn;have hab:cE n x.ev=false:=by rw[cE,To];exact q
  refine kE (Mp @t1 @t5 @t9 @t10 oK.sl.aL @e3 @ik @lx @sx @a8 @aM @Q0 @eO @Yp @Yk @i0 @d0 @q @e5) ?_;exact⟨_,Om,k+1,out,L',Om,rfl,xK.trans ⟨_,rfl⟩,hfr.app _,hL',no hab,Om,rfl,rfl⟩
 | source=>
  obtain⟨i1,d1⟩:=bI ox we 1 1 rfl De;by_cases hn:aO x.ev 1=n
  case pos=>
   have q:decide (aO x.ev 1=n)=true:=X7 hn;have hab:cE n x.ev=true:=by rw[cE,To];exact q
   refine kE (Jf @t1 @t5 @t9 @t10 oK.sl.aL @e3 @ik @lx @sx @a8 @aM @Q0 @eO @Yp @Yk @i1 @d1 @q @hlo @wl @sbk @lz @bs) ?_
   try rw[←hZ]
   exact z6
  have q:decide (aO x.ev 1=n)=false:=X3 hn;have hab:cE n x.ev=false:=by rw[cE,To];exact q
  refine kE (Mp @t1 @t5 @t9 @t10 oK.sl.aL @e3 @ik @lx @sx @a8 @aM @Q0 @eO @Yp @Yk @i1 @d1 @q @e5) ?_;exact⟨_,Om,k+1,out,L',Om,rfl,xK.trans ⟨_,rfl⟩,hfr.app _,hL',no hab,Om,rfl,rfl⟩
 | fP=>
  exact z5
 | merge=>
  exact z5
 | run=>
  exact z5
 | fM=>
  exact z5
 | fail=>
  exact z5
 | gh=>
  exact z5
 | rel=>
  exact z5
def r29{l s}(hs:aK h s 1 (l.map aJ))(hl:l.length < 2^62):ay P 29 [s] h (fun v _=>v= .i (EB l)):=by
 refine .kM 21 T.mix T.c29 ?_;intro ts hlen t0;unfold fn29;by_cases h1:l.length=0
 ·have q1:decide ((l.length:Int)=0)=true:=X7 Om;refine Rs (A3 t0 hs.aL q1) ?_;rw[EB,Yh h1]
 have q1:decide ((l.length:Int)=0)=false:=X3 Om;by_cases h2:32 < l.length
 ·have q2:decide ((32:Int)< (l.length:Int))=true:=X7 Om;refine Rs (A4 t0 hs.aL q1 q2) ?_;rw[EB,Yd h1,Yh h2]
 have q2:decide ((32:Int)< (l.length:Int))=false:=X3 Om;refine Rs (A4 t0 hs.aL q1 q2) ?_;refine WL.inv T.mix (fun m ts h'=>∃ (k:Nat) (g:ah),k≤l.length∧m=l.length - k∧h' =h++g∧l.any (fun n=>decide (bh n 0 999999999≠0))= (l.drop k).any (fun n=>decide (bh n 0 999999999≠0))∧ts.length=21∧slot ts 0=s∧slot ts 3= .i k) l.length
  ⟨0,[],Om,rfl,by rw[Yu],rfl,Sn,(Sq t0),hP⟩ ?_
 clear t0 hlen;rintro _ ts _ ⟨k,g,hk,rfl,rfl,hi,hlen,t0,t3⟩;have hs:=hs.ext (show Ext h (h++g)from⟨_,rfl⟩);by_cases hlt:k < l.length
 ·have e3:=eT hlt;have e5:=wrapN (n:=k) Om;have ix:=hs.dI (kk:=.i64) hlt;have ld:=hs.ki (i:=k) (x:=.i l[k]) hlt rfl (Ext.refl _);rw[any_eq hlt]at hi;refine Rs (A6 t0 t3 hs.aL e3 ix @ld) ?_;refine WF.ce T.c20 (r20 T _ _ _) fun g1=>?_
  cases hr:decide (bh l[k] 0 999999999≠0)with
  | true=>
   rw[hr]at hi;refine Rs (A2 t0 t3) ?_;rw[EB,Yd h1,Yd h2,hi];rfl
  | false=>
   rw[hr]at hi;refine Rs (A3 t0 t3 e5) ?_;exact⟨_,Om,k+1,g++g1,Om,rfl,by rw[X4],hi,rfl⟩
 ·have e3:=fQ hlt;have e4:k=l.length:=Om
  rw[e4,YZ]at hi;refine Rs (A4 t0 t3 hs.aL e3) ?_;rw[EB,Yd h1,Yd h2,hi];rfl
def r14{L s}(o:dB h L s)(hl:L.length < 2^63)(hn:∀x∈L,x.ev.names.length < 2^63){n}(h0:n≤1000):ay P 14 [s,.i n] h (fun v _=>v= .bool (k8 (L.map EV.ev) n)):=by
 refine .eD 71 T.mix T.c14 ?_;intro ts hlen t0 t1;unfold fn14;by_cases h1:n < L.length
 ·have q1:decide (n < (L.length:Int))=true:=X7 h1;refine Rs (A4 t0 t1 o.sl.aL q1) ?_;rw[k8,X3 (by simpa using h1)];rfl
 have q1:decide (n < (L.length:Int))=false:=X3 h1;have hsh:k8 (L.map EV.ev) n=L.all (fun y=>yH y.ev):=by
  rw[k8,X7 (by simp;omega),ZA,List.all_map];rfl
 rw[hsh];refine Rs (A4 t0 t1 o.sl.aL q1) ?_;refine WL.inv T.mix (fun m ts h'=>∃k:Nat,k≤L.length∧m=L.length - k∧h' =h∧L.all (fun y=>yH y.ev)= (L.drop k).all (fun y=>yH y.ev)∧ts.length=71∧slot ts 0=s∧slot ts 5= .i k) L.length
  ⟨0,Om,rfl,rfl,rfl,Sn,(Sq t0),hP⟩ ?_
 clear t0 t1 hlen;rintro _ ts h' ⟨k,hk,rfl,rfl,hi,hlen,t0,t5⟩;by_cases hlt:k < L.length
 case neg=>
  have e3:=fQ hlt;have e4:k=L.length:=Om
  rw[e4,YZ]at hi;refine Rs (A4 t0 t5 o.sl.aL e3) ?_;rw[hi];rfl
 have e3:=eT hlt;have e5:=wrapN (n:=k) Om;have ik:=o.sl.dI (kk:=.i64) hlt;obtain⟨x,hx⟩:∃x,x=L[k]:=⟨_,rfl⟩;have RC:x∈L:=by rw[hx];exact Yi _
 have ox:=o.all x RC;have hd:L.drop k=x::L.drop (k+1):=by rw[hx];simp
 rw[hd,ZF]at hi;have l1:∀{kk:ah},Ext h' kk→aq none (jv s 5 k 1) (fun b=>kk[b]?)=some (.str x.ev.kind,.au):=fun {kk} e=>o.sl.lG hlt (by rw[←hx];rfl) e
 have l2:∀{kk:ah},Ext h' kk→aq none (jv s 5 k 2) (fun b=>kk[b]?)=some (x.sn,.au):=fun {kk} e=>o.sl.lG hlt (by rw[←hx];rfl) e
 have l3:∀{kk:ah},Ext h' kk→aq none (jv s 5 k 3) (fun b=>kk[b]?)=some (x.sv,.au):=fun {kk} e=>o.sl.lG hlt (by rw[←hx];rfl) e
 have l4:∀{kk:ah},Ext h' kk→aq none (jv s 5 k 4) (fun b=>kk[b]?)=some (.str x.ev.text,.au):=fun {kk} e=>o.sl.lG hlt (by rw[←hx];rfl) e
 have dc:∀a b:Nat,decide ((b:Int)< (a:Int))= !decide (a≤b):=fun a b=>by
  by_cases hc:a≤b
  ·rw[X7 hc,X3 Om];rfl
  ·rw[X3 hc,X7 Om];rfl
 have c1:decide ((40:Int)< (x.ev.kind.length:Int))= !decide (x.ev.kind.length≤40):=dc _ 40;have c2:decide ((6:Int)< (x.ev.names.length:Int))= !decide (x.ev.names.length≤6):=dc _ 6;have c3:decide ((8:Int)< (x.ev.b9.length:Int))= !decide (x.ev.b9.length≤8):=dc _ 8;have c4:decide ((200:Int)< (x.ev.text.length:Int))= !decide (x.ev.text.length≤200):=dc _ 200;have bad:yH x.ev=false→L.all (fun y=>yH y.ev)=false:=fun hb=>by rw[hi,hb];rfl
 by_cases b1:x.ev.kind.length≤40
 case neg=>
  have d1:decide (x.ev.kind.length≤40)=false:=X3 b1;refine Rs (A9 t0 t5 o.sl.aL e3 @ik @l1 @c1 @d1 @Yz) ?_;rw[bad (by simp only[yH,d1,aal])]
 have d1:decide (x.ev.kind.length≤40)=true:=X7 b1;by_cases b2:x.ev.names.length≤6
 case neg=>
  have d2:decide (x.ev.names.length≤6)=false:=X3 b2;refine Rs (AF t0 t5 o.sl.aL e3 @ik @l1 @l2 @c1 @d1 @c2 @d2 ox.n.aL @Yz @Yw) ?_;rw[bad (by simp only[yH,d2,Bool.and_false,aal])]
 have d2:decide (x.ev.names.length≤6)=true:=X7 b2;by_cases b3:x.ev.b9.length≤8
 case neg=>
  have d3:decide (x.ev.b9.length≤8)=false:=X3 b3;refine Rs (GG t0 t5 o.sl.aL e3 @ik @l1 @l2 @l3 @c1 @d1 @c2 @d2 @c3 @d3 ox.n.aL ox.v.aL @Yz @Yw) ?_;rw[bad (by simp only[yH,d3,Bool.and_false,aal])]
 have d3:decide (x.ev.b9.length≤8)=true:=X7 b3;by_cases b4:x.ev.text.length≤200
 case neg=>
  have d4:decide (x.ev.text.length≤200)=false:=X3 b4;refine Rs (Qs t0 t5 o.sl.aL e3 @ik @l1 @l2 @l3 @l4 @c1 @d1 @c2 @d2 @c3 @d3 @c4 @d4 ox.n.aL ox.v.aL @Yz @Yw) ?_;rw[bad (by simp only[yH,d4,Bool.and_false,aal])]
 have d4:decide (x.ev.text.length≤200)=true:=X7 b4;have Xy:yH x.ev=x.ev.names.all fun z=>decide (z.length≤40):=by simp only[yH,d1,d2,d3,d4,ZA]
 rw[Xy]at hi bad;refine Rs (Mo t0 t5 o.sl.aL e3 @ik @l1 @l2 @l3 @l4 @c1 @d1 @c2 @d2 @c3 @d3 @c4 @d4 ox.n.aL ox.v.aL @Yw) ?_;refine WL.inv T.mix (fun m ts h1=>∃j:Nat,j≤x.ev.names.length∧m=x.ev.names.length - j∧h1=h'∧(x.ev.names.all fun z=>decide (z.length≤40))= (x.ev.names.drop j).all (fun z=>decide (z.length≤40))∧ts.length=71∧slot ts 0=s∧slot ts 5= .i k∧slot ts 6= .i j) x.ev.names.length
  ⟨0,Om,rfl,rfl,rfl,Sn,(Sq t0),(Sq t5),hP⟩ ?_
 clear t0 t5 hlen;rintro _ ts h1 ⟨j,hj,rfl,rfl,hij,hlen,t0,t5,t6⟩;by_cases Tg:j < x.ev.names.length
 ·have f3:decide ((j:Int)< x.ev.names.length)=true:=X7 Om;have f5:IntKind.i64.wrap ((j:Int)+1)= ((j+1:Nat):Int):=wrapN Om;have ij:=ox.n.dI (kk:=.i64) Tg;have ln:=ox.n.ki (i:=j) (x:=.str x.ev.names[j]) Tg rfl (Ext.refl _);have c5:decide ((40:Int)< (x.ev.names[j].length:Int))= !decide (x.ev.names[j].length≤40):=dc _ 40;have TH:x.ev.names.drop j=x.ev.names[j]::x.ev.names.drop (j+1):=Si
  rw[TH,ZF]at hij;cases hz:decide (x.ev.names[j].length≤40)with
  | true=>
   rw[hz,ZA]at hij
   repeat (first| simp (config:={ maxSteps:=1000000 }) only[aW,bd,bC,bD,reduceAdd,reduceMul,reduceLeDiff,reduceEqDiff,bE,hlen,Yo,Ys,t0,t5,t6,ik,l2,ox.n.aL,f3,ij,ln,c5,hz,Yw,f5]| simp (config:={ maxSteps:=1000000 }) (disch:=first| (simp only[X2,X8,X9]<;>omega)| rfl| omega| fail) only[fU,aW,bd,bC,bD,reduceAdd,reduceMul,reduceLeDiff,reduceEqDiff,bE,hlen,Yo,Ys,t0,t5,t6,ik,l2,ox.n.aL,f3,ij,ln,c5,hz,Yw,f5])
   exact⟨_,Om,j+1,Om,rfl,hij,rfl⟩
  | false=>
   rw[hz,aal]at hij
   repeat (first| simp (config:={ maxSteps:=1000000 }) only[aW,bd,bC,bD,reduceAdd,reduceMul,reduceLeDiff,reduceEqDiff,bE,hlen,Yo,Ys,t0,t5,t6,ik,l2,ox.n.aL,f3,ij,ln,c5,hz,Yz]| simp (config:={ maxSteps:=1000000 }) (disch:=first| (simp only[X2,X8,X9]<;>omega)| rfl| omega| fail) only[fU,aW,bd,bC,bD,reduceAdd,reduceMul,reduceLeDiff,reduceEqDiff,bE,hlen,Yo,Ys,t0,t5,t6,ik,l2,ox.n.aL,f3,ij,ln,c5,hz,Yz])
   rw[bad hij]
 ·have f3:decide ((j:Int)< x.ev.names.length)=false:=X3 Om;have f4:j=x.ev.names.length:=Om
  rw[f4,YZ]at hij;rw[hij,List.all_nil,ZA]at hi;refine Rs (A8 t0 t5 t6 @ik @l2 ox.n.aL @f3 e5) ?_;exact⟨_,Om,k+1,Om,rfl,hi,rfl⟩
end
theorem qn{α:Type}{row:α→List AV}{Q:α→Prop}:∀{cs:List (List AV)},(∀c∈cs,∃x,c=row x∧Q x)→∃L:List α,cs=L.map row∧∀x∈L,Q x
 | [],_=>⟨[],rfl,fun _ h=>by cases h⟩
 | c::cs,h=>by
  obtain⟨x,rfl,hx⟩:=h c (YV ..);obtain⟨L,rfl,hL⟩:=qn (cs:=cs) fun c hc=>h c (YI _ hc)
  exact⟨x::L,rfl,fun y hy=>(YH.1 hy).elim (fun e=>e▸hx) (hL y)⟩
def iX{n}(h:n≤maxLen):n < 2^63:=by unfold maxLen at h;omega
def A1{h k a}(x:TY h (.int k) a):∃z,a= .int k z∧(Lit.int k z).wf=true:=by rw[TY]at x;exact x
def tL{h a}(x:TY h .str a):∃s:By,a= .str s∧s.length≤maxLen:=by rw[TY]at x;exact x
def A0{h r a}(x:TY h (.sl r) a):∃cs:List (List AV),aK h a r.length cs∧cs.length≤maxLen∧∀c∈cs,iU h r c:=by rw[TY]at x;exact x
def tK{h l}(x:iU h [] l):l= []:=by rw[iU]at x;exact x
def ja{h t ts l}(x:iU h (t::ts) l):∃a l',l=a::l'∧TY h t a∧iU h ts l':=by rw[iU]at x;exact x
def AY{h l}(x:sF h [] l):l= []:=by rw[sF]at x;exact x
def o8{h t ts l}(x:sF h (t::ts) l):∃a l',l=a::l'∧FJ h t a∧sF h ts l':=by rw[sF]at x;exact x
def Dm{h a}(x:FJ h (.one .str) a):∃s:By,a= .str s∧s.length≤maxLen:=tL (h:=h) x
def Dq{h:ah}{a:AV}(x:TY h (.sl [.str]) a):∃L:List (By),aK h a 1 (L.map ao)∧L.length≤maxLen∧∀s∈L,s.length≤maxLen:=by
 obtain⟨cs,hs,hl,hc⟩:=A0 x;obtain⟨L,rfl,hL⟩:=qn (row:=ao) (Q:=fun s=>s.length≤maxLen) fun c Vp=>by
  obtain⟨_,_,rfl,h1,x⟩:=ja (hc c Vp);obtain rfl:=tK x;obtain⟨s,rfl,hs⟩:=tL h1;exact⟨s,rfl,hs⟩
 exact⟨L,hs,by simpa using hl,hL⟩
def yx{h:ah}{a:AV}(x:TY h (.sl [.int .i64]) a):∃L:List Int,aK h a 1 (L.map aJ)∧L.length≤maxLen∧∀z∈L,(Lit.int .i64 z).wf=true:=by
 obtain⟨cs,hs,hl,hc⟩:=A0 x;obtain⟨L,rfl,hL⟩:=qn (row:=aJ) (Q:=fun z=>(Lit.int .i64 z).wf=true) fun c Vp=>by
  obtain⟨_,_,rfl,h1,x⟩:=ja (hc c Vp);obtain rfl:=tK x;obtain⟨s,rfl,hs⟩:=A1 h1;exact⟨s,rfl,hs⟩
 exact⟨L,hs,by simpa using hl,hL⟩
def EA:List CT:=[.int .i64,.str,.sl [.str],.sl [.int .i64],.str]
structure IX(x:EV):Prop where
 n:x.ev.names.length < 2^63
 v:x.ev.b9.length < 2^63
 nn:∀n∈x.ev.names,n.length < 2^63
 i: (Lit.int .i64 x.ev.num).wf=true
 k:x.ev.kind.length < 2^63
 t:x.ev.text.length < 2^63
 iv:∀z∈x.ev.b9,(Lit.int .i64 z).wf=true
def GX{h c}(x:iU h EA c):∃y:EV,c=y.row∧bg h y∧IX y:=by
 obtain⟨_,_,rfl,h1,x⟩:=ja x;obtain⟨_,_,rfl,h2,x⟩:=ja x;obtain⟨sn,_,rfl,h3,x⟩:=ja x;obtain⟨sv,_,rfl,h4,x⟩:=ja x;obtain⟨_,_,rfl,h5,x⟩:=ja x;obtain rfl:=tK x;obtain⟨n,rfl,hn⟩:=A1 h1;obtain⟨k,rfl,hk⟩:=tL h2;obtain⟨N,hN,hNl,hNs⟩:=Dq h3;obtain⟨W,hW,hWl,hWs⟩:=yx h4;obtain⟨t,rfl,ht⟩:=tL h5;exact⟨⟨⟨n,k,N,W,t⟩,sn,sv⟩,rfl,⟨hN,hW⟩,⟨iX hNl,iX hWl,fun s hs=>iX (hNs s hs),hn,iX hk,iX ht,hWs⟩⟩
structure GB(L:List EV):Prop where
 l:L.length < 2^63
 e:∀x∈L,IX x
def Dp{h:ah}{a:AV}(x:FJ h (.one (.sl EA)) a):∃L:List EV,dB h L a∧GB L:=by
 obtain⟨cs,hs,hl,hc⟩:=A0 (h:=h) x;obtain⟨L,rfl,hL⟩:=qn (row:=EV.row) (Q:=fun y=>bg h y∧IX y) fun c Vp=>GX (hc c Vp)
 exact⟨L,⟨hs,fun y hy=>(hL y hy).1⟩,⟨iX (by simpa using hl),fun y hy=>(hL y hy).2⟩⟩
def AZ{h a}(x:FJ h (.one (.sl [.int .i64])) a):∃L:List Int,aK h a 1 (L.map aJ)∧L.length≤maxLen∧∀z∈L,(Lit.int .i64 z).wf=true:=yx x
def Bj{L n}(h:k8 (L.map EV.ev) n=true)(hn:n≤1000):zp L∧ME L∧L.length≤1000∧∀x∈L,yH x.ev=true:=by
 rw[k8,YD,YO,Ya]at h;have ha:∀x∈L,yH x.ev=true:=fun x hx=>YE.1 h.2 _ (Yx hx)
 have key:∀x∈L,x.ev.names.length≤6∧x.ev.b9.length≤8∧∀n∈x.ev.names,n.length≤40:=fun x hx=>by
  have:=ha x hx;simp only[yH,YD,YO,YE]at this;exact⟨this.1.1.1.2,this.1.1.2,this.2⟩
 refine⟨⟨Om,fun x hx=>?_⟩,⟨fun x hx n hn=>?_⟩,Om,ha⟩
 ·have:=key x hx;omega
 ·have:=(key x hx).2.2 n hn;omega
def Eo{α:Type}{f:α→By}{n:By}{L:List α}:decide (cU (fun x=>decide (f x=n)) L < 0)= !decide (n∈L.map f):=by
 rw[←fi];by_cases h:0≤cU (fun x=>decide (f x=n)) L
 ·rw[X7 h,X3 Om];rfl
 ·rw[X3 h,X7 Om];rfl
def KN(V:RV)(n:By):decide (cU (fun y:gM=>decide (y.name=n)) V.lines < 0)= !dG V.an 0 n:=Eo (f:=gM.name)
section
variable {P:Program} (T:fy P) {h:ah}
include T
def r19(c:Bool)(e:Int):ay P 19 [.bool c,.i e] h (fun v _=>v= .i (bV c e)):=by
 refine .eD 8 T.mix T.c19 ?_;intro ts hlen t0 t1;unfold fn19 zC;refine Rs (A2 t0 t1) ?_;refine WF.ce T.c82 (r82 T _ _) fun g=>?_
 exact Rs (A2 t0 t1) Tv
def r21{s l}(hs:aK h s 1 (l.map aJ))(hl:l.length < 2^40):ay P 21 [s] h (fun v _=>v= .i (bf l)):=by
 refine .kM 5 T.mix T.c21 ?_;intro ts hlen t0;unfold fn21;refine Rs t0 ?_;refine WF.ce T.c83 (r83 T hs Om) fun g=>?_
 exact Rs t0 Tv
def MF(h:ah):AV→ah→Prop:=fun v k=>Ext h k∧v= .bool true
end
section
variable {P:Program} (T:fy P) {h:ah}
include T
def r32{L M:List EV}{s t:AV}(o:dB h L s)(p:dB h M t)(e:L.map EV.ev=M.map EV.ev)(hl:L.length < 2^40)(hn:∀x∈L,x.ev.names.length < 2^40∧x.ev.b9.length < 2^40):ay P 32 [s,t] h (fun v _=>v= .bool true):=by
 have TB:L.length=M.length:=by have:=YC List.length e;simpa using this
 refine .eD 82 T.mix T.c32 ?_;intro ts hlen t0 t1;unfold fn32;have q0:decide ((L.length:Int)≠M.length)=false:=X3 Om;refine Rs (A5 t0 t1 o.sl.aL p.sl.aL q0) ?_;refine WL.inv T.mix (fun m ts h'=>∃k:Nat,k≤L.length∧m=L.length - k∧Ext h h'∧ts.length=82∧slot ts 0=s∧slot ts 1=t∧slot ts 5= .int .i64 k) L.length
  ⟨0,Om,rfl,Ext.refl h,Sn,(Sq t0),(Sq t1),hP⟩ ?_
 rintro _ ts W ⟨k,hk,rfl,eW,hlen,t0,t1,t5⟩;have o:=o.ext eW;have p:=p.ext eW;by_cases hlt:k < L.length
 ·have TA:k < M.length:=Om
  have e3:=eT hlt;have e5:=wrapN (n:=k) Om;have ix:=o.sl.dI (kk:=.i64) hlt;have iy:=p.sl.dI (kk:=.i64) TA;obtain⟨x,hx⟩:∃x,x=L[k]:=⟨_,rfl⟩;obtain⟨y,hy⟩:∃y,y=M[k]:=⟨_,rfl⟩;have exy:y.ev=x.ev:=by
   have h1: (L.map EV.ev)[k]? =some x.ev:=by rw[Zp,X6 hlt,hx];rfl
   have h2: (M.map EV.ev)[k]? =some y.ev:=by rw[Zp,X6 TA,hy];rfl
   rw[e,h2]at h1;exact Y6 h1
  have RC:x∈L:=by rw[hx];exact Yi _
  have Xq:y∈M:=by rw[hy];exact Yi _
  have ox:=o.all x RC;have oy:=p.all y Xq;have oyn:=oy.n;have oyv:=oy.v;rw[exy]at oyn oyv;have a0:∀{kk:ah},Ext W kk→aq none (jv s 5 k 0) (fun b=>kk[b]?)=some (.int .i64 x.ev.num,.au):=fun {kk} e=>o.sl.lG hlt (by rw[←hx];rfl) e
  have a1:∀{kk:ah},Ext W kk→aq none (jv s 5 k 1) (fun b=>kk[b]?)=some (.str x.ev.kind,.au):=fun {kk} e=>o.sl.lG hlt (by rw[←hx];rfl) e
  have a2:∀{kk:ah},Ext W kk→aq none (jv s 5 k 2) (fun b=>kk[b]?)=some (x.sn,.au):=fun {kk} e=>o.sl.lG hlt (by rw[←hx];rfl) e
  have a3:∀{kk:ah},Ext W kk→aq none (jv s 5 k 3) (fun b=>kk[b]?)=some (x.sv,.au):=fun {kk} e=>o.sl.lG hlt (by rw[←hx];rfl) e
  have a4:∀{kk:ah},Ext W kk→aq none (jv s 5 k 4) (fun b=>kk[b]?)=some (.str x.ev.text,.au):=fun {kk} e=>o.sl.lG hlt (by rw[←hx];rfl) e
  have b0:∀{kk:ah},Ext W kk→aq none (jv t 5 k 0) (fun b=>kk[b]?)=some (.int .i64 x.ev.num,.au):=fun {kk} e=>by rw[←exy];exact p.sl.lG TA (by rw[←hy];rfl) e
  have b1:∀{kk:ah},Ext W kk→aq none (jv t 5 k 1) (fun b=>kk[b]?)=some (.str x.ev.kind,.au):=fun {kk} e=>by rw[←exy];exact p.sl.lG TA (by rw[←hy];rfl) e
  have b2:∀{kk:ah},Ext W kk→aq none (jv t 5 k 2) (fun b=>kk[b]?)=some (y.sn,.au):=fun {kk} e=>p.sl.lG TA (by rw[←hy];rfl) e
  have b3:∀{kk:ah},Ext W kk→aq none (jv t 5 k 3) (fun b=>kk[b]?)=some (y.sv,.au):=fun {kk} e=>p.sl.lG TA (by rw[←hy];rfl) e
  have b4:∀{kk:ah},Ext W kk→aq none (jv t 5 k 4) (fun b=>kk[b]?)=some (.str x.ev.text,.au):=fun {kk} e=>by rw[←exy];exact p.sl.lG TA (by rw[←hy];rfl) e
  have n0:decide (x.ev.num≠x.ev.num)=false:=Si
  have n1:decide (x.ev.kind≠x.ev.kind)=false:=Si
  have n4:decide (x.ev.text≠x.ev.text)=false:=Si
  refine Rs (Db t0 t1 t5 e3 o.sl.aL ix @iy @a0 @b0 @a1 @b1 @a2 @b2 @n0 @n1) ?_;refine WF.ce T.c25 (r25 T ox.n oyn (hn x RC).1 (hn x RC).1) fun g1=>?_
  refine Rs (A9 t0 t1 t5 ix @iy @a3 @b3 @Yk @Yw) ?_;refine WF.ce T.c62 (r62 T (ox.v.ext Xx) (oyv.ext Xx) (hn x RC).2 (hn x RC).2) fun g2=>?_
  refine Rs (nw t0 t1 t5 ix @iy @a4 @b4 @n4 @Yk @Yw e5) ?_;exact⟨_,Om,k+1,Om,rfl,eW.trans Xx,rfl⟩
 ·have e3:=fQ hlt;refine Rs (A5 t0 t1 t5 e3 o.sl.aL) ?_;exact⟨eW,trivial⟩
end
def Ir{l:List ed}{e:ed}(hm:e∈(bU l).1.ez):∃d,jG e d:=by
 by_cases h1: (bU l).2.2=0
 ·obtain⟨chn,_⟩:=yM h1;have:=chn.ok;obtain⟨l1,l2,hl⟩:=List.append_of_mem hm;rw[hl]at this;obtain⟨d,hd,_⟩:=(rL l1 l2 eX.zero e 0 this fk.zero).2.1;exact⟨d,hd⟩
 ·rw[vh h1]at hm;cases hm
def BM{l:List ed}{x:ed}(h:x∈nP l):∃e∈l,x.names=e.names∧x.b9=e.b9:=by
 unfold nP at h;obtain⟨i,hi,rfl⟩:=List.mem_mapIdx.1 h;exact⟨l[i],Yi _,rfl,rfl⟩
def Bi{l:List ed}{n:By}{x:ed}(h:x∈(e8 l n).1):x.names.length < 2^40∧x.b9.length < 2^40:=by
 unfold e8 at h;split at h
 ·cases h
 ·obtain⟨e,he,h1,h2⟩:=BM h;obtain⟨d,wd⟩:=Ir (Zk.1 he).1;rw[h1,h2,wd.nl,wd.vl];have: (bL d).length≤3∧cB d≤3:=by cases d<;>decide
  omega
def Dx(l:List ed)(n:By):bf [(bU l).2.2,bV (decide ((bU l).2.2=0) && !dG (bU l).1.now 0 n) 10]=bf [(bU l).2.2,bV (!dG (bU l).1.now 0 n) 10]:=by
 by_cases h: (bU l).2.2=0
 ·rw[X7 h,ZA]
 ·simp only[bf,Yd h]
def Dw(l:List ed)(n:By): (e8 l n).2=bf [(bU l).2.2,bV (!dG (bU l).1.now 0 n) 10]:=by
 rw[←Dx];unfold e8;split
 ·rfl
 ·rename_i h;exact(ZN.1 h).symm
def Gw{l:List Int}(h:EB l=0):l.length≤32∧∀s∈l,-1≤s∧s≤999999999:=by
 unfold EB at h;split at h
 ·cases h
 split at h
 ·cases h
 split at h
 ·cases h
 rename_i h1 h2 h3;refine⟨Om,fun s hs=>?_⟩;have h4:¬bh s 0 999999999≠0:=fun z=>h3 (ZE.2 ⟨s,hs,X7 z⟩)
 have:=gk h4;omega
def LR{l:List Int}(h: (n9 l).2=0): (n9 l).1=fC l:=by
 unfold n9 at h ⊢;split
 ·rename_i h1;rw[Yh h1]at h;exact absurd h h1
 ·rename_i h1;rw[Yd h1]at h;split
  ·rename_i h2;rw[Yh h2]at h;exact absurd h h2
  ·rfl
def LP{l:List Int}(h: (n9 l).2≠0): (n9 l).1=0:=by
 unfold n9 at h ⊢;split
 ·rfl
 ·rename_i h1;rw[Yd h1]at h;split
  ·rfl
  ·rename_i h2;rw[Yd h2]at h;exact absurd rfl h
def zD(k:Nat):ai:=(fn4).body.dr k
def rV(k:Nat):ai:=((fn4).body.dr k).hd
def M0:zD 8= .seq (rV 8) (zD 9):=rfl
def MZ:zD 9= .seq (rV 9) (zD 10):=rfl
def M1:fn4= ⟨91,3,[(6,none)],.seq (rV 0) (.seq (rV 1) (.seq (rV 2) (.seq (rV 3) (.seq (rV 4) (.seq (rV 5) (.seq (rV 6) (.seq (rV 7) (zD 8))))))))⟩:=rfl
section
variable {P:Program} (T:fy P) {h:ah}
include T
def Bg(ha:∀k,Ext h k→ay P 15 [] k (fun v _=>v= .bool true)){K:ah}{ts:TS}{A B:List EV}{u w:AV}{one two dg:Int}(eK:Ext h K)(oA:dB K A u)(oB:dB K B w)(e:A.map EV.ev=B.map EV.ev)(lA:A.length < 2^40)(nA:∀x∈A,x.ev.names.length < 2^40∧x.ev.b9.length < 2^40)(hlen:ts.length=91)
  (t7:slot ts 7=u) (t8:slot ts 8= .i one) (t9:slot ts 9= .i dg) (t10:slot ts 10= .i two) (t14:slot ts 14= .i one) (t15:slot ts 15= .i two) (t16:slot ts 16=w) (t17:slot ts 17= .i dg):
  WC P bR (zD 10) [] ts K (FQ [(6,none)] (MF h)):=by
 unfold zD fn4;simp only[ai.j,ai.s,ai.r,ai.dr,ai.tl];refine Rs (A9 t7 t8 t9 t10 t14 t15 t16 t17 @Yk) ?_;refine WF.ce T.c32 (r32 T oA oB e lA nA) fun g1=>?_
 refine Rs (A9 t7 t8 t9 t10 t14 t15 t16 t17 @Yk) ?_;refine WF.ce T.c15 (ha _ (eK.trans ⟨g1,rfl⟩)) fun g2=>?_
 refine Rs t7 ?_;exact⟨eK.trans (by rw[X4];exact⟨_,rfl⟩),rfl⟩
def Bf(ha:∀k,Ext h k→ay P 15 [] k (fun v _=>v= .bool true)){K:ah}{ts:TS}{A B:List EV}{u w sM:AV}{M:List Int}{one two dg:Int}(eK:Ext h K)(oA:dB K A u)(oB:dB K B w)(e:A.map EV.ev=B.map EV.ev)(lA:A.length < 2^40)(nA:∀x∈A,x.ev.names.length < 2^40∧x.ev.b9.length < 2^40)(hM:aK K sM 1 (M.map aJ))
  (h1:two=0→dg=fC M∧M.length < 2^30∧∀s∈M,-1≤s∧s≤999999999) (h2:two≠0→dg=0) (hlen:ts.length=91)
  (t2:slot ts 2=sM) (t7:slot ts 7=u) (t8:slot ts 8= .i one) (t9:slot ts 9= .i dg) (t10:slot ts 10= .i two) (t14:slot ts 14= .i one) (t15:slot ts 15= .i two) (t16:slot ts 16=w) (t17:slot ts 17= .i 0):
  WC P bR (zD 9) [] ts K (FQ [(6,none)] (MF h)):=by
 rw[MZ];generalize hR:zD 10=R;unfold rV fn4;simp only[ai.j,ai.s,ai.r,ai.dr,ai.tl,ai.hd];by_cases hz:two=0
 ·obtain⟨hd,hl,hb⟩:=h1 hz;have q:decide (two=0)=true:=X7 hz;refine Rs (nv t2 t7 t8 t9 t10 t14 t15 t16 t17 q) ?_;refine WF.ce T.c31 (r31 T hM hl hb) fun g=>?_
  refine Rs (A9 t2 t7 t8 t9 t10 t14 t15 t16 t17) ?_;rw[←hR];exact Bg T ha (one:=one) (two:=two) (dg:=dg) (eK.trans ⟨g,rfl⟩) (oA.ext ⟨g,rfl⟩) (oB.ext ⟨g,rfl⟩) e lA nA Sn (Sq t7) (Sq t8) (Sq t9) (Sq t10) (Sq t14) (Sq t15) (Sq t16) (Sq @hd)
 ·have q:decide (two=0)=false:=X3 hz;have hd:=h2 hz;refine Rs (nv t2 t7 t8 t9 t10 t14 t15 t16 t17 q) ?_;rw[←hR];exact Bg T ha (one:=one) (two:=two) (dg:=dg) eK oA oB e lA nA Sn (Sq t7) (Sq t8) (Sq t9) (Sq t10) (Sq t14) (Sq t15) (Sq t16) (Sq (A2 t17 @hd))
def G0(ha:∀k,Ext h k→ay P 15 [] k (fun v _=>v= .bool true)){K:ah}{ts:TS}{A L:List EV}{u s sM:AV}{n:By}{M:List Int}{one two dg:Int}(eK:Ext h K)(oA:dB K A u)(hA:A.map EV.ev= (e8 (L.map EV.ev) n).1)(h0:one= (e8 (L.map EV.ev) n).2)(oL:dB K L s)(sh:zp L)(nl:ME L)(hM:aK K sM 1 (M.map aJ))
  (h1:two=0→dg=fC M∧M.length < 2^30∧∀s∈M,-1≤s∧s≤999999999) (h2:two≠0→dg=0) (hlen:ts.length=91)
  (t0:slot ts 0=s) (t1:slot ts 1= .str n) (t2:slot ts 2=sM) (t7:slot ts 7=u) (t8:slot ts 8= .i one) (t9:slot ts 9= .i dg) (t10:slot ts 10= .i two) (t14:slot ts 14= .i one) (t15:slot ts 15= .i two) (t16:slot ts 16= .af) (t17:slot ts 17= .i 0):
  WC P bR (zD 8) [] ts K (FQ [(6,none)] (MF h)):=by
 have nA:∀x∈A,x.ev.names.length < 2^40∧x.ev.b9.length < 2^40:=fun x hx=>Bi (by rw[←hA];exact Yx hx)
 rw[M0];generalize hR:zD 9=R;unfold rV fn4;simp only[ai.j,ai.s,ai.r,ai.dr,ai.tl,ai.hd];by_cases hz:one=0
 ·have q:decide (one=0)=true:=X7 hz;refine Rs (pJ t0 t1 t2 t7 t8 t9 t10 t14 t15 t16 t17 q) ?_;refine WF.res T.c30 (r30 T oL sh nl n) ?_;rintro w g ⟨B,oB,hB,lB⟩;refine Rs (nw t0 t1 t2 t7 t8 t9 t10 t14 t15 t16 t17) ?_;rw[←hR];have hs: (e8 (L.map EV.ev) n).1=nP ((bU (L.map EV.ev)).1.ez.filter (cE n)):=by
   rw[h0]at hz;unfold e8 at hz ⊢;split
   ·rename_i hh;rw[Yh hh]at hz;exact absurd hz hh
   ·rfl
  have hAB:A.map EV.ev=B.map EV.ev:=by rw[hA,hs,hB]
  have lA:A.length=B.length:=by have:=YC List.length hAB;simpa using this
  exact Bf T ha (one:=one) (two:=two) (dg:=dg) (M:=M) (eK.trans ⟨g,rfl⟩) (oA.ext ⟨g,rfl⟩) oB hAB Om nA (hM.ext ⟨g,rfl⟩) h1 h2 Sn (Sq t2) (Sq t7) (Sq t8) (Sq t9) (Sq t10) (Sq t14) (Sq t15) Sw (Sq t17)
 ·have q:decide (one=0)=false:=X3 hz;refine Rs (pJ t0 t1 t2 t7 t8 t9 t10 t14 t15 t16 t17 q) ?_;rw[←hR];have hs: (e8 (L.map EV.ev) n).1= []:=by
   rw[h0]at hz;unfold e8 at hz ⊢;split
   ·rfl
   ·rename_i hh;rw[Yd hh]at hz;exact absurd rfl hz
  have hA0:A= []:=by rw[hs]at hA;exact List.map_eq_nil_iff.1 hA
  have oB:dB K ([] :List EV) .af:=⟨.nil,fun x hx=>by cases hx⟩;exact Bf T ha (one:=one) (two:=two) (dg:=dg) (M:=M) (B:=[]) eK oA oB (by rw[hA0]) (by rw[hA0];simp) nA hM h1 h2 Sn (Sq t2) (Sq t7) (Sq t8) (Sq t9) (Sq t10) (Sq t14) (Sq t15) (Sq t16) (Sq t17)
def r4(ha:∀k,Ext h k→ay P 15 [] k (fun v _=>v= .bool true)){L:List EV}{s:AV}(o:dB h L s)(sz:GB L)(gl:Gl h)(n:By){M:List Int}{sM:AV}(hM:aK h sM 1 (M.map aJ))(hMl:M.length < 2^63):ay P 4 [s,.str n,sM] h (fun v _=>v= .bool true):=by
 refine .of T.mix (aaE T.c4 (YC some M1)) ?_;obtain⟨ts,QV⟩:∃ts,ts=aU 91 [s,.str n,sM]:=⟨_,rfl⟩;have hlen:ts.length=91:=by rw[QV];rfl
 have t0:slot ts 0=s:=by rw[QV];rfl
 have t1:slot ts 1= .str n:=by rw[QV];rfl
 have t2:slot ts 2=sM:=by rw[QV];rfl
 show WC P bR (.seq (rV 0) (.seq (rV 1) (.seq (rV 2) (.seq (rV 3) (.seq (rV 4) (.seq (rV 5) (.seq (rV 6) (.seq (rV 7) (zD 8))))))))) [] (aU 91 [s,.str n,sM]) h (FQ [(6,none)] (MF h));rw[←QV];clear QV;generalize hR:zD 8=R;unfold rV fn4;simp only[ai.j,ai.s,ai.r,ai.dr,ai.tl,ai.hd];refine Rs (A3 t0 t1 t2) ?_;refine WF.ce T.c14 (r14 T o sz.l (fun x hx=>(sz.e x hx).n) De) fun g1=>?_
 by_cases hall:k8 (L.map EV.ev) 24=true∧¬ (40:Int)< (n.length:Int)∧¬ (33:Int)< (M.length:Int)
 case neg=>
  cases hsh:k8 (L.map EV.ev) 24 with
  | false=>
   refine Rs (A4 t0 t1 t2 @Yz) ?_;exact z105
  | true=>
  by_cases c0: (40:Int)< (n.length:Int)
  ·have q0:decide ((40:Int)< (n.length:Int))=true:=X7 c0;refine Rs (A5 t0 t1 t2 @Yw q0) ?_;exact z105
  have q0:decide ((40:Int)< (n.length:Int))=false:=X3 c0;by_cases c1: (33:Int)< (M.length:Int)
  ·have q1:decide ((33:Int)< (M.length:Int))=true:=X7 c1;refine Rs (A7 t0 t1 t2 @Yw q0 hM.aL q1) ?_;exact z105
  exact absurd ⟨hsh,c0,c1⟩ hall
 obtain⟨hsh,c0,c1⟩:=hall;have q0:decide ((40:Int)< (n.length:Int))=false:=X3 c0;have q1:decide ((33:Int)< (M.length:Int))=false:=X3 c1;rw[hsh];obtain⟨sh,nl,_,_⟩:=Bj hsh De;refine Rs (A7 t0 t1 t2 @Yw q0 hM.aL q1) ?_;refine WF.res T.c26 (r26 T (o.ext Xx) sh (gl.ext Xx) n) ?_;rintro _ g2 ⟨u,A,rfl,oA,hA⟩;refine Rs (A3 t0 t1 t2) ?_;obtain⟨b,hb⟩:∃b,b= (h++g1++g2).length:=⟨_,rfl⟩;refine WR.pA (N:=b) ba (by rw[hb];exact Yg _) (hM.ext Xx) (by simp only[Ya];omega) fun t g3 f=>?_
 have ft:=f.aX;refine Rs (A3 t0 t1 t2) ?_;refine WF.ce T.c27 (r27 T ft Om) fun g4=>?_
 refine Rs (A3 t0 t1 t2) ?_;refine WF.res T.c18 (r18 T (o.ext Xx) sh nl) ?_;rintro _ g5 ⟨V,rfl,oV,hV,wV,lo⟩;have st:=@aC.st _ _ oV;obtain⟨l,hl⟩:∃l,l=L.map EV.ev:=⟨_,rfl⟩;rw[←hl]at hV hA ⊢;obtain⟨K,hK⟩:∃K,K=h++g1++g2++ [ak.b []]++g3++g4++g5:=⟨_,rfl⟩;have eK:Ext h K:=by rw[hK];exact Xx
 have oA:dB K A u:=oA.ext (by rw[hK];exact Xx);rw[←hK]at oV ⊢;clear hK lo;refine Rs (A4 t0 t1 t2 @st) ?_;obtain⟨K1,Uq⟩:∃Z,Z=K++ [ak.b V.row]:=⟨_,rfl⟩;have e1:Ext K K1:=by rw[Uq];exact⟨_,rfl⟩
 have mb:K1[K.length]? =some (.b V.row):=by rw[Uq];exact ba
 have lb:=@fH _ _ _ mb;rw[←Uq];have oV:=oV.ext e1;refine Rs (A5 t0 t1 t2 @lb @aG) ?_;refine WF.ce T.c28 (r28 T oV wV.len n) fun f1=>?_
 have a0:=KN V n;rw[hV]at a0;refine Rs (A4 t0 t1 t2 @a0) ?_;refine WF.ce T.c19 (r19 T _ _) fun f2=>?_
 refine Rs (A3 t0 t1 t2) ?_;refine WF.ce T.c21 (r21 T (cw [_,_]) Si) fun f3=>?_
 rw[←Dw];refine Rs (A3 t0 t1 t2) ?_;refine WF.ce T.c29 (r29 T (hM.ext (eK.trans (e1.trans Xx))) Om) fun f4=>?_
 rw[yd];refine Rs (A3 t0 t1 t2) ?_;rw[←hR];obtain⟨K2,hK2⟩:∃Z,Z=K1++f1++f2++ [ak.cells [.i (bU l).2.2,.i (bV (!dG (bU l).1.now 0 n) 10)] true true]++f3++f4:=⟨_,rfl⟩;have e2:Ext K1 K2:=by rw[hK2];exact Xx
 rw[←hK2];have eA:=e1.trans e2;rw[hl]at hA ⊢;refine G0 T ha (A:=A) (L:=L) (u:=u) (s:=s) (sM:=sM) (n:=n) (M:=M) (one:=(e8 (L.map EV.ev) n).2) (two:=(n9 M).2) (dg:=(n9 M).1) (eK.trans eA) (oA.ext eA) hA rfl (o.ext (eK.trans eA)) sh nl (hM.ext (eK.trans eA)) (fun z=>⟨LR z,by have:=(Gw (by rw[yd];exact z)).1;omega,(Gw (by rw[yd];exact z)).2⟩) LP Sn (Sq t0) (Sq t1) (Sq t2) Sw Sw Sw Sw Sw Sw Sw Sw
end
end Go.Abs
