/- A part of the proof that HouseSessions holds. No condition. -/
import Derived.Test.YtgplmdgpmbegiaaGreatDoorSe10
import Derived.Test.YtgplmdgpmbegiaaGreatDoorSe9
import Derived.Test.YtgplmdgpmbegiaaGreatDoorSe0
set_option maxHeartbeats 4000000
set_option linter.all false
open Nat (reduceAdd reduceMul reduceLeDiff reduceEqDiff)
namespace Go.Abs
def cg.move{N h b V}(o:cg N h b V):cg N (h++[.cells [V.se,V.sc,V.sr] true false]) h.length V:=by
 have hbl:=(ZM.1 o.hb).1;have hN:=o.hN;have le:=λj (hj:sB V.se=some j)=>(o.oe.bB hj).2
 have lc:=λj (hj:sB V.sc=some j)=>(o.oc.bB hj).2
 have lg:=λj (hj:sB V.sr=some j)=>(o.og.bB hj).2
 have hlt:∀y∈[sB V.se,sB V.sc,sB V.sr],∀c,some h.length=some c->y≠some c:=λy hy c hc e=>by
  cases hc;simp only[aap,aaI,abm]at hy;rcases hy with rfl|rfl|rfl
  ·have:=le _ e;omega
  ·have:=lc _ e;omega
  ·have:=lg _ e;omega
 have hs:gZ (fh (V.ex b) h) (fh (V.ex h.length) (h++[.cells [V.se,V.sc,V.sr] true false])):=jC (λi hi _=>ZQ hi) (λi hi hm=>by
  unfold HV.ex at hm ⊢;rcases aap.1 hm with hm|hm
  ·cases hm;omega
  ·exact aao _ hm)
 exact⟨Om,ba,o.oe.aB λj hj=>ZQ (le j hj),o.oc.aB λj hj=>ZQ (lc j hj),o.og.aB λj hj=>ZQ (lg j hj),
  aaM.2 ⟨hlt,(aaM.1 o.di).2⟩,λx hx=>(o.ae x hx).sub hs,λx hx=>(o.ac x hx).sub hs,λx hx=>(o.ag x hx).sub hs,o.lo⟩
def L5(k:Nat):ai:=(fn41).body.dr k
def Iv(k:Nat):ai:=((fn41).body.dr k).hd
def Pg:fn41=⟨36,1,[(2,none),(3,none)],.seq (Iv 0) (.seq (Iv 1) (.seq (Iv 2) (L5 3)))⟩:=rfl
def iR(s:By):Int:=if(cj s).2.2≠0/\(cj s).2.2≠28 then(cj s).2.2 else(bF (cj s).1).2.2
def QV(h:ah)(s:By)(v:AV)(k:ah):Prop:=
 (iR s≠0->v=.dz [.nilPtr,.int .i64 (iR s)])/\
 (iR s=0->∃B b V,v=.dz [.ptr b 0,.int .i64 0]/\Ext h B/\Ext B k/\cg B.length k b V/\V.bP=(bF (cj s).1).1/\lJ V.bP/\V.cN.length=(cj s).1.length/\(cj s).1.length<=1000)
set_option maxRecDepth 10000
attribute [local irreducible] WP WC WE WB WR WF WL WG fR WQ WM
section
variable {P:Program}(T:fD P) {h:ah}
include T
def R6(s:By):ay P 43 [.nilPtr,.str s] h (λv _=>v=.dz [.str [],.int .i64 22]):=by
 refine .fo 97 T.mix T.c43 ?_;intro ts hlen t0 t1;unfold fn43;have q:mS Ke.yJ .nilPtr .nilPtr=some true:=rfl;exact Rs (A3 t0 t1 q) Tv
def R5:ay P 44 [.nilPtr] h (λv _=>v=.af):=by
 refine .jd 11 T.mix T.c44 ?_;intro ts hlen t0;unfold fn44 gA;exact KU
def R4:ay P 45 [.nilPtr] h (λv _=>v=.str []):=by
 refine .jd 12 T.mix T.c45 ?_;intro ts hlen t0;unfold fn45 gA;exact KU
def L1{W:ah}{L:List EV}{sl:AV}{s:By}{ts:TS}(eW:Ext h W)(r:BJ W s L sl)(hs:s.length<=2^16)(gl:Gl W)(he:iR s=(bF (cj s).1).2.2)(hlen:ts.length=36)(t4:slot ts 4=sl):
  WC P bL (L5 3) [] ts W (FQ [(2,none),(3,none)] λv k=>Ext h k/\QV h s v k):=by
 have hl:=r.len;have sh:x6 L:=⟨Om,λx hx=>by obtain⟨d,w⟩:=r.wf x hx;have:=vG w;omega⟩;unfold L5 fn41 gA;simp only[ai.j,ai.s,ai.r,ai.dr,ai.tl];refine Rs t4 ?_;refine WF.res T.c78 (r78 T r.o sh gl) ?_;rintro _ g ⟨p,rfl,Uc,hok⟩;rw[r.e]at Uc hok ⊢;by_cases hz:(bF (cj s).1).2.2=0
 case neg=>
  have d1:decide ((bF (cj s).1).2.2≠0)=true:=ZR hz;refine Rs (A2 t4 @d1) ?_;refine⟨eW.trans ⟨g,rfl⟩,λ_=>by rw[he],λz=>absurd (he.symm.trans z) hz⟩
 obtain⟨b,V,rfl,o,hV,w,hVl,Xe⟩:=hok hz;have d1:decide ((bF (cj s).1).2.2≠0)=false:=ZN λz=>z hz
 have lb:=@fw _ _ _ o.hb;have bx:∀{N:Nat},nK (.agg [V.se,V.sc,V.sr]) N=some (.ptr N 0,.push (.cells [V.se,V.sc,V.sr] true false)):=λ{N}=>by
  have c:(AV.agg [V.se,V.sc,V.sr]).cells=[V.se,V.sc,V.sr]:=rfl;have a:([V.se,V.sc,V.sr] :List AV).all AV.one=true:=by simp only[abp,List.all_nil,o.oe.aO.one,o.oc.aO.one,o.og.aO.one,Bool.and_self]
  simp only[nK,c,a,Z7]
 refine Rs (A4 t4 @d1 @lb @bx) ?_;refine⟨eW.trans Xx,λz=>absurd (he.trans hz) z,λ_=>⟨W,_,V,rfl,eW,Xx,o.move,hV,w,hVl,Xe⟩⟩
def r41(X:xX P)(Z:nj P)(w:Pw h)(gl:Gl h)(s:By)(hs:s.length<=2^16):ay P 41 [.str s] h (λv k=>QV h s v k):=by
 refine .of T.mix (acb T.c41 (aan some Pg)) ?_;obtain⟨ts,Sv⟩:∃ts,ts=aU 36 [.str s]:=⟨_,rfl⟩;have hlen:ts.length=36:=by rw[Sv];rfl
 have t0:slot ts 0=.str s:=by rw[Sv];rfl
 show WC P bL (.seq (Iv 0) (.seq (Iv 1) (.seq (Iv 2) (L5 3)))) [] (aU 36 [.str s]) h (FQ [(2,none),(3,none)] λv k=>Ext h k/\QV h s v k);rw[<-Sv];clear Sv;generalize hR:L5 3=R;unfold Iv fn41 gA;simp only[ai.j,ai.s,ai.r,ai.dr,ai.tl,ai.hd];refine Rs t0 ?_;refine WF.res T.c37 (r37 T X Z w s Om) ?_;rintro _ g1 ⟨L,sl,hL,rfl,fr,hin⟩;have r:BJ (h++g1) s L sl:=⟨⟨fr.aO,λy hy=>(hin y hy).ok⟩,hL⟩;have eW:Ext h (h++g1):=⟨g1,rfl⟩;by_cases h0:(cj s).2.2=0
 ·have d1:decide ((cj s).2.2≠0)=false:=ZN λz=>z h0
  have he:iR s=(bF (cj s).1).2.2:=ZW λz=>z.1 h0
  refine Rs (A2 t0 @d1) ?_;rw[<-hR];exact L1 T eW r hs (gl.ext eW) he Sn Sw
 have d1:decide ((cj s).2.2≠0)=true:=ZR h0;by_cases h1:(cj s).2.2=28
 ·have d2:decide ((cj s).2.2≠28)=false:=ZN λz=>z h1
  have he:iR s=(bF (cj s).1).2.2:=ZW λz=>z.2 h1
  refine Rs (A3 t0 @d1 @d2) ?_;rw[<-hR];exact L1 T eW r hs (gl.ext eW) he Sn Sw
 have d2:decide ((cj s).2.2≠28)=true:=ZR h1;have he:iR s=(cj s).2.2:=ZY ⟨h0,h1⟩;refine Rs (A3 t0 @d1 @d2) ?_;exact⟨λ_=>by rw[he],λz=>absurd (he.symm.trans z) h0⟩
end
structure rj(B K:ah)(b:Nat)(V:HV)(L:List EV)(sl:AV):Prop where
 ext:Ext B K
 o:cg B.length K b V
 w:lJ V.bP
 ev:eJ (fh (V.ex b) K) L sl
 rep:bF (L.map EV.ev)=(V.bP,0,0)
def sub_self{ex h}:gZ (fh ex h) h:=λ_ _ _ _ hb=>(oz hb).2
theorem eJ.sub{k h L sl}(o:eJ k L sl)(e:gZ k h):eJ h L sl:=⟨o.sl.sub e,λx hx=>(o.all x hx).sub e⟩
def rj.ok{B K b V L sl}(i:rj B K b V L sl):eJ K L sl:=i.ev.sub sub_self
theorem rj.cN{B K b V L sl}(i:rj B K b V L sl):V.bP.cN=L.map EV.ev:=by
 have h:=EM (l:=L.map EV.ev) (by rw[i.rep]);rw[i.rep]at h;exact h
def rj.len{B K b V L sl}(i:rj B K b V L sl):V.cN.length=L.length/\L.length<=1000:=by
 have h:=aan List.length i.cN;have h2:=zB (l:=L.map EV.ev) (by rw[i.rep]);rw[ZU]at h h2;exact⟨by simpa [HV.bP]using h,h2⟩
theorem rj.app{B K b V L sl}(i:rj B K b V L sl)(g:ah):rj B (K++g) b V L sl:=
 ⟨i.ext.trans ⟨g,rfl⟩,i.o.app g,i.w,i.ev.sub (jC (λ_ hb _=>ZQ hb) (λ_ _ hb=>hb)),i.rep⟩
def rj.wf{B K b V L sl}(i:rj B K b V L sl):∀x∈L,∃d,kH x.ev d:=λx hx=>i.w.ev x.ev (by rw[i.cN];exact aah hx)
def zX{N K b V}(o:cg N K b V){j}(hj:some j∈V.ex b):j<K.length:=by
 unfold HV.ex at hj;simp only[aap,aaI,abm]at hj;rcases hj with hj|hj|hj|hj
 ·cases hj;exact(ZM.1 o.hb).1
 ·exact(o.oe.bB hj.symm).2
 ·exact(o.oc.bB hj.symm).2
 ·exact(o.og.bB hj.symm).2
def Em{B K k:ah}{b:Nat}{V:HV}{R v}(s:lQ B K b V R v k):∃V',v=.dz [.str R.2.1,.int .i64 R.2.2]/\Ext B k/\cg B.length k b V'/\V'.bP=R.1/\gZ (fh (V.ex b) K) (fh (V'.ex b) k)/\(∀i,i<K.length->some i∉V.ex b->k[i]? =K[i]?)/\(∀j,some j∈V'.ex b->some j∈V.ex b\/K.length<=j):=by
 obtain⟨g',V',rfl,hv,o,hV,hk,he⟩:=s;refine⟨V',hv,⟨g',rfl⟩,o,hV,jC hk (λi hi hm=>?_),hk,he⟩;rcases he i hm with h|h
 ·exact h
 ·omega
def rj.same{B K k:ah}{b:Nat}{V V':HV}{L sl}(i:rj B K b V L sl)(e:Ext B k)(o:cg B.length k b V')(hV:V'.bP=V.bP)(s:gZ (fh (V.ex b) K) (fh (V'.ex b) k)):rj B k b V' L sl:=
 ⟨e,o,by rw[hV];exact i.w,i.ev.sub s,by rw[hV];exact i.rep⟩
def rj.more{B K k W:ah}{b:Nat}{V V':HV}{L:List EV}{sl s4:AV}{x:EV}(i:rj B K b V L sl)(e:Ext B k)(o:cg B.length k b V')(hV:V'.bP=ka V.bP x.ev)(hb:ez V.bP x.ev=0)(hl:V.bP.cN.length<1000)(s:gZ (fh (V.ex b) K) (fh (V'.ex b) k))(ox:bj (fh (V'.ex b) k) x)
  (eW:Ext k W) (h4:aI W s4 5 ((L++[x]).map EV.row)) (h4k:∀j,sB s4=some j->k.length<=j):rj B W b V' (L++[x]) s4:=by
 obtain⟨z,rfl⟩:=eW;have hs:gZ (fh (V'.ex b) k) (fh (V'.ex b) (k++z)):=jC (λ_ hb _=>ZQ hb) (λ_ _ hb=>hb);refine⟨e.trans ⟨z,rfl⟩,o.app z,by rw[hV];exact i.w.add hb,⟨h4.fh λj hj hm=>?_,λy hy=>?_⟩,?_⟩
 ·have:=zX o hm;have:=h4k j hj;omega
 ·rcases ZX.1 hy with hy|hy
  ·exact((i.ev.all y hy).sub s).sub hs
  ·rw[Z9.1 hy];exact ox.sub hs
 ·have hr:=i.rep;have hle:(L.map EV.ev).length<1000:=by rw[<-i.cN];exact hl
  rw[ZV];show bF (L.map EV.ev++[x.ev])=_;rw[tH (by rw[hr]) hle,hr,ZW (λz=>z hb),hV]
def tE(k:Nat):ai:=(fn7).body.dr k
def tF(k:Nat):ai:=((fn7).body.dr k).hd
def OK:tE 8=.seq (tF 8) (tE 9):=rfl
def Di{N K b V}(o:cg N K b V){j}(hj:some j∈V.ex b):N<=j:=by
 unfold HV.ex at hj;simp only[aap,aaI,abm]at hj;rcases hj with hj|hj|hj|hj
 ·cases hj;exact o.hN
 ·exact(o.oe.bB hj.symm).1
 ·exact(o.oc.bB hj.symm).1
 ·exact(o.og.bB hj.symm).1
theorem Co:∀{l:List fi}{H:ju}{i:Nat},(ia H l i).2.2=0->(ia H l i).2.1=0
 |[],_,_,_=>rfl
 |e::r,H,i,h=>by
  rw[ia]at h ⊢;split at h
  ·rename_i hb;exact absurd h hb
  ·rename_i hb;rw[ZW hb];exact Co h
def Ii{l:List fi}(h:(bF l).2.2=0):bF l=((bF l).1,0,0):=by
 have h1:(bF l).2.1=0:=by
  unfold bF at h ⊢;split at h
  ·exact absurd h De
  ·rename_i hl;rw[ZW hl];exact Co h
 exact Prod.ext rfl (Prod.ext h1 h)
def LO:tE 6=.seq (tF 6) (.seq (tF 7) (tE 8)):=rfl
def LP:tE 5=.seq (tF 5) (tE 6):=rfl
def OL:fn7=⟨148,2,[(4,none)],.seq (tF 0) (.seq (tF 1) (.seq (tF 2) (.seq (tF 3) (.seq (tF 4) (tE 5)))))⟩:=rfl
theorem zN:∀{l:List fi},(∀e∈l,(lU e).length<=529)->(iL l).length<=l.length*529
 |[],_=>by simp[iL]
 |e::r,h=>by
  have h1:=h e Si;have h2:=zN (l:=r) λy hy=>h y (aao _ hy)
  have q:iL (e::r)=lU e++iL r:=by simp[iL]
  rw[q,ZL,ZP,aa5];omega
section
variable {P:Program}(T:fD P) {h:ah}
include T
def H4(ha:∀k,Ext h k->ay P 15 [] k (λv _=>v=.bool true))(Z:nj P){B K:ah}{b:Nat}{V:HV}{L:List EV}{sl:AV}{ts:TS}(eB:Ext h B)(pw:Pw B)(i:rj B K b V L sl)(hlen:ts.length=148)(t5:slot ts 5=sl)(t8:slot ts 8=.ptr b 0):
  WC P bL (tE 9) [] ts K (FQ [(4,none)] (JZ h)):=by
 have hl:=i.len;have TF:(iL (L.map EV.ev)).length<=(L.map EV.ev).length*529:=zN λe he=>by
  obtain⟨x,hx,rfl⟩:=aal.1 he;obtain⟨d,we⟩:=i.wf x hx;have:=(yP we).2;rw[CC];omega
 rw[ZU]at TF;have eK:=eB.trans i.ext;have pwK:=pw.ext i.ext;unfold tE fn7 gA;simp only[ai.j,ai.s,ai.r,ai.dr,ai.tl];refine Rs (A2 t5 t8) ?_;refine WF.ce T.c43 (R6 T _) λg1=>?_
 refine Rs (A2 t5 t8) ?_;refine WF.res T.c44 (r44 T ((i.app g1).o.rd) i.w Om) ?_;rintro v g2 ⟨L',VC,oL'⟩;refine Rs (A2 t5 t8) ?_;refine WF.ce T.c32 (r32 T oL' (i.ok.ext Xx) (by rw[VC,i.cN]) (by have:=aan List.length VC;rw[i.cN,ZU,ZU]at this;omega) (λx hx=>?_)) λg3=>?_
 ·have hm:x.ev∈L.map EV.ev:=by rw[<-i.cN,<-VC];exact aah hx
  obtain⟨y,hy,e⟩:=aal.1 hm;obtain⟨d,we⟩:=i.wf y hy;rw[e]at we;have:=vG we;omega
 refine Rs (A2 t5 t8) ?_;refine WF.ce T.c45 (r45 T Z (pwK.ext Xx) ((((i.app g1).app g2).app g3).o.rd) i.w Om) λg4=>?_
 refine Rs (A2 t5 t8) ?_;refine WF.ce T.c40 (r40 T (i.ok.ext Xx) (λy hy=>by obtain⟨d,we⟩:=i.wf y hy;exact Lt we) Om Om) λg5=>?_
 rw[i.cN];refine Rs (A3 t5 t8 @Z5) ?_;refine WF.ce T.c44 (R5 T) λg6=>?_
 have ln:∀G,j9 .sl G .af=some 0:=λG=>rfl
 have d0:decide (((0:Nat):Int)=0)=true:=rfl
 repeat (first|simp (config:={maxSteps:=1000000}) only[aQ,aR,aX,aY,reduceAdd,reduceMul,reduceLeDiff,reduceEqDiff,bd,hlen,Z3,Z7,t5,t8,ln,d0,Z5]|simp (config:={maxSteps:=1000000}) (disch:=first|(simp only[ZL,ZP,ZT]<;>omega)|rfl|omega|fail) only[eD,aQ,aR,aX,aY,reduceAdd,reduceMul,reduceLeDiff,reduceEqDiff,bd,hlen,Z3,Z7,t5,t8,ln,d0,Z5])
 refine WF.ce T.c45 (R4 T) λg7=>?_
 refine Rs (A3 t5 t8 @Z5) ?_;refine WF.ce T.c15 (ha _ (eK.trans Xx)) λg8=>?_
 refine Rs t5 ?_;exact⟨eK.trans Xx,rfl⟩
def H3{B Y:ah}{b:Nat}{V:HV}(e:Ext B Y)(o:cg B.length Y b V)(w:lJ V.bP)(hl:V.cN.length<=1000)(gl:Gl B)(pw:Pw B)(X:xX P)(Z:nj P)(s:By)(hs:s.length<=2^36):
  dE P 43 [.ptr b 0,.str s] Y (λv k=>lQ B Y b V (pV V.bP s) v k):=by
 obtain⟨g,rfl⟩:=e;exact RQ T o w hl gl pw X Z s hs
def Ep(ha:∀k,Ext h k->ay P 15 [] k (λv _=>v=.bool true))(X:xX P)(Z:nj P){B K:ah}{b:Nat}{V:HV}{L:List EV}{sl lv:AV}{ws:List (By)}{ts:TS}(eB:Ext h B)(pw:Pw B)(gl:Gl B)(i:rj B K b V L sl)(hws:aI h lv 1 (ws.map ak))(hwl:ws.length<=8)(hlen:ts.length=148)(t1:slot ts 1=lv)(t5:slot ts 5=sl)(t8:slot ts 8=.ptr b 0):
  WC P bL (tE 8) [] ts K (FQ [(4,none)] (JZ h)):=by
 rw[OK];generalize hR:tE 9=R;unfold tF fn7 gA;simp only[ai.j,ai.s,ai.r,ai.dr,ai.tl,ai.hd];refine Rs (A4 t1 t5 t8 hws.aL) ?_;refine WL.inv T.mix (λn ts K=>∃(k:Nat) (V:HV) (L:List EV) (sl:AV),k<=ws.length/\n=ws.length-k/\rj B K b V L sl/\ts.length=148/\slot ts 5=sl/\slot ts 8=.ptr b 0/\slot ts 69=lv/\slot ts 70=.i ws.length/\slot ts 71=.i k) ws.length
  ⟨0,V,L,sl,Om,rfl,i,Sn,(Sq t5),(Sq t8),Sw,Sw,gf⟩ ?_
 clear hlen t1 t5 t8 i K V L sl;rintro _ ts K ⟨k,V,L,sl,hk,rfl,i,hlen,t5,t8,t69,t70,t71⟩;have eK:=eB.trans i.ext;have pwK:=pw.ext i.ext;by_cases hlt:k<ws.length
 case neg=>
  have e3:=fq hlt;refine Rs (A6 t5 t8 t69 t70 t71 e3) ?_;rw[<-hR];exact H4 T ha Z eB pw i Sn (Sq t5) (Sq t8)
 have e3:=eF hlt;have ix:=hws.dA (kk:=.i64) hlt;have ld:∀{kk:ah},Ext K kk->aq none (cF lv 1 k) (λb=>kk[b]?)=some (.str ws[k],.ar):=λ{kk} e=>hws.gR hlt rfl (eK.trans e)
 generalize ws[k]=s at ld;have TF:=i.len;have eX:∀{k:ah},Ext K k->Ext h k:=λe=>eK.trans e
 by_cases hlong:300<s.length/\s.length≠4097
 ·have d1:decide ((300:Int)<s.length)=true:=ZR Om;have d2:decide ((s.length:Int)≠4097)=true:=ZR Om;refine Rs (kJ t5 t8 t69 t70 t71 e3 ix @ld @d1 @d2) ?_;refine WF.ce T.c15 (ha _ (eX Xx)) λg2=>?_
  refine Rs t5 ?_;exact⟨eX Xx,rfl⟩
 have hsl:s.length<=4097:=Om
 have sh:x6 L:=⟨Om,λx hx=>by obtain⟨d,w⟩:=i.wf x hx;have:=vG w;omega⟩;have nl:Kc L:=⟨λx hx n hn=>by obtain⟨d,w⟩:=i.wf x hx;have:=om (w.nm n hn);omega⟩;have hev:V.bP.cN.length=L.length:=by rw[i.cN,ZU]
 have go:∀{c1:Bool},decide ((300:Int)<s.length)=c1->(c1=true->decide ((s.length:Int)≠4097)=false):=λ{c1} h1 h2=>by
  subst h1;have:=aaQ h2;exact ZN λz=>hlong ⟨Om,Om⟩
 have dW:(decide ((300:Int)<s.length)=false\/(decide ((300:Int)<s.length)=true/\decide ((s.length:Int)≠4097)=false)):=by
  by_cases h3:300<s.length
  ·exact .inr ⟨ZR Om,go rfl (ZR Om)⟩
  ·exact .inl (ZN Om)
 rcases dW with d1|⟨d1,d2⟩
 case' inl=>have d2:=d1
 all_goals
  refine Rs (kJ t5 t8 t69 t70 t71 e3 ix @ld @d1 @d2) ?_;refine WF.res T.c42 (r42 T i.ok sh nl i.rep hev s Om) ?_;rintro _ g1 ⟨x,is,rfl,fn,fv,h0,h1⟩;have ox:bj _ x:=⟨fn.aO,fv.aO⟩;have st:∀{b':Nat}{a0 a1 a2 a3 a4:AV},kG 5 0 (.agg x.row) b' (.b [a0,a1,a2,a3,a4])=some (aA,.set b' (.b x.row)):=λ{_ _ _ _ _ _}=>ox.st
  refine Rs (A6 t5 t8 t69 t70 t71 @st) ?_;obtain⟨Y,hY⟩:∃Z,Z=K++g1++[an.b x.row]:=⟨_,rfl⟩;obtain⟨nb,SK⟩:∃Z,Z=(K++g1).length:=⟨_,rfl⟩;have mb:Y[nb]? =some (.b x.row):=by rw[hY,SK];exact ba
  have iY:rj B Y b V L sl:=by rw[hY];exact(i.app g1).app _
  have oxY:bj Y x:=by rw[hY];exact ox.ext ⟨_,rfl⟩
  have hnb2:K.length<=nb/\nb<Y.length:=by rw[hY,SK];simp only[ZL,Z6];omega
  rw[<-hY,<-SK];refine WF.gen T.c43 (H3 T iY.ext iY.o i.w Om gl pw X Z s Om) ?_;intro v W hv;obtain⟨V',rfl,e',o',Wc,hsub,Vy,hex⟩:=Em hv;obtain⟨m,hm⟩:∃m,m=(pV V.bP s).2.1:=⟨_,rfl⟩;obtain⟨c,hc⟩:∃c,c=(pV V.bP s).2.2:=⟨_,rfl⟩;rw[<-hm,<-hc];have d3:decide (c≠c)=false:=ZN λz=>z rfl
  have d4:decide (m≠m)=false:=ZN λz=>z rfl
  have e5:=wrapN (n:=k) Om;cases is with
  |false=>
   have i2:=iY.same e' o' (Wc.trans (h0 rfl)) hsub;refine Rs (A8 t5 t8 t69 t70 t71 @d3 @d4 e5) ?_;exact⟨ws.length-(k+1),Om,k+1,V',L,sl,Om,rfl,i2,rfl,rfl⟩
  |true=>
   obtain⟨h1a,h1b,h1c⟩:=h1 rfl;have mW:W[nb]? =some (.b x.row):=by rw[Vy nb hnb2.2 λhm=>by have:=zX i.o hm;omega];exact mb
   have oxW':bj (fh (V'.ex b) W) x:=(oxY.fh (λj hj hm=>by have:=(fn.bB hj).1;have:=zX i.o hm;omega) (λj hj hm=>by have:=(fv.bB hj).1;have:=zX i.o hm;omega)).sub hsub;have oxW:=oxW'.sub sub_self;have iW:eJ W L sl:=(iY.ev.sub hsub).sub sub_self;have bs:=@bj.Du _ _ oxW;have lb:=@fw _ _ _ mW;refine Rs (A7 t5 t8 t69 t70 t71 @d3 @d4) ?_;refine WR.pg (N:=W.length) (w:=88) ba (Z0 _) (iW.sl.ext Xx) (by rw[ZU];omega) λa1 y1 f1=>?_
   have p1:=f1.aO.one;obtain⟨Y2,Ut⟩:∃Z,Z=W++[an.b []]++y1:=⟨_,rfl⟩;rw[<-Ut]at f1 ⊢;have eY:Ext W Y2:=by rw[Ut,ZO];exact⟨_,rfl⟩
   have hYl:W.length<=Y2.length:=by rw[Ut];simp only[ZL];omega
   have lb:∀{k n a},Ext Y2 k->aq n (.ptr nb a) (λz=>k[z]?)=dK n a (.b x.row):=λ{_ _ _} e=>lb (eY.trans e)
   refine Rs (A9 t5 t8 t69 t70 t71 @lb @bS @bs @p1) ?_;refine WR.ml (B:=W) (cs:=L.map EV.row) f1 rfl eY De (by rw[ZU];omega) ?_;intro W4 s4 x4 WX hn4 q4' l4 hk4;have hrow:L.map EV.row++[x.row]=(L++[x]).map EV.row:=by rw[ZV];rfl
   rw[hrow]at WX;have i4:=iY.more e' o' (Wc.trans h1a) h1b h1c hsub oxW' x4 WX.aO (λj hj=>by have:=hn4 j hj;omega);refine Rs (A6 t5 t8 t69 t70 t71 e5) ?_;exact⟨ws.length-(k+1),Om,k+1,V',L++[x],s4,Om,rfl,i4,rfl,rfl⟩
def Cc(ha:∀k,Ext h k->ay P 15 [] k (λv _=>v=.bool true)){K:ah}{ts:TS}{c:Int}(eK:Ext h K)(hc:c≠0)(hlen:ts.length=148)(t7:slot ts 7=.i c)(t8:slot ts 8=.nilPtr)(t9:slot ts 9=.i c):
  WC P bL (tE 6) [] ts K (FQ [(4,none)] (JZ h)):=by
 rw[LO];unfold tF fn7 gA;simp only[ai.j,ai.s,ai.r,ai.dr,ai.tl,ai.hd];have d1:decide (c≠0)=true:=ZR hc;have q:mS Ke.yJ .nilPtr .nilPtr=some true:=rfl;refine Rs (A6 t7 t8 t9 @d1 q @Z5) ?_;refine WF.ce T.c15 (ha _ eK) λg1=>?_
 refine Rs t7 ?_;exact⟨eK.trans ⟨g1,rfl⟩,rfl⟩
def Er(ha:∀k,Ext h k->ay P 15 [] k (λv _=>v=.bool true))(X:xX P)(Z:nj P){B K:ah}{b:Nat}{V:HV}{L:List EV}{sl lv:AV}{ws:List (By)}{ts:TS}(eB:Ext h B)(pw:Pw B)(gl:Gl B)(i:rj B K b V L sl)(hws:aI h lv 1 (ws.map ak))(hwl:ws.length<=8)(hlen:ts.length=148)(t1:slot ts 1=lv)(t5:slot ts 5=sl)(t7:slot ts 7=.i 0)(t8:slot ts 8=.ptr b 0)(t9:slot ts 9=.i 0):
  WC P bL (tE 6) [] ts K (FQ [(4,none)] (JZ h)):=by
 rw[LO];generalize hR:tE 8=R;unfold tF fn7 gA;simp only[ai.j,ai.s,ai.r,ai.dr,ai.tl,ai.hd];have d1:decide ((0:Int)≠0)=false:=rfl;refine Rs (A7 t1 t5 t7 t8 t9 @d1 @sg) ?_;rw[<-hR];exact Ep T ha X Z eB pw gl i hws hwl Sn (Sq t1) (Sq t5) (Sq t8)
def uE(ha:∀k,Ext h k->ay P 15 [] k (λv _=>v=.bool true))(X:xX P)(Z:nj P)(pw:Pw h)(gl:Gl h){K:ah}{log:By}(hlg:log.length<=1500){L:List EV}{sl p lv:AV}{e:Int}{ws:List (By)}{ts:TS}(eK:Ext h K)(r:BJ K log L sl)(he:iR log=(bF (cj log).1).2.2)
  (hop:(iR log≠0/\p=.nilPtr/\e=iR log)\/(iR log=0/\e=0/\∃B b V,p=.ptr b 0/\Ext h B/\rj B K b V L sl)) (hws:aI h lv 1 (ws.map ak)) (hwl:ws.length<=8) (hlen:ts.length=148) (t1:slot ts 1=lv) (t5:slot ts 5=sl) (t7:slot ts 7=.i 0) (t8:slot ts 8=p) (t9:slot ts 9=.i e):
  WC P bL (tE 5) [] ts K (FQ [(4,none)] (JZ h)):=by
 have hl:=r.len;have sh:x6 L:=⟨Om,λx hx=>by obtain⟨d,w⟩:=r.wf x hx;have:=vG w;omega⟩;have nl:Kc L:=⟨λx hx n hn=>by obtain⟨d,w⟩:=r.wf x hx;have:=om (w.nm n hn);omega⟩;rw[LP];generalize hR:tE 6=R;unfold tF fn7 gA;simp only[ai.j,ai.s,ai.r,ai.dr,ai.tl,ai.hd];have d1:decide ((0:Int)=0)=true:=rfl;refine Rs (A7 t1 t5 t7 t8 t9 @d1 @Z5) ?_;refine WF.res T.c18 (r18 T r.o sh nl) ?_;rintro _ g ⟨V0,rfl,_⟩;rw[r.e,<-he];refine Rs (A5 t1 t5 t7 t8 t9) ?_;rw[<-hR];have eg:Ext K (K++g):=⟨g,rfl⟩;rcases hop with⟨h1,hp,h3⟩|⟨h1,h3,B,b,V,hp,eB,i⟩
 ·rw[hp]at t8;rw[h3]at t9;exact Cc T ha (eK.trans eg) h1 Sn Sw (Sq t8) (Sq t9)
 ·rw[hp]at t8;rw[h3]at t9;have t7':AV.i (iR log)=.i 0:=by rw[h1]
  exact Er T ha X Z eB (pw.ext eB) (gl.ext eB) (i.app g) hws hwl Sn (Sq t1) (Sq t5) (by simp only[aQ,aR,aX,aY,reduceAdd,reduceMul,reduceLeDiff,reduceEqDiff,bd,hlen,Z3,Z7];exact t7') (Sq t8) (Sq t9)
def Eo(ha:∀k,Ext h k->ay P 15 [] k (λv _=>v=.bool true)){K:ah}{ts:TS}{c:Int}(eK:Ext h K)(hc:c≠0)(hlen:ts.length=148)(t7:slot ts 7=.i c)(t8:slot ts 8=.nilPtr)(t9:slot ts 9=.i c):
  WC P bL (tE 5) [] ts K (FQ [(4,none)] (JZ h)):=by
 rw[LP];generalize hR:tE 6=R;unfold tF fn7 gA;simp only[ai.j,ai.s,ai.r,ai.dr,ai.tl,ai.hd];have d1:decide (c=0)=false:=ZN hc;refine Rs (A4 t7 t8 t9 @d1) ?_;rw[<-hR];exact Cc T ha eK hc Sn (Sq t7) (Sq t8) (Sq t9)
def r7(ha:∀k,Ext h k->ay P 15 [] k (λv _=>v=.bool true))(X:xX P)(Z:nj P)(gl:Gl h)(pw:Pw h)(log:By)(_hl:log.length<2^63){lv:AV}{ws:List (By)}(hws:aI h lv 1 (ws.map ak))(_hw:ws.length<2^63):ay P 7 [.str log,lv] h (λv _=>v=.bool true):=by
 refine .of T.mix (acb T.c7 (aan some OL)) ?_;obtain⟨ts,Sv⟩:∃ts,ts=aU 148 [.str log,lv]:=⟨_,rfl⟩;have hlen:ts.length=148:=by rw[Sv];rfl
 have t0:slot ts 0=.str log:=by rw[Sv];rfl
 have t1:slot ts 1=lv:=by rw[Sv];rfl
 show WC P bL (.seq (tF 0) (.seq (tF 1) (.seq (tF 2) (.seq (tF 3) (.seq (tF 4) (tE 5)))))) [] (aU 148 [.str log,lv]) h (FQ [(4,none)] (JZ h));rw[<-Sv];clear Sv;generalize hR:tE 5=R;unfold tF fn7 gA;simp only[ai.j,ai.s,ai.r,ai.dr,ai.tl,ai.hd];by_cases hlg:1500<log.length
 ·have d1:decide ((1500:Int)<log.length)=true:=ZR Om;refine Rs (A3 t0 t1 @d1) ?_;exact z143
 have d1:decide ((1500:Int)<log.length)=false:=ZN Om;by_cases hwl:8<ws.length
 ·have d2:decide ((8:Int)<ws.length)=true:=ZR Om;refine Rs (A5 t0 t1 @d1 @d2 hws.aL) ?_;exact z143
 have d2:decide ((8:Int)<ws.length)=false:=ZN Om;refine Rs (A5 t0 t1 @d1 @d2 hws.aL) ?_;refine WF.res T.c38 (r38 T log Om) ?_;rintro _ g1 ⟨L,sl,hL,rfl,fr,hin⟩;have r1:BJ (h++g1) log L sl:=⟨⟨fr.aO,λy hy=>(hin y hy).ok⟩,hL⟩;refine Rs (A2 t0 t1) ?_;refine WF.res T.c41 (r41 T X Z (pw.ext ⟨g1,rfl⟩) (gl.ext ⟨g1,rfl⟩) log Om) ?_;intro v g2 hv;have r2:BJ (h++g1++g2) log L sl:=r1.ext ⟨g2,rfl⟩;have eK:Ext h (h++g1++g2):=Xx;by_cases h0:iR log=0
 ·obtain⟨B,b,V,rfl,e1,e2,o,hV,w,_,_⟩:=hv.2 h0;have hnz:(cj log).2.2=0\/(cj log).2.2=28:=by
   by_cases ha:(cj log).2.2=0
   ·exact .inl ha
   ·by_cases hb:(cj log).2.2=28
    ·exact .inr hb
    ·unfold iR at h0;rw[ZY ⟨ha,hb⟩]at h0;exact absurd h0 ha
  have he:iR log=(bF (cj log).1).2.2:=ZW λz=>by rcases hnz with q|q<;>simp[q]at z
  have hBl:(h++g1).length<=B.length:=by
   obtain⟨z,hz⟩:=e1;rw[hz];simp only[ZL];omega
  have i:rj B (h++g1++g2) b V L sl:=⟨e2,o,w,⟨r2.o.sl.fh (λj hj hm=>by have:=(fr.bB hj).2;have:=Di o hm;omega),λx hx=>(r2.o.all x hx).fh (λj hj hm=>by have:=((hin x hx).n.bB hj).2;have:=Di o hm;omega) (λj hj hm=>by have:=((hin x hx).v.bB hj).2;have:=Di o hm;omega)⟩,by rw[hL,Ii (he.symm.trans h0),hV]⟩;have eB:Ext h B:=Ext.trans ⟨g1,rfl⟩ e1;rcases hnz with q|q
  ·have d3:decide ((cj log).2.2=28)=false:=by rw[q];rfl
   refine Rs (A3 t0 t1 @d3) ?_;rw[<-hR];exact uE T ha X Z pw gl (log:=log) Om eK r2 he (.inr ⟨h0,rfl,B,b,V,rfl,eB,i⟩) hws Om Sn (Sq t1) Sw (Sq q) Sw Sw
  ·have d3:decide ((cj log).2.2=28)=true:=by rw[q];rfl
   refine Rs (A3 t0 t1 @d3) ?_;rw[<-hR];exact uE T ha X Z pw gl (log:=log) Om eK r2 he (.inr ⟨h0,rfl,B,b,V,rfl,eB,i⟩) hws Om Sn (Sq t1) Sw Sw Sw Sw
 have hvv:=hv.1 h0;subst hvv;by_cases q:(cj log).2.2=28
 ·have d3:decide ((cj log).2.2=28)=true:=by rw[q];rfl
  have he:iR log=(bF (cj log).1).2.2:=ZW λz=>z.2 q
  refine Rs (A3 t0 t1 @d3) ?_;rw[<-hR];exact uE T ha X Z pw gl (log:=log) Om eK r2 he (.inl ⟨h0,rfl,rfl⟩) hws Om Sn (Sq t1) Sw Sw Sw Sw
 have d3:decide ((cj log).2.2=28)=false:=ZN q;by_cases q0:(cj log).2.2=0
 ·have he:iR log=(bF (cj log).1).2.2:=ZW λz=>z.1 q0
  refine Rs (A3 t0 t1 @d3) ?_;rw[<-hR];exact uE T ha X Z pw gl (log:=log) Om eK r2 he (.inl ⟨h0,rfl,rfl⟩) hws Om Sn (Sq t1) Sw (Sq q0) Sw Sw
 have he:iR log=(cj log).2.2:=ZY ⟨q0,q⟩;rw[he];refine Rs (A3 t0 t1 @d3) ?_;rw[<-hR];exact Eo T ha eK q0 Sn Sw Sw Sw
end
end Go.Abs
