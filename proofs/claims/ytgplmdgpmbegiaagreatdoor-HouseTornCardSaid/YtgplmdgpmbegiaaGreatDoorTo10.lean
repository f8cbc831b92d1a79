/- A part of the proof that HouseTorn holds. No condition. -/
import Derived.Test.YtgplmdgpmbegiaaGreatDoorTo9
import Derived.Test.YtgplmdgpmbegiaaGreatDoorTo8
import Derived.Test.YtgplmdgpmbegiaaGreatDoorTo0
set_option maxHeartbeats 4000000
set_option linter.all false
open Nat (reduceAdd reduceMul reduceLeDiff reduceEqDiff)
namespace Go.Abs
set_option maxRecDepth 10000
attribute [local irreducible] WP WC WE WB WR WF WL WG eZ WQ WM
section
variable {P:Program}(T:eD P) {h W:ah}{V:RV}{b:Nat}{sl:AV}{ts:TS}{n:By}
include T
omit T in
end
end Go.Abs
namespace Go.Abs
def WR.Dh{P:Program}{ro:Option Nat->Prop}{ks:List Kt}{ts:TS}{Q:Ex->TS->ah->Prop}{α:Type}{row:α->List AV}{L:List α}{B Y:ah}{s v:AV}{es i off:Nat}{x':α}{d:Option Nat}{l:List bO}
  (hs:Fr B.length Y s es (L.map row)) (he:Ext B Y) (hi:i<L.length) (ho:off<es) (hv:v.one=true) (hx:row x' =(row L[i]).set off v)
  (K:∀W5:ah,Ext B W5->W5.length=Y.length->Fr B.length W5 s es ((L.set i x').map row)->(∀b,sB s≠some b->W5[b]? =Y[b]?)->WP P ro l ks (put ts d az) W5 Q):
  WR P ro (aV 1 (j9 s es i off) v (λb=>Y[b]?)) false d l ks ts Y Q:=by
 obtain⟨g,rfl⟩:=he;refine WR.wK (h0:=B) hs hi ho hv hx ?_;intro g' TB hff hkp;exact K _ ⟨_,rfl⟩ (by simp[TB]) hff λb hb=>hkp b λb0 o n e he z=>hb (by rw[he,z];rfl)
set_option maxRecDepth 10000
attribute [local irreducible] WP WC WE WB WR WF WL WG eZ WM
section
variable {P:Program}(T:eD P) {B X W:ah}{ts:TS}{V:RV}{x:EV}
include T
def Bd(w:fM V.an)(ox:bd B x)(we:jf x.ev .accept)(nk:tH V.an x.ev .accept)(s:cI B X x V W V)(hlen:ts.length=250)(t2:slot ts 2=.ptr X.length 0)(t3:slot ts 3=.ptr (X.length+1) 0)(t4:slot ts 4=.ptr (X.length+2) 0):
  WC P bP Be [] ts W (FQ [(4,some (some 7)),(5,none)] (tr B X V (bD V.an x.ev .accept) (dD V.an x.ev .accept))):=by
 have ow:=ox.ext s.ex;have oV:=s.bk.o.ok;have Tw:x.ev.kind=bf .accept:=bY we.kd;obtain⟨lr,le,sb,gm⟩:=cI.fa s;obtain⟨i0,d0⟩:=bR ow we 0 0 rfl De;obtain⟨j0,f0,q0⟩:=cX ow we 0 0 rfl De;unfold Be fn225;simp only[ai.tl];have k0:aO x.ev 0∈gZ V.an:=nk.kn 0 0 rfl;have Xz:x.ev.names=[aO x.ev 0]:=by
  have h1:=we.nl;obtain⟨n,hn⟩:∃n,x.ev.names=[n]:=List.length_eq_one_iff.1 h1;rw[aO,hn];rfl
 have hlt:bo (gZ V.an) (aO x.ev 0)<V.lines.length:=by have:=c8 k0;simpa [gZ,RV.an]using this
 have ei:dt (λy:iO=>decide (y.name=aO x.ev 0)) V.lines=(bo (gZ V.an) (aO x.ev 0):Int):=fo (f:=iO.name) k0;have sp:dU V.an (aO x.ev 0)=V.lines[bo (gZ V.an) (aO x.ev 0)]:=dB k0;obtain⟨p,hp⟩:∃p,p=bo (gZ V.an) (aO x.ev 0):=⟨_,rfl⟩;rw[<-hp]at ei;have hlt:p<V.lines.length:=by rw[hp];exact hlt
 have sp:dU V.an (aO x.ev 0)=V.lines[p]:=by rw[sp];congr 1;exact hp.symm
 refine pP (K3 t2 t3 t4 @le @lr @bB @aN @aW @aE @Tw @iA @aaJ @aaE @j0 @f0 @i0 @d0) ?_;refine WF.ce T.c28 (r28 T (oV.ext Xx) w.len _) λg1=>?_
 rw[ei];obtain⟨W2,T6⟩:∃Z,Z=W++g1:=⟨_,rfl⟩;rw[<-T6];have TM:cI B X x V W2 V:=by rw[T6];exact ff.grow s ⟨g1,rfl⟩
 have ow:=ox.ext TM.ex;have oV:=TM.bk.o.ok;obtain⟨lr,le,sb,gm⟩:=cI.fa TM;have on:=ow.n;rw[Xz]at on;have on1:=ow.n.one;refine Rs (A7 t2 t3 t4 @le @lr @aE @aN) ?_;refine WF.res T.c127 (r127 T (oV.ext Xx) w.len on Si) ?_;rintro ns g2 hns;obtain⟨W3,TL⟩:∃Z,Z=W2++g2:=⟨_,rfl⟩;rw[<-TL];have TR:cI B X x V W3 V:=by rw[TL];exact ff.grow TM ⟨g2,rfl⟩
 have ow:=ox.ext TR.ex;have oV:=TR.bk.o.ok;obtain⟨lr,le,sb,gm⟩:=cI.fa TR;rw[<-TL]at hns;obtain⟨S,hS⟩:∃S,S=Bj V.an (aO x.ev 0):=⟨_,rfl⟩;have hfS:(V.an.aj.filter λy=>decide (y.line∈[aO x.ev 0]))=S:=by
  rw[hS,Bj];refine List.filter_congr λy _=>?_
  simp
 rw[hfS]at hns;have hSm:∀y∈S,y∈V.an.aj:=λy hy=>by rw[hS,Bj]at hy;exact(abw.1 hy).1
 have hSl:S.length<=64:=by
  have h1:S.length<=V.an.aj.length:=by rw[hS,Bj];exact aa0 _ _
  have:=w.l2;omega
 rw[abQ]at hns;have ix:aZ 3 V.s0 (.i (p:Int))=some (cT V.s0 3 p,.ar):=oV.i0.dK hlt;have l2:∀{k:ah},Ext W3 k->ao none (j9 V.s0 3 p 2) (λb=>k[b]?)=some (.bool (dU V.an (aO x.ev 0)).acc,.ar):=λ{k} e=>by rw[sp];exact oV.i0.mi hlt rfl e
 have l1:∀{k:ah},Ext W3 k->ao none (j9 V.s0 3 p 1) (λb=>k[b]?)=some (.i (dU V.an (aO x.ev 0)).want,.ar):=λ{k} e=>by rw[sp];exact oV.i0.mi hlt rfl e
 cases h1:(dU V.an (aO x.ev 0)).acc with
 |true=>
  rw[h1]at l2;refine Rs (mE t2 t3 t4 ix @l2 @lr @aE @gJ @sb @gm) ?_;rw[bD,aas h1];exact EI
 |false=>
 rw[h1]at l2;by_cases h2:(S.length:Int)<(dU V.an (aO x.ev 0)).want
 case pos=>
  have e2:decide ((S.length:Int)<(dU V.an (aO x.ev 0)).want)=true:=aaj h2;refine Rs (Hy t2 t3 t4 ix @l2 @l1 hns.aK @lr @aE @gJ e2 @sb @gm) ?_;rw[bD,aao (by rw[h1];decide),aas (by rw[<-hS];exact h2)];exact EI
 have e2:decide ((S.length:Int)<(dU V.an (aO x.ev 0)).want)=false:=aaf h2;refine Rs (n6 t2 t3 t4 ix @l2 @l1 hns.aK @lr @aE @gJ e2) ?_;refine WL.inv T.mix (λm ts h'=>∃(k:Nat) (g:ah),k<=S.length/\m=S.length-k/\h' =W3++g/\(∀y∈S.take k,jg V.an y (bL x.ev 0)=true)/\ts.length=250/\slot ts 2=.ptr X.length 0/\slot ts 4=.ptr (X.length+2) 0/\slot ts 6=.i (bL x.ev 0)/\slot ts 9=.i (p:Int)/\slot ts 10=ns/\slot ts 11=.i k) S.length
  ⟨0,[],Om,rfl,by rw[aaF],(λy hy=>by cases hy),Sn,(Sq t2),(Sq t4),Sw,Sw,Sw,gX⟩ ?_
 clear t2 t3 t4 hlen;rintro _ ts _ ⟨k,g,hk,rfl,rfl,hsf,hlen,t2,t4,t6,t9,t10,t11⟩;obtain⟨W4,Uk⟩:∃Z,Z=W3++g:=⟨_,rfl⟩;rw[<-Uk];have U4:cI B X x V W4 V:=by rw[Uk];exact ff.grow TR ⟨g,rfl⟩
 have ow:=ox.ext U4.ex;have oV:=U4.bk.o.ok;obtain⟨lr,le,sb,gm⟩:=cI.fa U4;have e34:Ext W3 W4:=⟨g,Uk⟩;have hns:=hns.ext e34;by_cases Un:k<S.length
 ·have e3:decide ((k:Int)<S.length)=true:=aaj Om;have e5:=wrapN (n:=k) Om;have iy:=hns.dK (kk:=.i64) Un;obtain⟨y,hy⟩:∃y,y=S[k]:=⟨_,rfl⟩;have U5:y∈V.an.aj:=hSm y (by rw[hy];exact aat _);have lf:∀{kk:ah},Ext W4 kk->ao none (cT ns 1 k) (λb=>kk[b]?)=some (.str y.name,.ar):=λ{kk} e=>hns.jS Un (by rw[<-hy];rfl) e
  have V3:y.name∈nH V.an:=aaH U5;have hps:=c8 V3;have VC:bo (nH V.an) y.name<V.aj.length:=by simpa [nH,RV.an]using hps
  have iz:aZ 3 V.s2 (.i ((bo (nH V.an) y.name:Nat):Int))=some (cT V.s2 3 (bo (nH V.an) y.name),.ar):=oV.i2.dK VC;obtain⟨u,hu⟩:∃u,u=V.aj[bo (nH V.an) y.name]:=⟨_,rfl⟩;have hum:u∈V.aj:=by rw[hu];exact aat _
  have huy:u.1=y:=by
   have a1:rK V.an y.name=y:=vj w.n2.nd U5;rw[rK,dB (f:=kr.name) (l:=V.an.aj) (d:=FH) V3]at a1;rw[<-a1,hu];exact EN
  have ly:∀{kk:ah},Ext W4 kk->ao (some 3) (cT V.s2 3 (bo (nH V.an) y.name)) (λb=>kk[b]?)=some (.agg (bj u),.ar):=λ{kk} e=>by rw[hu];exact oV.i2.lL VC e
  have ou:=oV.e2 u hum;have hul:=(w.Ai.sh u hum);refine Rs (Hy t2 t4 t6 t9 t10 t11 hns.aK e3 @lr @fU @aE @iy @lf) ?_;refine WF.ce T.c22 (r22 T (oV.ext Xx) w.len _) λg3=>?_
  have ej:dt (λy':kr×AV=>decide (y'.1.name=y.name)) V.aj=(bo (nH V.an) y.name:Int):=by
   rw[kE];exact fo (f:=λy:kr×AV=>y.1.name) (by rw[<-kE];exact V3)
  rw[ej];refine Rs (A8 t2 t4 t6 t9 t10 t11 @iz @ly) ?_;refine WF.ce T.c23 (r23 T (oV.ext Xx) w.len (ou.ext Xx) hul.2 hul.1 _) λg4=>?_
  rw[huy];cases h4:jg V.an y (bL x.ev 0)with
  |false=>
   refine Rs (n6 t2 t4 t6 t9 t10 t11 @aaI @lr @aE @sb @gm) ?_;rw[bD,aao (by rw[h1];decide),aao (by rw[<-hS];exact h2),aas (by rw[<-hS];exact ab4.2 ⟨y,by rw[hy];exact aat _,by rw[h4];rfl⟩)];exact cI.fin (ff.grow U4 (by rw[aae];exact⟨_,rfl⟩)) (λz=>absurd z De)
  |true=>
   refine Rs (A8 t2 t4 t6 t9 t10 t11 @aaD e5) ?_;refine⟨_,Om,k+1,g++g3++g4,Om,rfl,by rw[Uk];simp only[aae],?_,rfl⟩;intro y' hy';exact Sf
 ·have e3:decide ((k:Int)<S.length)=false:=aaf Om;have e4:k=S.length:=Om
  rw[e4,aaS]at hsf;have UG:bD V.an x.ev .accept=0:=by
   rw[bD,aao (by rw[h1];decide),aao (by rw[<-hS];exact h2),aao];exact z146
  refine Rs (n6 t2 t4 t6 t9 t10 t11 hns.aK e3 @lr @gJ ix) ?_;refine WR.Dh (B:=B) (x':={V.lines[p]with acc:=true}) (row:=cF) U4.bk.o.i0 U4.ex hlt De rfl rfl ?_;intro W5 x5 l5 hff hk5;have s5:cI B X x V W5 {V with lines:=V.lines.set p {V.lines[p]with acc:=true} }:=ff.q0 U4 hff (λi _ hne=>hk5 i hne) x5 Om;obtain⟨lr,_,sb,gm⟩:=cI.fa s5;refine Rs (mE t2 t4 t6 t9 t10 t11 @lr @aE @sb @gm) ?_;exact Lm
end
structure Ir(X:ah)(x:EV)(U:RV)(h:ah):Prop where
 r:h[X.length]? =some (.b U.row)
 e:h[X.length+1]? =some (.b x.row)
 n:bd h x
theorem Ir.ext{X h k x U}(s:Ir X x U h)(e:Ext h k):Ir X x U k:=⟨e.some s.r,e.some s.e,s.n.ext e⟩
section
variable {P:Program}(T:eD P) {B X W:ah}{ts:TS}{V:RV}{x:EV}
include T
def FC(w:fM V.an)(ox:bd B x)(we:jf x.ev .copy)(nk:tH V.an x.ev .copy)(s:cI B X x V W V)(hlen:ts.length=250)(t2:slot ts 2=.ptr X.length 0)(t3:slot ts 3=.ptr (X.length+1) 0)(t4:slot ts 4=.ptr (X.length+2) 0):
  WC P bP Be [] ts W (FQ [(4,some (some 7)),(5,none)] (tr B X V (bD V.an x.ev .copy) (dD V.an x.ev .copy))):=by
 have ow:=ox.ext s.ex;have oV:=s.bk.o.ok;have Tw:x.ev.kind=bf .copy:=bY we.kd;obtain⟨lr,le,sb,gm⟩:=cI.fa s;obtain⟨i0,d0⟩:=bR ow we 0 0 rfl De;obtain⟨i1,d1⟩:=bR ow we 1 1 rfl De;obtain⟨j0,f0,q0⟩:=cX ow we 0 0 rfl De;unfold Be fn225;simp only[ai.tl];have k0:aO x.ev 0∈ke V.an:=nk.kn 0 1 rfl;have k1:aO x.ev 1∈ke V.an:=nk.kn 1 1 rfl;have Ve:V.aj.length<=64:=by have:=w.l2;simpa [RV.an]using this
 have htp:∀y∈V.aj,y.1.aG.length<2^30:=λy hy=>(w.Ai.sh y hy).2
 by_cases h1:aO x.ev 0=aO x.ev 1
 case pos=>
  have e1:decide (aO x.ev 0=aO x.ev 1)=true:=aaj h1;refine pP (OW t2 t3 t4 @le @lr @bB @aN @aW @aE @Tw @iA @aaJ @aaE @j0 @f0 @i0 @d0 @i1 @d1 e1 @sb @gm) ?_;rw[bD,aas h1];exact z148
 have e1:decide (aO x.ev 0=aO x.ev 1)=false:=aaf h1;refine pP (OX t2 t3 t4 @le @lr @bB @aN @aW @aE @Tw @iA @aaJ @aaE @j0 @f0 @i0 @d0 @i1 @d1 e1) ?_;refine WF.ce T.c84 (r84 T (oV.ext Xx) w.len k0 _) λg1=>?_
 obtain⟨W2,T6⟩:∃Z,Z=W++g1:=⟨_,rfl⟩;rw[<-T6];have TM:cI B X x V W2 V:=by rw[T6];exact ff.grow s ⟨g1,rfl⟩
 have ow:=ox.ext TM.ex;have oV:=TM.bk.o.ok;obtain⟨lr,le,sb,gm⟩:=cI.fa TM;obtain⟨i0,d0⟩:=bR ow we 0 0 rfl De;obtain⟨i1,d1⟩:=bR ow we 1 1 rfl De;obtain⟨j0,f0,q0⟩:=cX ow we 0 0 rfl De;cases h2:jY V.an (bL x.ev 0) (aO x.ev 0)with
 |false=>
  refine Rs (A8 t2 t3 t4 @aaI @lr @aE @sb @gm) ?_;rw[bD,aao h1,aas (by rw[h2];rfl)];exact K5
 |true=>
 refine Rs (mE t2 t3 t4 @aaD @le @lr @aE @aN @i1 @d1) ?_;refine WF.ce T.c84 (r84 T (oV.ext Xx) w.len k1 _) λg2=>?_
 obtain⟨W3,TL⟩:∃Z,Z=W2++g2:=⟨_,rfl⟩;rw[<-TL];have TR:cI B X x V W3 V:=by rw[TL];exact ff.grow TM ⟨g2,rfl⟩
 have ow:=ox.ext TR.ex;have oV:=TR.bk.o.ok;obtain⟨lr,le,sb,gm⟩:=cI.fa TR;obtain⟨i0,d0⟩:=bR ow we 0 0 rfl De;obtain⟨i1,d1⟩:=bR ow we 1 1 rfl De;obtain⟨j0,f0,q0⟩:=cX ow we 0 0 rfl De;cases h3:jY V.an (bL x.ev 0) (aO x.ev 1)with
 |false=>
  refine Rs (A8 t2 t3 t4 @aaI @lr @aE @sb @gm) ?_;rw[bD,aao h1,aao (by rw[h2];decide),aas (by rw[h3];rfl)];exact EI
 |true=>
 have UG:bD V.an x.ev .copy=0:=by rw[bD,aao h1,aao (by rw[h2];decide),aao (by rw[h3];decide)]
 refine Rs (A4 t2 t3 t4 @aaD) ?_;obtain⟨a,ha⟩:∃a,a=aO x.ev 0:=⟨_,rfl⟩;obtain⟨z,hz⟩:∃z,z=aO x.ev 1:=⟨_,rfl⟩;refine WL.inv T.mix (λm ts W=>∃(k:Nat) (U:RV),k<=V.aj.length/\m=V.aj.length-k/\cI B X x V W U/\U.s2=V.s2/\U.aj.length=V.aj.length/\
   {U.an with aj:=V.an.aj} =V.an/\(∀i (hi:i<U.aj.length) (hi':i<V.aj.length),(U.aj[i]).1=if i<k then lz a z (V.aj[i]).1 else(V.aj[i]).1)/\
   ts.length=250/\slot ts 2=.ptr X.length 0/\slot ts 3=.ptr (X.length+1) 0/\slot ts 4=.ptr (X.length+2) 0/\slot ts 7=.i k) V.aj.length
  ⟨0,V,Om,rfl,TR,rfl,rfl,rfl,λi hi hi'=>by rw[aao Om],Sn,(Sq t2),(Sq t3),(Sq t4),gX⟩ ?_
 clear t2 t3 t4 hlen i0 i1 d0 d1 j0 f0 oV ow lr le sb gm;rintro _ ts W4 ⟨k,U,hk,rfl,s,TZ,Vu,hreg,hU,hlen,t2,t3,t4,t7⟩;have ow:=ox.ext s.ex;have oU:=s.bk.o.ok;obtain⟨lr,le,sb,gm⟩:=cI.fa s;by_cases hlt:k<V.aj.length
 ·have WU:k<U.aj.length:=Om
  have e3:=eO hlt;have e5:=wrapN (n:=k) Om;have ll:∀(G:Nat->Option ak),Go.Abs.kg .sl G U.s2=some V.aj.length:=λG=>by rw[oU.i2.aK,Vu]
  have ix:aZ 3 U.s2 (.i (k:Int))=some (cT U.s2 3 k,.ar):=oU.i2.dK WU;have Uc:U.aj[k]∈U.aj:=aat _;have hx1:(U.aj[k]).1=(V.aj[k]).1:=by rw[hU k WU hlt,aao Om]
  have hxl:(U.aj[k]).1.aG.length<2^30:=by rw[hx1];exact htp _ (aat _)
  have XM:=s.bk.o.e2 _ Uc;have next:∀(U2:RV),U2.aj.length=V.aj.length->(∀i (hi:i<U2.aj.length) (hi':i<U.aj.length),(U2.aj[i]).1=if i=k then lz a z (U.aj[i]).1 else(U.aj[i]).1)->
    ∀i (hi:i<U2.aj.length) (hi':i<V.aj.length),(U2.aj[i]).1=if i<k+1 then lz a z (V.aj[i]).1 else(V.aj[i]).1:=by
   intro U2 a3 a5 i hi hi';exact Sk
  obtain⟨y,hy⟩:∃y,y=U.aj[k]:=⟨_,rfl⟩;have ly:∀{kk:ah},Ext W4 kk->ao none (j9 U.s2 3 k 2) (λb=>kk[b]?)=some (y.2,.ar):=λ{kk} e=>oU.i2.mi WU (by rw[<-hy];rfl) e
  rw[<-hy]at XM hxl;have oy:=XM.aT.one;obtain⟨i0,d0⟩:=bR ow we 0 0 rfl De;obtain⟨i1,d1⟩:=bR ow we 1 1 rfl De;rw[<-ha]at d0;rw[<-hz]at d1;refine Rs (B5 t2 t3 t4 t7 @lr @le @fU @ll e3 ix @ly @aN @i0 @d0) ?_;refine WF.ce T.c35 (r35 T (XM.aT.ext Xx) Om a) λg3=>?_
  by_cases c1:a∈y.1.aG
  case neg=>
   have u1:decide (a∈y.1.aG)=false:=aaf c1;rw[u1];refine Rs (A5 t2 t3 t4 t7 e5) ?_;refine⟨_,Om,k+1,U,Om,rfl,ff.grow s ⟨g3,rfl⟩,TZ,Vu,hreg,next U Vu (λi hi hi'=>?_),rfl⟩;split
   ·rename_i Vn;subst Vn;rw[<-hy,lz,aao (λw=>c1 w.1)]
   ·rfl
  have u1:decide (a∈y.1.aG)=true:=aaj c1;rw[u1];refine Rs (A8 t2 t3 t4 t7 @le @aN @i1 @d1) ?_;refine WF.ce T.c35 (r35 T (XM.aT.ext Xx) Om z) λg4=>?_
  by_cases c2:z∈y.1.aG
  ·have u2:decide (z∈y.1.aG)=true:=aaj c2;rw[u2];refine Rs (A6 t2 t3 t4 t7 @aaD e5) ?_;refine⟨_,Om,k+1,U,Om,rfl,ff.grow s (by rw[aae];exact⟨_,rfl⟩),TZ,Vu,hreg,next U Vu (λi hi hi'=>?_),rfl⟩;split
   ·rename_i Vn;subst Vn;rw[<-hy,lz,aao (λw=>w.2 c2)]
   ·rfl
  have u2:decide (z∈y.1.aG)=false:=aaf c2;rw[u2];refine Rs (A5 t2 t3 t4 t7 @aaI) ?_;obtain⟨W5,VT⟩:∃Z,Z=W4++g3++g4:=⟨_,rfl⟩;rw[<-VT];have Zm:Ext W4 W5:=by rw[VT,aae];exact⟨_,rfl⟩
  have s5:cI B X x V W5 U:=ff.grow s Zm;have S5:Ir X x U W5:=⟨s5.bk.m,cI.NM s5,ox.ext s5.ex⟩;have hfx5:=s5.bk.o.e2 y (by rw[hy];exact Uc);refine pL (Ir X x U) ?_;refine dm S5 rfl rfl ?_;refine Rs (A4 t2 t3 t4 t7) ?_;refine lM S5 (v:=U.s2) (λg hg=>?_) ?_
  ·simp only[aU,aX,bz,bA,reduceAdd,reduceMul,reduceLeDiff,reduceEqDiff,bC,hlen,aay,aaB,t2,aA hg.r,fU]
  refine Rs (A4 t2 t3 t4 t7) ?_;refine dm S5 rfl rfl ?_;refine Rs (A4 t2 t3 t4 t7) ?_;refine dm S5 rfl rfl ?_;refine Rs (A4 t2 t3 t4 t7) ?_;have S6:Ir X x U (W5++[ak.b []]):=S5.ext ⟨_,rfl⟩;refine dm S6 rfl rfl ?_;refine Rs (A4 t2 t3 t4 t7) ?_;refine dm S6 rfl rfl ?_;refine Rs (A4 t2 t3 t4 t7) ?_;obtain⟨n5,hn5⟩:∃n,n=W5.length:=⟨_,rfl⟩;refine WR.qQ (N:=n5) (w:=16) ba (Nat.le_of_eq hn5) (hfx5.aT.ext Xx) (by simp only[aak];omega) λt0 g5 ft=>?_
  obtain⟨W6,Va⟩:∃Z,Z=W5++[ak.b []]++g5:=⟨_,rfl⟩;rw[<-Va]at ft ⊢;have e56:Ext W5 W6:=by rw[Va,aae];exact⟨_,rfl⟩
  have S7:Ir X x U W6:=S5.ext e56;have oq:=S7.n;have iq:aZ 1 x.sn (.i 1)=_:=(xU oq we (i:=1) De).1;have p0:=ft.aT.one;refine Rs (A4 t2 t3 t4 t7) ?_;refine dm S7 rfl rfl ?_;refine Rs (A4 t2 t3 t4 t7) ?_;refine lM S7 (v:=x.sn) (λg hg=>?_) ?_
  ·simp only[aU,aX,bz,bA,reduceAdd,reduceMul,reduceLeDiff,reduceEqDiff,bC,hlen,aay,aaB,t3,aA hg.e,aN]
  refine Rs (A4 t2 t3 t4 t7) ?_;refine dm S7 rfl rfl ?_;refine Rs (A5 t2 t3 t4 t7 @iq) ?_;refine lM S7 (v:=.str z) (λg hg=>?_) ?_
  ·have h9:=@(xU hg.n we (i:=1) De).2;rw[<-hz]at h9;refine Zs t3 ?_;exact h9 (Ext.refl _)
  refine Rs (A4 t2 t3 t4 t7) ?_;refine dm S7 rfl rfl ?_;refine Rs (A4 t2 t3 t4 t7) ?_;refine dm (S7.ext ⟨_,rfl⟩) rfl rfl ?_;refine Rs (A4 t2 t3 t4 t7) ?_;rw[hn5]at ft;have s6:cI B X x V W6 U:=ff.grow s5 e56;refine WR.qh (B:=W5) (cs:=y.1.aG.map aq) ft rfl e56 De (by simp only[aak];omega) ?_;intro W7 t' x7 hff hn7 q7 l7 hk7;have hrow:y.1.aG.map aq++[[AV.str z]]=(y.1.aG++[z]).map aq:=by rw[aap];rfl
  rw[hrow]at hff;have k7:∀i,i<W5.length->W7[i]? =W5[i]? :=λi hi=>x7.get hi
  have s7:cI B X x V W7 U:=ff.grow s5 x7;have S8:Ir X x U W7:=S5.ext x7;refine Rs (A4 t2 t3 t4 t7) ?_;refine pK S8 rfl ?_;have hs27:Fr B.length W7 U.s2 3 (U.aj.map bj):=s7.bk.o.i2;have ix:aZ 3 U.s2 (.i (k:Int))=some (cT U.s2 3 k,.ar):=oU.i2.dK WU;refine Rs (A6 t2 t3 t4 t7 ix q7) ?_;refine WR.Dh (B:=B) (x':=(⟨y.1.name,y.1.line,y.1.aG++[z]⟩,t')) (row:=bj) hs27 s7.ex WU De q7 (by rw[<-hy];rfl) ?_;intro W8 x8 l8 hf8 hk8;have ft8:Fr B.length W8 t' 1 ((y.1.aG++[z]).map aq):=(hff.aB λi hi=>hk8 i λe=>by
   have h1:=(hff.bM hi).1;have h2:=(s5.bk.o.dW (b:=i) (by rw[<-e];simp[RV.bl])).2;omega).low s5.ex.len
  have s8:cI B X x V W8 {U with aj:=U.aj.set k (⟨y.1.name,y.1.line,y.1.aG++[z]⟩,t') }:=ff.qS s WU hf8 ft8 (λj hj=>by have h1:=(hff.bM hj).1;have:=Zm.len;omega) (λj hj n1 n2=>by
   rw[hk8 j n1,k7 j (by have:=Zm.len;omega)];exact Zm.get hj) x8 (by have:=Zm.len;have:=e56.len;omega)
  refine Rs (A5 t2 t3 t4 t7 e5) ?_;refine⟨_,Om,k+1,_,Om,rfl,s8,TZ,(by simp only[aaY];exact Vu),hreg,next _ (by simp only[aaY];exact Vu) (λi hi hi'=>?_),rfl⟩;by_cases Vn:i=k
  ·subst Vn;simp only[ab8,aaB];rw[<-hy,lz,aas ⟨c1,c2⟩]
  ·exact K9
 ·have e3:decide ((k:Int)<V.aj.length)=false:=aaf Om;have e4:k=V.aj.length:=Om
  have ll:∀(G:Nat->Option ak),Go.Abs.kg .sl G U.s2=some V.aj.length:=λG=>by rw[oU.i2.aK,Vu]
  refine Rs (n6 t2 t3 t4 t7 @lr @fU @ll e3 @aE @sb @gm) ?_;rw[UG];refine cI.fin s (λ_=>?_);exact z31
def DO{d}(hd:d=.line\/d=.tape\/d=.gM\/d=.copy\/d=.accept)(o:cJ B.length X V)(w:fM V.an)(hx:Ext B X)(ox:bd B x)(we:jf x.ev d)(nk:tH V.an x.ev d):
  dy P 225 [.agg V.row,.agg x.row] X (tr B X V (bD V.an x.ev d) (dD V.an x.ev d)):=by
 refine .of T.mix (acP T.c225 (aaR some PW)) ?_;obtain⟨ts,Tp⟩:∃ts,ts=aR 250 [.agg V.row,.agg x.row]:=⟨_,rfl⟩;have hlen:ts.length=250:=by rw[Tp];rfl
 have t0:slot ts 0=.agg V.row:=by rw[Tp];rfl
 have t1:slot ts 1=.agg x.row:=by rw[Tp];rfl
 show WC P bP (.seq ((fn225).body.hd) Be) [] (aR 250 [.agg V.row,.agg x.row]) X (FQ [(4,some (some 7)),(5,none)] (tr B X V (bD V.an x.ev d) (dD V.an x.ev d)));rw[<-Tp];clear Tp;have To:=@aC.box _ _ o.ok;have hex:=@bd.box _ _ (ox.ext hx);have s:cI B X x V (X++[.b V.row]++[.b x.row]++[.b lG]) V:=by
  exact z20
 unfold lG at s;generalize hB:Be=R;unfold fn225;simp only[ai.hd];refine Rs (A4 t0 t1 @To @hex) ?_;rw[<-hB];rcases hd with rfl|rfl|rfl|rfl|rfl
 ·exact FB T w ox we nk s Sn Sw (by simp only[aU,aX,bz,bA,reduceAdd,reduceMul,reduceLeDiff,reduceEqDiff,bC,hlen,aay,aaB];simp) (by simp only[aU,aX,bz,bA,reduceAdd,reduceMul,reduceLeDiff,reduceEqDiff,bC,hlen,aay,aaB];simp)
 ·exact Fz T w ox we nk s Sn Sw (by simp only[aU,aX,bz,bA,reduceAdd,reduceMul,reduceLeDiff,reduceEqDiff,bC,hlen,aay,aaB];simp) (by simp only[aU,aX,bz,bA,reduceAdd,reduceMul,reduceLeDiff,reduceEqDiff,bC,hlen,aay,aaB];simp)
 ·exact FA T w ox we nk s Sn Sw (by simp only[aU,aX,bz,bA,reduceAdd,reduceMul,reduceLeDiff,reduceEqDiff,bC,hlen,aay,aaB];simp) (by simp only[aU,aX,bz,bA,reduceAdd,reduceMul,reduceLeDiff,reduceEqDiff,bC,hlen,aay,aaB];simp)
 ·exact FC T w ox we nk s Sn Sw (by simp only[aU,aX,bz,bA,reduceAdd,reduceMul,reduceLeDiff,reduceEqDiff,bC,hlen,aay,aaB];simp) (by simp only[aU,aX,bz,bA,reduceAdd,reduceMul,reduceLeDiff,reduceEqDiff,bC,hlen,aay,aaB];simp)
 ·exact Bd T w ox we nk s Sn Sw (by simp only[aU,aX,bz,bA,reduceAdd,reduceMul,reduceLeDiff,reduceEqDiff,bC,hlen,aay,aaB];simp) (by simp only[aU,aX,bz,bA,reduceAdd,reduceMul,reduceLeDiff,reduceEqDiff,bC,hlen,aay,aaB];simp)
end
def ff.Nt{B W0 W W2 b K U}(s:ff B W0 b K W U)(hk:∀i,i<W.length->W2[i]? =W[i]?)(hl:W.length<=W2.length)(hx:Ext B W2):ff B W0 b K W2 U:=by
 refine⟨⟨s.bk.o.ar λi hi=>hk i (s.bk.o.dW hi).2,s.bk.hN,(hk _ s.bk.lt).trans s.bk.m,s.bk.ne⟩,hx,aa5 s.ln hl,λi hi=>?_,s.kl⟩;rw[hk i (aa7 (s.kl i hi).1 s.ln)];exact s.kp i hi
structure vZ(B W Y:ah)(mb:Nat)(c:List AV)(t:AV)(ins:List (By)):Prop where
 k:∀i,i<W.length->Y[i]? =W[i]?
 b:B.length<=W.length
 l:W.length<=mb
 x:Ext B Y
 m:Y[mb]? =some (.b c)
 f:Fr W.length Y t 1 (ins.map aq)
 n:∀i,sB t=some i->i≠mb
def vZ.lt{B W Y mb c t ins}(s:vZ B W Y mb c t ins):mb<Y.length:=(aad.1 s.m).1
def vZ.grow{B W Y Y2 mb c t ins}(s:vZ B W Y mb c t ins)(e:Ext Y Y2):vZ B W Y2 mb c t ins:=by
 have h1:=s.lt;have h2:=s.l;exact⟨λi hi=>by rw[e.get Om,s.k i hi],s.b,s.l,s.x.trans e,e.some s.m,s.f.ext e,s.n⟩
theorem vZ.set{B W Y mb c t ins}(s:vZ B W Y mb c t ins)(c':List AV):vZ B W (Y.set mb (.b c')) mb c' t ins:=by
 have h1:=s.lt;have h2:=s.l;have h3:=s.b;exact⟨λi hi=>by rw[aau Om,s.k i hi],s.b,s.l,s.x.jo Om,aaw h1,s.f.aB λi hi=>aau (abG (s.n i hi)),s.n⟩
def vZ.rc{B X W Y x V mb c t ins}(s:vZ B W Y mb c t ins)(r:cI B X x V W V):cI B X x V Y V:=
 ff.Nt r s.k (by have:=s.lt;have:=s.l;omega) s.x
def vZ.st{B W Y mb c t ins}(s:vZ B W Y mb c t ins){i v}(hv:v.one=true)(hi:i+1<=c.length):aV 1 (.ptr mb i) v (λz=>Y[z]?)=some (az,.set mb (.b (c.set i v))):=
 (aL s.m).trans (cg hv hi)
def yc(k:Nat):ai:=(fn226).body.dr k
def GL(k:Nat):ai:=((fn226).body.dr k).hd
def RG:yc 1=.seq (GL 1) (yc 2):=rfl
def Kc:yc 2=.seq (GL 2) (yc 3):=rfl
def RH:fn226=⟨96,2,[(4,some (some 7)),(5,none)],.seq (GL 0) (yc 1)⟩:=rfl
section
variable {P:Program}(T:eD P) {B X W Y:ah}{ts:TS}{V:RV}{x:EV}{mb:Nat}
include T
theorem vw(w:fM V.an)(s:cI B X x V W V){y t ins}(hb:vZ B W Y mb [.str y.name,.str y.gives,.str y.line,t] t ins)(hy:y.bp=ins)(hlen:ts.length=96)(t2:slot ts 2=.ptr X.length 0)(t4:slot ts 4=.ptr (X.length+2) 0)(t6:slot ts 6=.ptr mb 0):
  WC P bP (yc 3) [] ts Y (FQ [(4,some (some 7)),(5,none)] (tr B X V (if 32<=V.an.aD.length then 5 else 0) {V.an with aD:=V.an.aD++[y] })):=by
 have sY:=hb.rc s;have oV:=sY.bk.o.ok;have lm:=@fx _ _ _ hb.m;have hml:V.an.aD.length=V.aD.length:=by simp[RV.an]
 have ot:=hb.f.aT.one;obtain⟨lr,le,sb,gm⟩:=cI.fa sY;unfold yc fn226;simp only[ai.j,ai.s,ai.r,ai.dr,ai.tl];by_cases h1:32<=V.aD.length
 case pos=>
  have e1:decide ((32:Int)<=(V.aD.length:Int))=true:=aaj Om;refine Rs (mE t2 t4 t6 @lr @gh oV.i3.aK e1 @aE @sb @gm) ?_;rw[hml,aas h1];exact K4
 have e1:decide ((32:Int)<=(V.aD.length:Int))=false:=aaf Om;obtain⟨z,hz⟩:∃z:List AV,z=aS (y,t):=⟨_,rfl⟩;have Vh:[AV.str y.name,.str y.gives,.str y.line,t]=z:=by rw[hz];rfl
 refine Rs (A9 t2 t4 t6 @lr @gh oV.i3.aK e1 @lm @ot) ?_;rw[Vh];refine WR.qh (B:=B) (cs:=V.aD.map aS) (sY.bk.o.i3) (by rw[hz];rfl) sY.ex De (by rw[aak];omega) ?_;intro W5 s' x5 hff hn5 q5 l5 hk5;have hrow:V.aD.map aS++[z]=(V.aD++[(y,t)]).map aS:=by rw[aap,hz];rfl
 rw[hrow]at hff;have hlW:W.length<=Y.length:=by have:=hb.lt;have:=hb.l;omega
 have bN:∀i,sB t=some i->sB V.s3≠some i:=λi hi e=>by
  have h1:=(hb.f.bM hi).1;have h2:=(s.bk.o.dW (b:=i) (by rw[<-e];simp[RV.bl])).2;omega
 have f5:Fr B.length W5 t 1 (y.bp.map aq):=by
  rw[hy];exact(hb.f.aB λi hi=>hk5 i (hb.f.bM hi).2 (bN i hi)).low hb.b
 have s5:cI B X x V (W5.set X.length (.b (V.row.set 4 s'))) {V with aD:=V.aD++[(y,t)],s3:=s'}:=ff.p3 s hff f5 (λi hi=>.inr (by have:=hn5 i hi;omega)) (λi hi=>⟨(hb.f.bM hi).1,λe=>by have:=hn5 i e;have:=(hb.f.bM hi).2;omega⟩) (λi hi hne=>(hk5 i Om hne).trans (hb.k i hi)) x5 Om;have mB:W5[X.length]? =some (.b V.row):=(hk5 _ sY.bk.lt (λz=>sY.bk.ne (by rw[<-z];simp[RV.bl]))).trans sY.bk.m;have U3:aV 1 (.ptr X.length 4) s' (λz=>W5[z]?)=some (az,.set X.length (.b (V.row.set 4 s'))):=(aL mB).trans (cg q5 (by show 4+1<=7;omega));refine Rs (A5 t2 t4 t6 @U3 q5) ?_;obtain⟨W6,Va⟩:∃Z,Z=W5.set X.length (.b (V.row.set 4 s')):=⟨_,rfl⟩
 rw[<-Va]at s5 ⊢;obtain⟨lr,le,sb,gm⟩:=cI.fa s5;refine Rs (A7 t2 t4 t6 @lr @aE @sb @gm) ?_;rw[hml,aao h1];exact cI.fin s5 (λ_=>by simp only[RV.an,aap,abd,ab7])
variable {t:AV}
def BK(w:fM V.an)(ox:bd B x)(we:jf x.ev .source)(nk:tH V.an x.ev .source)(s:cI B X x V W V)(hb:vZ B W Y mb [.str (aO x.ev 0),.str [],.str [],t] t (x.ev.names.drop 1))(ht:t.one=true)(hlen:ts.length=96)(t2:slot ts 2=.ptr X.length 0)(t3:slot ts 3=.ptr (X.length+1) 0)(t4:slot ts 4=.ptr (X.length+2) 0)(t6:slot ts 6=.ptr mb 0):
  WC P bP (yc 2) [] ts Y (FQ [(4,some (some 7)),(5,none)] (tr B X V (bD V.an x.ev .source) (dD V.an x.ev .source))):=by
 have sY:=hb.rc s;have ow:=ox.ext sY.ex;have oV:=sY.bk.o.ok;have Tw:x.ev.kind=bf .source:=bY we.kd;have lm:=@fx _ _ _ hb.m;obtain⟨lr,le,sb,gm⟩:=cI.fa sY;rw[Kc];generalize hR:yc 3=R;unfold GL fn226;simp only[ai.j,ai.s,ai.r,ai.dr,ai.tl,ai.hd];refine pP (nZ t2 t3 t4 t6 @le @bB @Tw @iI @kH @jE @aaJ @aaE) ?_;refine pL (λg=>cI B X x V g V) ?_;refine dm sY rfl rfl ?_;refine Rs (A4 t2 t3 t4 t6) ?_;refine lM sY (v:=x.sn) (λg hg=>?_) ?_
 ·simp only[aU,aX,bz,bA,reduceAdd,reduceMul,reduceLeDiff,reduceEqDiff,bC,hlen,aay,aaB,t3,cI.le hg (Ext.refl _),aN]
 refine Rs (A4 t2 t3 t4 t6) ?_;have i1:aZ 1 x.sn (.i 1)=_:=(xU ow we (i:=1) De).1;refine dm sY rfl rfl ?_;refine Rs (A5 t2 t3 t4 t6 @i1) ?_;refine lM sY (v:=.str (aO x.ev 1)) (λg hg=>?_) ?_
 ·have h9:=@(xU (ox.ext (ff.ex hg)) we (i:=1) De).2;refine Zs t3 ?_;exact h9 (Ext.refl _)
 refine Rs (A4 t2 t3 t4 t6) ?_;refine dm sY rfl rfl ?_;refine Rs (A4 t2 t3 t4 t6) ?_;have TV:=hb.set [.str (aO x.ev 0),.str ee,.str [],t];have lI:aV 1 (.ptr mb 1) (.str [115,104,111,116,115]) (λz=>Y[z]?)=some (az,.set mb (.b [.str (aO x.ev 0),.str ee,.str [],t])):=hb.st rfl (by show 1+1<=4;omega);obtain⟨Y1,XT⟩:∃Z,Z=Y.set mb (.b [.str (aO x.ev 0),.str ee,.str [],t]):=⟨_,rfl⟩;rw[<-XT]at TV;refine dm sY rfl rfl ?_;refine Rs (A5 t2 t3 t4 t6 @lI) ?_;rw[<-XT];have S1:=TV.rc s;refine pK S1 rfl ?_;have T3:=TV.set [.str (aO x.ev 0),.str ee,.str (aO x.ev 1),t];have eQ:aV 1 (.ptr mb 2) (.str (aO x.ev 1)) (λz=>Y1[z]?)=some (az,.set mb (.b [.str (aO x.ev 0),.str ee,.str (aO x.ev 1),t])):=TV.st rfl (by show 2+1<=4;omega)
 have WY:=T3.set [.str (aO x.ev 0),.str ee,.str (aO x.ev 1),.af];have oh:aV 1 (.ptr mb 3) .af (λz=>(Y1.set mb (.b [.str (aO x.ev 0),.str ee,.str (aO x.ev 1),t]))[z]?)=some (az,.set mb (.b [.str (aO x.ev 0),.str ee,.str (aO x.ev 1),.af])):=T3.st rfl (by show 3+1<=4;omega);have hb4:vZ B W _ mb [.str (aO x.ev 0),.str ee,.str (aO x.ev 1),.af] .af []:=⟨WY.k,WY.b,WY.l,WY.x,WY.m,.nil,λi hi=>by cases hi⟩;refine Rs (A6 t2 t3 t4 t6 @eQ @oh) ?_;rw[<-hR];exact vw T w s (y:=⟨aO x.ev 0,ee,aO x.ev 1,[]⟩) hb4 rfl Sn (Sq t2) (Sq t4) (Sq t6)
def GK(w:fM V.an)(ox:bd B x)(we:jf x.ev .gy)(nk:tH V.an x.ev .gy)(s:cI B X x V W V)(hb:vZ B W Y mb [.str (aO x.ev 0),.str [],.str [],t] t (x.ev.names.drop 1))(ht:t.one=true)(hlen:ts.length=96)(t2:slot ts 2=.ptr X.length 0)(t3:slot ts 3=.ptr (X.length+1) 0)(t4:slot ts 4=.ptr (X.length+2) 0)(t6:slot ts 6=.ptr mb 0):
  WC P bP (yc 2) [] ts Y (FQ [(4,some (some 7)),(5,none)] (tr B X V (bD V.an x.ev .gy) (dD V.an x.ev .gy))):=by
 have sY:=hb.rc s;have ow:=ox.ext sY.ex;have oV:=sY.bk.o.ok;have Tw:x.ev.kind=bf .gy:=bY we.kd;have lm:=@fx _ _ _ hb.m;obtain⟨lr,le,sb,gm⟩:=cI.fa sY;obtain⟨i1,d1⟩:=bR ow we 1 1 rfl De;obtain⟨j1,f1,q1⟩:=cX ow we 1 1 rfl De;have k1:aO x.ev 1∈iH V.an:=nk.kn 1 3 rfl;rw[Kc];generalize hR:yc 3=R;unfold GL fn226;simp only[ai.j,ai.s,ai.r,ai.dr,ai.tl,ai.hd];refine pP (Iu @t2 @t3 @t4 @t6 @le @lr @aN @aW @aE @bB @Tw @iI @kH @jE @aaJ @aaE @j1 @f1) ?_;refine WF.ce T.c20 (r20 T _ _ _) λg1=>?_
 obtain⟨Y1,XT⟩:∃Z,Z=Y++g1:=⟨_,rfl⟩;rw[<-XT];have hb:=hb.grow (show Ext Y Y1 from⟨g1,XT⟩);have sY:=hb.rc s;have ow:=ox.ext sY.ex;have oV:=sY.bk.o.ok;have lm:=@fx _ _ _ hb.m;obtain⟨lr,le,sb,gm⟩:=cI.fa sY;obtain⟨i1,d1⟩:=bR ow we 1 1 rfl De;obtain⟨j1,f1,q1⟩:=cX ow we 1 1 rfl De;by_cases h1:bG (bL x.ev 1) 1 4=0
 case neg=>
  have e1:decide (bG (bL x.ev 1) 1 4≠0)=true:=aaj h1;refine Rs (A8 t2 t3 t4 e1 @lr @aE @sb @gm) ?_;rw[bD,aas h1];exact K4
 have e1:decide (bG (bL x.ev 1) 1 4≠0)=false:=aaf (λz=>z h1);refine Rs (nZ t2 t3 t4 t6 @le @lr @aN @aW @aE e1 @j1 @f1) ?_;refine WF.ce T.c263 (r263 T _) λg2=>?_
 obtain⟨Y2,Vt⟩:∃Z,Z=Y1++g2:=⟨_,rfl⟩;rw[<-Vt];have hb:=hb.grow (show Ext Y1 Y2 from⟨g2,Vt⟩);have sY:=hb.rc s;have ow:=ox.ext sY.ex;have oV:=sY.bk.o.ok;have lm:=@fx _ _ _ hb.m;obtain⟨lr,le,sb,gm⟩:=cI.fa sY;obtain⟨i1,d1⟩:=bR ow we 1 1 rfl De;obtain⟨j1,f1,q1⟩:=cX ow we 1 1 rfl De;refine Rs (n6 t2 t3 t4 t6 @le @lr @aN @aW @aE @i1 @d1) ?_;refine WF.ce T.c264 (r264 T (oV.ext Xx) w.len k1) λg3=>?_
 obtain⟨Y3,hY3⟩:∃Z,Z=Y2++g3:=⟨_,rfl⟩;rw[<-hY3];have hb:=hb.grow (show Ext Y2 Y3 from⟨g3,hY3⟩);have sY:=hb.rc s;have ow:=ox.ext sY.ex;have oV:=sY.bk.o.ok;have lm:=@fx _ _ _ hb.m;obtain⟨lr,le,sb,gm⟩:=cI.fa sY;by_cases h2:(iw V.an (aO x.ev 1)).gives=nD (bL x.ev 1)
 case neg=>
  have e2:decide ((iw V.an (aO x.ev 1)).gives≠nD (bL x.ev 1))=true:=aaj h2;refine Rs (A9 t2 t3 t4 t6 e2 @lr @aE @sb @gm) ?_;rw[bD,aao (λz=>z h1),aas h2];exact K4
 have e2:decide ((iw V.an (aO x.ev 1)).gives≠nD (bL x.ev 1))=false:=aaf (λz=>z h2);have TV:=hb.set [.str (aO x.ev 0),.str (ki (bL x.ev 1)),.str [],t];have lI:aV 1 (.ptr mb 1) (.str (ki (bL x.ev 1))) (λz=>Y3[z]?)=some (az,.set mb (.b [.str (aO x.ev 0),.str (ki (bL x.ev 1)),.str [],t])):=hb.st rfl (by show 1+1<=4;omega);refine Rs (A6 t2 t3 t4 t6 e2 @lI) ?_;rw[<-hR];have hc:bD V.an x.ev .gy=if 32<=V.an.aD.length then 5 else 0:=by rw[bD,aao (λz=>z h1),aao (λz=>z h2)]
 rw[hc];exact vw T w s (y:=⟨aO x.ev 0,ki (bL x.ev 1),[],x.ev.names.drop 1⟩) TV rfl Sn (Sq t2) (Sq t4) (Sq t6)
def Ef(w:fM V.an)(ox:bd B x)(we:jf x.ev .merge)(nk:tH V.an x.ev .merge)(s:cI B X x V W V)(hb:vZ B W Y mb [.str (aO x.ev 0),.str [],.str [],t] t (x.ev.names.drop 1))(ht:t.one=true)(hlen:ts.length=96)(t2:slot ts 2=.ptr X.length 0)(t3:slot ts 3=.ptr (X.length+1) 0)(t4:slot ts 4=.ptr (X.length+2) 0)(t6:slot ts 6=.ptr mb 0):
  WC P bP (yc 2) [] ts Y (FQ [(4,some (some 7)),(5,none)] (tr B X V (bD V.an x.ev .merge) (dD V.an x.ev .merge))):=by
 have sY:=hb.rc s;have ow:=ox.ext sY.ex;have oV:=sY.bk.o.ok;have Tw:x.ev.kind=bf .merge:=bY we.kd;have lm:=@fx _ _ _ hb.m;obtain⟨lr,le,sb,gm⟩:=cI.fa sY;obtain⟨i1,d1⟩:=bR ow we 1 1 rfl De;obtain⟨i2,d2⟩:=bR ow we 2 2 rfl De;have k1:aO x.ev 1∈iH V.an:=nk.kn 1 3 rfl;have k2:aO x.ev 2∈iH V.an:=nk.kn 2 3 rfl;rw[Kc];generalize hR:yc 3=R;unfold GL fn226;simp only[ai.j,ai.s,ai.r,ai.dr,ai.tl,ai.hd];by_cases h1:aO x.ev 1=aO x.ev 2
 case pos=>
  have e1:decide (aO x.ev 1=aO x.ev 2)=true:=aaj h1;refine pP (SP @t2 @t3 @t4 @t6 @le @lr @aN @aW @aE @bB @Tw @iI @kH @jE @aaJ @aaE @i1 @d1 @i2 @d2 @e1 @sb @gm) ?_;rw[bD,aas h1];exact K4
 have e1:decide (aO x.ev 1=aO x.ev 2)=false:=aaf h1;refine pP (SQ @t2 @t3 @t4 @t6 @le @lr @aN @aW @aE @bB @Tw @iI @kH @jE @aaJ @aaE @i1 @d1 @i2 @d2 @e1) ?_;refine WF.ce T.c264 (r264 T (oV.ext Xx) w.len k1) λg2=>?_
 obtain⟨Y1,XT⟩:∃Z,Z=Y++g2:=⟨_,rfl⟩;rw[<-XT];have hb:=hb.grow (show Ext Y Y1 from⟨g2,XT⟩);have sY:=hb.rc s;have ow:=ox.ext sY.ex;have oV:=sY.bk.o.ok;have lm:=@fx _ _ _ hb.m;obtain⟨lr,le,sb,gm⟩:=cI.fa sY;have TV:=hb.set [.str (aO x.ev 0),.str (iw V.an (aO x.ev 1)).gives,.str [],t];have lI:aV 1 (.ptr mb 1) (.str (iw V.an (aO x.ev 1)).gives) (λz=>Y1[z]?)=some (az,.set mb (.b [.str (aO x.ev 0),.str (iw V.an (aO x.ev 1)).gives,.str [],t])):=hb.st rfl (by show 1+1<=4;omega);refine Rs (A5 t2 t3 t4 t6 @lI) ?_;obtain⟨Y2,Vt⟩:∃Z,Z=Y1.set mb (.b [.str (aO x.ev 0),.str (iw V.an (aO x.ev 1)).gives,.str [],t]):=⟨_,rfl⟩
 rw[<-Vt]at TV ⊢;have hb:=TV;obtain⟨Y3,hY3⟩:∃Z,Z=Y2++[]:=⟨_,rfl⟩;rw[aaF]at hY3;rw[<-hY3];have hb:=hb.grow (show Ext Y2 Y3 from⟨[],by rw[aaF];exact hY3⟩);have sY:=hb.rc s;have ow:=ox.ext sY.ex;have oV:=sY.bk.o.ok;have lm:=@fx _ _ _ hb.m;obtain⟨lr,le,sb,gm⟩:=cI.fa sY;obtain⟨i1,d1⟩:=bR ow we 1 1 rfl De;obtain⟨i2,d2⟩:=bR ow we 2 2 rfl De;refine Rs (n6 t2 t3 t4 t6 @le @lr @aN @aW @aE @i2 @d2) ?_;refine WF.ce T.c264 (r264 T (oV.ext Xx) w.len k2) λg3=>?_
 obtain⟨Y4,hY4⟩:∃Z,Z=Y3++g3:=⟨_,rfl⟩;rw[<-hY4];have hb:=hb.grow (show Ext Y3 Y4 from⟨g3,hY4⟩);have sY:=hb.rc s;have ow:=ox.ext sY.ex;have oV:=sY.bk.o.ok;have lm:=@fx _ _ _ hb.m;obtain⟨lr,le,sb,gm⟩:=cI.fa sY;by_cases h2:(iw V.an (aO x.ev 1)).gives=(iw V.an (aO x.ev 2)).gives
 case neg=>
  have e2:decide ((iw V.an (aO x.ev 2)).gives≠(iw V.an (aO x.ev 1)).gives)=true:=aaj (λz=>h2 z.symm);refine Rs (mE t2 t3 t4 t6 @lm e2 @lr @aE @sb @gm) ?_;rw[bD,aao h1,aas h2];exact K4
 have e2:decide ((iw V.an (aO x.ev 2)).gives≠(iw V.an (aO x.ev 1)).gives)=false:=aaf (λz=>z h2.symm);refine Rs (A6 t2 t3 t4 t6 @lm e2) ?_;rw[<-hR];have hc:bD V.an x.ev .merge=if 32<=V.an.aD.length then 5 else 0:=by rw[bD,aao h1,aao (λz=>z h2)]
 rw[hc];exact vw T w s (y:=⟨aO x.ev 0,(iw V.an (aO x.ev 1)).gives,[],x.ev.names.drop 1⟩) hb rfl Sn (Sq t2) (Sq t4) (Sq t6)
omit T in
theorem HN(o:cJ B.length X V)(hx:Ext B X):cI B X x V (X++[.b V.row]++[.b x.row]++[.b lG]) V:=by
 exact z20
def Ee{d}(hd:d=.source\/d=.gy\/d=.merge)(w:fM V.an)(ox:bd B x)(we:jf x.ev d)(nk:tH V.an x.ev d)(s:cI B X x V W V)(hlen:ts.length=96)(t2:slot ts 2=.ptr X.length 0)(t3:slot ts 3=.ptr (X.length+1) 0)(t4:slot ts 4=.ptr (X.length+2) 0):
  WC P bP (yc 1) [] ts W (FQ [(4,some (some 7)),(5,none)] (tr B X V (bD V.an x.ev d) (dD V.an x.ev d))):=by
 have ow:=ox.ext s.ex;have hn1:1<=x.ev.names.length:=by rw[we.nl];rcases hd with rfl|rfl|rfl<;>decide
 have hn3:x.ev.names.length<=3:=by rw[we.nl];rcases hd with rfl|rfl|rfl<;>decide
 have VB:0<(aM d).length:=by rw[<-we.nl];exact hn1
 obtain⟨i0,d0⟩:=bR ow we 0 0 rfl VB;obtain⟨lr,le,sb,gm⟩:=cI.fa s;obtain⟨s',es',Tq⟩:=ow.n.EG (lo:=some (.i 1)) (hi:=none) (lA (k:=1) hn1);have et:List.take (x.ev.names.length-1) (List.drop 1 x.ev.names)=x.ev.names.drop 1:=aaV Si;rw[et]at Tq;rw[RG];generalize hR:yc 2=R;unfold GL fn226;simp only[ai.j,ai.s,ai.r,ai.dr,ai.tl,ai.hd];refine Rs (A8 t2 t3 t4 @le @aN @i0 @d0 @es') ?_;refine WR.qQ (N:=W.length) (w:=16) ba (aar _) (Tq.ext Xx) (by simp only[aak,abv];omega) λt g f=>?_
 have ot:=f.aT.one;obtain⟨Y,hY⟩:∃Z,Z=W++[ak.b []]++g:=⟨_,rfl⟩;rw[<-hY]at f ⊢;have eY:Ext W Y:=by rw[hY,aae];exact⟨_,rfl⟩
 refine Rs (A4 t2 t3 t4 @ot) ?_;have hb:vZ B W (Y++[ak.b [AV.str (aO x.ev 0),.str [],.str [],t]]) Y.length [AV.str (aO x.ev 0),.str [],.str [],t] t (x.ev.names.drop 1):=by
  refine⟨λi hi=>?_,s.ex.len,eY.len,s.ex.trans (eY.trans ⟨_,rfl⟩),ba,f.app _,λi hi e=>?_⟩
  ·rw[aag (by have:=eY.len;omega),eY.get hi]
  ·have:=(f.bM hi).2;omega
 rw[<-hR];rcases hd with rfl|rfl|rfl
 ·exact BK T w ox we nk s hb ot Sn (Sq t2) (Sq t3) (Sq t4) Sw
 ·exact GK T w ox we nk s hb ot Sn (Sq t2) (Sq t3) (Sq t4) Sw
 ·exact Ef T w ox we nk s hb ot Sn (Sq t2) (Sq t3) (Sq t4) Sw
def JK{d}(hd:d=.source\/d=.gy\/d=.merge)(o:cJ B.length X V)(w:fM V.an)(hx:Ext B X)(ox:bd B x)(we:jf x.ev d)(nk:tH V.an x.ev d):
  dy P 226 [.agg V.row,.agg x.row] X (tr B X V (bD V.an x.ev d) (dD V.an x.ev d)):=by
 refine .of T.mix (acP T.c226 (aaR some RH)) ?_;obtain⟨ts,Tp⟩:∃ts,ts=aR 96 [.agg V.row,.agg x.row]:=⟨_,rfl⟩;have hlen:ts.length=96:=by rw[Tp];rfl
 have t0:slot ts 0=.agg V.row:=by rw[Tp];rfl
 have t1:slot ts 1=.agg x.row:=by rw[Tp];rfl
 show WC P bP (.seq (GL 0) (yc 1)) [] (aR 96 [.agg V.row,.agg x.row]) X (FQ [(4,some (some 7)),(5,none)] (tr B X V (bD V.an x.ev d) (dD V.an x.ev d)));rw[<-Tp];clear Tp;have To:=@aC.box _ _ o.ok;have hex:=@bd.box _ _ (ox.ext hx);have s:cI B X x V (X++[.b V.row]++[.b x.row]++[.b lG]) V:=HN o hx;unfold lG at s;generalize hR:yc 1=R;unfold GL fn226;simp only[ai.dr,ai.hd];refine Rs (A4 t0 t1 @To @hex) ?_;rw[<-hR];exact Ee T hd w ox we nk s Sn Sw (by simp only[aU,aX,bz,bA,reduceAdd,reduceMul,reduceLeDiff,reduceEqDiff,bC,hlen,aay,aaB];simp) (by simp only[aU,aX,bz,bA,reduceAdd,reduceMul,reduceLeDiff,reduceEqDiff,bC,hlen,aay,aaB];simp)
end
def BF(k:Nat):ai:=(fn227).body.dr k
def Rv(k:Nat):ai:=((fn227).body.dr k).hd
def Ru:fn227=⟨223,2,[(4,some (some 7)),(5,none)],.seq (Rv 0) (BF 1)⟩:=rfl
structure RY(V:RV)(n:By)(p:Nat)(J:lP×AV):Prop where
 ps:p=bo (jk V.an) n
 lt:p<V.aF.length
 g:V.aF[p]? =some J
 e:J.1=gR V.an n
 m:J∈V.aF
 i:dt (λy:lP×AV=>decide (y.1.name=n)) V.aF=(p:Int)
def QK{V n}(hn:n∈jk V.an):∃p J,RY V n p J:=by
 have hlt:bo (jk V.an) n<V.aF.length:=by have:=c8 hn;simpa [jk,RV.an]using this
 refine⟨_,V.aF[bo (jk V.an) n],rfl,hlt,aai hlt,?_,aat _,?_⟩
 ·rw[gR,dB (f:=lP.name) (l:=V.an.aF) (d:=Bk) hn];exact EN
 ·rw[iS];exact fo (f:=λy:lP×AV=>y.1.name) (by rw[<-iS];exact hn)
theorem RY.at{V n p J}(j:RY V n p J):V.aF[p]'j.lt=J:=by
 have:=j.g;rw[aai j.lt]at this;exact abf this
section
variable {P:Program}(T:eD P) {B X W:ah}{ts:TS}{V:RV}{x:EV}
include T
def Kb(w:fM V.an)(ox:bd B x)(we:jf x.ev .rel)(nk:tH V.an x.ev .rel)(s:cI B X x V W V)(hlen:ts.length=223)(t2:slot ts 2=.ptr X.length 0)(t3:slot ts 3=.ptr (X.length+1) 0)(t4:slot ts 4=.ptr (X.length+2) 0):
  WC P bP (BF 1) [] ts W (FQ [(4,some (some 7)),(5,none)] (tr B X V (bD V.an x.ev .rel) (dD V.an x.ev .rel))):=by
 have ow:=ox.ext s.ex;have oV:=s.bk.o.ok;have Tw:x.ev.kind=bf .rel:=bY we.kd;obtain⟨lr,le,sb,gm⟩:=cI.fa s;obtain⟨i0,d0⟩:=bR ow we 0 0 rfl De;unfold BF fn227;simp only[ai.j,ai.s,ai.r,ai.dr,ai.tl];have k0:aO x.ev 0∈lS V.an:=nk.kn 0 5 rfl;have hlt:bo (lS V.an) (aO x.ev 0)<V.aP.length:=by have:=c8 k0;simpa [lS,RV.an]using this
 have ei:dt (λy:qR=>decide (y.name=aO x.ev 0)) V.aP=(bo (lS V.an) (aO x.ev 0):Int):=fo (f:=qR.name) k0;have sp:kC V.an (aO x.ev 0)=V.aP[bo (lS V.an) (aO x.ev 0)]:=dB k0;obtain⟨p,hp⟩:∃p,p=bo (lS V.an) (aO x.ev 0):=⟨_,rfl⟩;rw[<-hp]at ei;have hlt:p<V.aP.length:=by rw[hp];exact hlt
 have sp:kC V.an (aO x.ev 0)=V.aP[p]:=by rw[sp];congr 1;exact hp.symm
 refine pP (B4 t2 t3 t4 @le @lr @bB @aN @aW @aE @Tw @iA @aaJ @aaE @i0 @d0) ?_;refine WF.ce T.c57 (r57 T (oV.ext Xx) w.len _) λg1=>?_
 rw[ei];obtain⟨W2,T6⟩:∃Z,Z=W++g1:=⟨_,rfl⟩;rw[<-T6];have TM:cI B X x V W2 V:=by rw[T6];exact ff.grow s ⟨g1,rfl⟩
 have ow:=ox.ext TM.ex;have oV:=TM.bk.o.ok;obtain⟨lr,le,sb,gm⟩:=cI.fa TM;have ix:aZ 4 V.s5 (.i (p:Int))=some (cT V.s5 4 p,.ar):=oV.i5.dK hlt;have l3:∀{k:ah},Ext W2 k->ao none (j9 V.s5 4 p 3) (λb=>k[b]?)=some (.bool (kC V.an (aO x.ev 0)).rel,.ar):=λ{k} e=>by rw[sp];exact oV.i5.mi hlt rfl e
 cases h1:(kC V.an (aO x.ev 0)).rel with
 |true=>
  rw[h1]at l3;refine Rs (mE t2 t3 t4 ix @l3 @lr @aE @iP @sb @gm) ?_;rw[bD,aas h1];exact K5
 |false=>
  rw[h1]at l3;have UG:bD V.an x.ev .rel=0:=by rw[bD,aao (by rw[h1];decide)]
  refine Rs (A7 t2 t3 t4 ix @l3 @lr @iP) ?_;refine WR.Dh (B:=B) (x':={V.aP[p]with rel:=true}) (row:=dx) TM.bk.o.i5 TM.ex hlt De rfl rfl ?_;intro W5 x5 l5 hff hk5;have s5:cI B X x V W5 {V with aP:=V.aP.set p {V.aP[p]with rel:=true} }:=ff.q5 TM hff (λi _ hne=>hk5 i hne) x5 Om;obtain⟨lr,_,sb,gm⟩:=cI.fa s5;refine Rs (A7 t2 t3 t4 @lr @aE @sb @gm) ?_;exact Lm
def Gq(w:fM V.an)(ox:bd B x)(we:jf x.ev .gN)(nk:tH V.an x.ev .gN)(s:cI B X x V W V)(hlen:ts.length=223)(t2:slot ts 2=.ptr X.length 0)(t3:slot ts 3=.ptr (X.length+1) 0)(t4:slot ts 4=.ptr (X.length+2) 0):
  WC P bP (BF 1) [] ts W (FQ [(4,some (some 7)),(5,none)] (tr B X V (bD V.an x.ev .gN) (dD V.an x.ev .gN))):=by
 have ow:=ox.ext s.ex;have oV:=s.bk.o.ok;have Tw:x.ev.kind=bf .gN:=bY we.kd;obtain⟨lr,le,sb,gm⟩:=cI.fa s;obtain⟨i0,d0⟩:=bR ow we 0 0 rfl De;obtain⟨i1,d1⟩:=bR ow we 1 1 rfl De;unfold BF fn227;simp only[ai.j,ai.s,ai.r,ai.dr,ai.tl];have k1:aO x.ev 1∈jk V.an:=nk.kn 1 4 rfl;obtain⟨p,J,jx⟩:=QK k1;have ix:aZ 3 V.s4 (.i (p:Int))=some (cT V.s4 3 p,.ar):=oV.i4.dK jx.lt;refine pP (Iv t2 t3 t4 @le @lr @bB @aN @aW @gI @aE @Tw @iA @aaJ @aaE @i1 @d1) ?_;refine WF.ce T.c56 (r56 T (oV.ext Xx) w.len _) λg1=>?_
 rw[jx.i];obtain⟨W2,T6⟩:∃Z,Z=W++g1:=⟨_,rfl⟩;rw[<-T6];have TM:cI B X x V W2 V:=by rw[T6];exact ff.grow s ⟨g1,rfl⟩
 have ow:=ox.ext TM.ex;have oV:=TM.bk.o.ok;obtain⟨lr,le,sb,gm⟩:=cI.fa TM;obtain⟨i0,d0⟩:=bR ow we 0 0 rfl De;obtain⟨i1,d1⟩:=bR ow we 1 1 rfl De;have ld:∀{k:ah},Ext W2 k->ao (some 3) (cT V.s4 3 p) (λb=>k[b]?)=some (.agg (bS J),.ar):=λ{k} e=>by rw[<-jx.at];exact oV.i4.lL jx.lt e
 have oJ:=oV.e4 J jx.m;have oJ1:=oJ.one;have hJ:=w.jb J.1 (aaH jx.m);unfold bS at ld;refine Rs (A6 t2 t3 t4 ix @ld @oJ1) ?_;obtain⟨jb,hjb⟩:∃n,n=W2.length:=⟨_,rfl⟩;rw[<-hjb];obtain⟨W3,TL⟩:∃Z,Z=W2++[ak.b [AV.str J.1.name,.str J.1.mod,J.2]]:=⟨_,rfl⟩;rw[<-TL];have TR:cI B X x V W3 V:=by rw[TL];exact ff.grow TM ⟨[ak.b [AV.str J.1.name,.str J.1.mod,J.2]],rfl⟩
 have ow:=ox.ext TR.ex;have oV:=TR.bk.o.ok;obtain⟨lr,le,sb,gm⟩:=cI.fa TR;obtain⟨i0,d0⟩:=bR ow we 0 0 rfl De;obtain⟨i1,d1⟩:=bR ow we 1 1 rfl De;have mj:W3[jb]? =some (.b [AV.str J.1.name,.str J.1.mod,J.2]):=by rw[TL,hjb];exact ba
 have lj:=@fx _ _ _ mj;have oJ:=oV.e4 J jx.m;refine Rs (n6 t2 t3 t4 @le @lr @bB @aN @aW @aE @i1 @d1) ?_;refine WF.ce T.c265 (r265 T (oV.ext Xx) w.len _) λg2=>?_
 obtain⟨W4,Uk⟩:∃Z,Z=W3++g2:=⟨_,rfl⟩;rw[<-Uk];have U4:cI B X x V W4 V:=by rw[Uk];exact ff.grow TR ⟨g2,rfl⟩
 have ow:=ox.ext U4.ex;have oV:=U4.bk.o.ok;obtain⟨lr,le,sb,gm⟩:=cI.fa U4;obtain⟨i0,d0⟩:=bR ow we 0 0 rfl De;obtain⟨i1,d1⟩:=bR ow we 1 1 rfl De;have mj:=(show Ext W3 W4 from⟨g2,Uk⟩).some mj;have lj:=@fx _ _ _ mj;have oJ:=oV.e4 J jx.m;cases h1:qL V.an (aO x.ev 1)with
 |true=>
  refine Rs (A7 t2 t3 t4 @lr @aE @sb @gm) ?_;rw[bD,aas h1];exact z143
 |false=>
 refine Rs (A5 t2 t3 t4 @lj @oJ1) ?_;refine WF.res T.c60 (r60 T (x:=J) (oJ.ext Xx) Om) ?_;rintro vl g3 Ud;obtain⟨W5,VT⟩:∃Z,Z=W4++g3:=⟨_,rfl⟩;rw[<-VT];have sW5:cI B X x V W5 V:=by rw[VT];exact ff.grow U4 ⟨g3,rfl⟩
 have ow:=ox.ext sW5.ex;have oV:=sW5.bk.o.ok;obtain⟨lr,le,sb,gm⟩:=cI.fa sW5;obtain⟨i0,d0⟩:=bR ow we 0 0 rfl De;obtain⟨i1,d1⟩:=bR ow we 1 1 rfl De;rw[<-VT]at Ud;have mj:=(show Ext W4 W5 from⟨g3,VT⟩).some mj;have lj:=@fx _ _ _ mj;have oJ:=oV.e4 J jx.m;rw[jx.e]at Ud;by_cases h2:cY (gR V.an (aO x.ev 1)).bu 0=[]
 case neg=>
  have e2:decide ((0:Int)<((cY (gR V.an (aO x.ev 1)).bu 0).length:Int))=true:=aaj (by have:=abX.2 h2;omega);refine Rs (A9 t2 t3 t4 Ud.aK e2 @lr @aE @sb @gm) ?_;rw[bD,aao (by rw[h1];decide),aas h2];exact cI.fin sW5 (λz=>absurd z De)
 have e2:decide ((0:Int)<((cY (gR V.an (aO x.ev 1)).bu 0).length:Int))=false:=aaf (by rw[h2];decide);by_cases h3:16<=V.aP.length
 case pos=>
  have e3:decide ((16:Int)<=(V.aP.length:Int))=true:=aaj Om;refine Rs (nZ t2 t3 t4 Ud.aK e2 @lr @iP oV.i5.aK e3 @aE @sb @gm) ?_;rw[bD,aao (by rw[h1];decide),aao (λz=>z h2),aas (show 16<=V.an.aP.length from h3)];exact cI.fin sW5 (λz=>absurd z De)
 have e3:decide ((16:Int)<=(V.aP.length:Int))=false:=aaf Om;have UG:bD V.an x.ev .gN=0:=by rw[bD,aao (by rw[h1];decide),aao (λz=>z h2),aao (show ¬16<=V.an.aP.length from h3)]
 refine Rs (Iu t2 t3 t4 @le @lr @bB @aN @aW Ud.aK e2 @iP oV.i5.aK e3 @i0 @d0 @i1 @d1 @lj) ?_;refine WF.ce T.c31 (r31 T (oJ.ext Xx) Om hJ.2.2.2) λg4=>?_
 rw[jx.e];obtain⟨W6,Va⟩:∃Z,Z=W5++g4:=⟨_,rfl⟩;rw[<-Va];have Yl:cI B X x V W6 V:=by rw[Va];exact ff.grow sW5 ⟨g4,rfl⟩
 have ow:=ox.ext Yl.ex;have oV:=Yl.bk.o.ok;obtain⟨lr,le,sb,gm⟩:=cI.fa Yl;obtain⟨y,hy⟩:∃y:qR,y=⟨aO x.ev 0,aO x.ev 1,gC (gR V.an (aO x.ev 1)).bu,false⟩:=⟨_,rfl⟩;obtain⟨z,hz⟩:∃z:List AV,z=dx y:=⟨_,rfl⟩;have Vh:[AV.str (aO x.ev 0),.str (aO x.ev 1),.i (gC (gR V.an (aO x.ev 1)).bu),.bool false]=z:=by rw[hz,hy];rfl
 refine Rs (A3 t2 t3 t4) ?_;rw[Vh];refine WR.qh (B:=B) (cs:=V.aP.map dx) (Yl.bk.o.i5) (by rw[hz];rfl) Yl.ex De (by rw[aak];omega) ?_;intro W7 s' x5 hff hn5 q5 l5 hk5;have hrow:V.aP.map dx++[z]=(V.aP++[y]).map dx:=by rw[aap,hz];rfl
 rw[hrow]at hff;have s5:cI B X x V (W7.set X.length (.b (V.row.set 6 s'))) {V with aP:=V.aP++[y],s5:=s'}:=ff.p5 Yl hff (λi hi=>.inr (acV (hn5 i hi))) hk5 x5 l5;have mB:W7[X.length]? =some (.b V.row):=(hk5 _ Yl.bk.lt (λz=>Yl.bk.ne (by rw[<-z];simp[RV.bl]))).trans Yl.bk.m;have U3:aV 1 (.ptr X.length 6) s' (λz=>W7[z]?)=some (az,.set X.length (.b (V.row.set 6 s'))):=(aL mB).trans (cg q5 (by show 6+1<=7;omega));refine Rs (A5 t2 t3 t4 @U3 q5) ?_;obtain⟨W8,hW8⟩:∃Z,Z=W7.set X.length (.b (V.row.set 6 s')):=⟨_,rfl⟩;rw[<-hW8]at s5 ⊢;obtain⟨lr,_,sb,gm⟩:=cI.fa s5;refine Rs (A7 t2 t3 t4 @lr @aE @sb @gm) ?_
 rw[UG];exact cI.fin s5 (λ_=>by rw[hy];rfl)
def Gr(w:fM V.an)(ox:bd B x)(we:jf x.ev .fail)(nk:tH V.an x.ev .fail)(s:cI B X x V W V)(hlen:ts.length=223)(t2:slot ts 2=.ptr X.length 0)(t3:slot ts 3=.ptr (X.length+1) 0)(t4:slot ts 4=.ptr (X.length+2) 0):
  WC P bP (BF 1) [] ts W (FQ [(4,some (some 7)),(5,none)] (tr B X V (bD V.an x.ev .fail) (dD V.an x.ev .fail))):=by
 have ow:=ox.ext s.ex;have oV:=s.bk.o.ok;have Tw:x.ev.kind=bf .fail:=bY we.kd;obtain⟨lr,le,sb,gm⟩:=cI.fa s;obtain⟨i0,d0⟩:=bR ow we 0 0 rfl De;obtain⟨j1,f1,q1⟩:=cX ow we 1 1 rfl De;unfold BF fn227;simp only[ai.j,ai.s,ai.r,ai.dr,ai.tl];have k0:aO x.ev 0∈jk V.an:=nk.kn 0 4 rfl;obtain⟨p,J,jx⟩:=QK k0;have ix:aZ 3 V.s4 (.i (p:Int))=some (cT V.s4 3 p,.ar):=oV.i4.dK jx.lt;refine pP (B4 t2 t3 t4 @le @lr @bB @aN @aW @aE @Tw @iA @aaJ @aaE @i0 @d0) ?_;refine WF.ce T.c56 (r56 T (oV.ext Xx) w.len _) λg1=>?_
 rw[jx.i];obtain⟨W2,T6⟩:∃Z,Z=W++g1:=⟨_,rfl⟩;rw[<-T6];have TM:cI B X x V W2 V:=by rw[T6];exact ff.grow s ⟨g1,rfl⟩
 have ow:=ox.ext TM.ex;have oV:=TM.bk.o.ok;obtain⟨lr,le,sb,gm⟩:=cI.fa TM;obtain⟨i0,d0⟩:=bR ow we 0 0 rfl De;obtain⟨j1,f1,q1⟩:=cX ow we 1 1 rfl De;refine Rs (n6 t2 t3 t4 @le @lr @bB @aN @aW @aE @i0 @d0) ?_;refine WF.ce T.c265 (r265 T (oV.ext Xx) w.len _) λg2=>?_
 obtain⟨W3,TL⟩:∃Z,Z=W2++g2:=⟨_,rfl⟩;rw[<-TL];have TR:cI B X x V W3 V:=by rw[TL];exact ff.grow TM ⟨g2,rfl⟩
 have ow:=ox.ext TR.ex;have oV:=TR.bk.o.ok;obtain⟨lr,le,sb,gm⟩:=cI.fa TR;obtain⟨i0,d0⟩:=bR ow we 0 0 rfl De;obtain⟨j1,f1,q1⟩:=cX ow we 1 1 rfl De;have oJ:=oV.e4 J jx.m;have l2:∀{k:ah},Ext W3 k->ao none (j9 V.s4 3 p 2) (λb=>k[b]?)=some (J.2,.ar):=λ{k} e=>oV.i4.mi jx.lt (by rw[jx.at];rfl) e
 cases h1:qL V.an (aO x.ev 0)with
 |true=>
  refine Rs (A7 t2 t3 t4 @lr @aE @sb @gm) ?_;have hc:bD V.an x.ev .fail=23:=by
   exact LN
  rw[hc];exact EI
 |false=>
 by_cases h2:(J.1.bu.length:Int)<=bL x.ev 1
 case pos=>
  have e2:decide ((J.1.bu.length:Int)<=bL x.ev 1)=true:=aaj h2;refine Rs (Iu t2 t3 t4 @le @lr @bB @aN @aW @gI @aE @j1 @f1 ix @l2 oJ.aK e2 @sb @gm) ?_;have hc:bD V.an x.ev .fail=3:=by
   exact LX
  rw[hc];exact EI
 have e2:decide ((J.1.bu.length:Int)<=bL x.ev 1)=false:=aaf h2;have hct:km V.an x.ev=0:=by rw[km,aao (by rw[h1];decide),<-jx.e,aao h2]
 have hsl:(bL x.ev 1).toNat<J.1.bu.length:=Om
 have YL:bL x.ev 1=((bL x.ev 1).toNat:Int):=Om
 have iy:aZ 1 J.2 (.i (bL x.ev 1))=some (cT J.2 1 (bL x.ev 1).toNat,.ar):=by
  rw[YL];exact oJ.dK hsl
 have hsu:fT V.an x.ev=J.1.bu[(bL x.ev 1).toNat]:=by
  exact z152
 have lv:∀{k:ah},Ext W3 k->ao none (cT J.2 1 (bL x.ev 1).toNat) (λb=>k[b]?)=some (.i (fT V.an x.ev),.ar):=λ{k} e=>by rw[hsu];exact oJ.jS hsl rfl e
 have WX:cT J.2 1 (bL x.ev 1).toNat=j9 J.2 1 (bL x.ev 1).toNat 0:=rfl;by_cases h3:fT V.an x.ev<0
 case pos=>
  have e3:decide (fT V.an x.ev<0)=true:=aaj h3;exact SD
 have e3:decide (fT V.an x.ev<0)=false:=aaf h3;have UG:bD V.an x.ev .fail=0:=by rw[bD,aao (λz=>z hct),aao h3]
 repeat (first|simp (config:={maxSteps:=1000000}) only[aU,aX,bz,bA,reduceAdd,reduceMul,reduceLeDiff,reduceEqDiff,bC,hlen,aay,aaB,t2,t3,t4,le,lr,bB,aN,aW,aE,Tw,iA,reduceCtorEq,aaJ,aaE,gI,j1,f1,ix,l2,oJ.aK,e2,iy,lv,e3]|simp (config:={maxSteps:=1000000}) (disch:=first|(simp only[aac,aah,aal]<;>omega)|rfl|omega|fail) only[gp,aU,aX,bz,bA,reduceAdd,reduceMul,reduceLeDiff,reduceEqDiff,bC,hlen,aay,aaB,t2,t3,t4,le,lr,bB,aN,aW,aE,Tw,iA,reduceCtorEq,aaJ,aaE,gI,j1,f1,ix,l2,oJ.aK,e2,iy,lv,e3])
 rw[WX];have hfJ:Fr B.length W3 J.2 1 (J.1.bu.map aH):=TR.bk.o.e4 J jx.m;refine WR.Dh (B:=B) (x':=(-1:Int)) (row:=aH) (L:=J.1.bu) hfJ TR.ex hsl De rfl rfl ?_;intro W5 x5 l5 hff hk5;have s5:cI B X x V W5 {V with aF:=V.aF.set p ({J.1 with bu:=J.1.bu.set (bL x.ev 1).toNat (-1:Int) },J.2) }:=by
  have Z8:(V.aF[p]'jx.lt).2=J.2:=by rw[jx.at]
  have:=ff.qJ TR (W2:=W5) jx.lt (y:={J.1 with bu:=J.1.bu.set (bL x.ev 1).toNat (-1:Int) }) (by rw[jx.at];exact⟨rfl,rfl⟩) (by rw[Z8];exact hff) (λi _ hne=>hk5 i (by rw[<-Z8];exact hne)) x5 Om;rw[Z8]at this;exact this
 obtain⟨lr,_,sb,gm⟩:=cI.fa s5;refine Rs (A7 t2 t3 t4 @lr @aE @sb @gm) ?_;rw[UG];refine cI.fin s5 (λ_=>?_);have e:nI V.an x.ev (-1:Int)=(V.aF.set p ({J.1 with bu:=J.1.bu.set (bL x.ev 1).toNat (-1:Int) },J.2)).map Prod.fst:=by
  rw[nI,<-jx.ps,<-jx.e,acp];rfl
 rw[dD,e];rfl
def Gp(w:fM V.an)(ox:bd B x)(we:jf x.ev .gx)(nk:tH V.an x.ev .gx)(s:cI B X x V W V)(hlen:ts.length=223)(t2:slot ts 2=.ptr X.length 0)(t3:slot ts 3=.ptr (X.length+1) 0)(t4:slot ts 4=.ptr (X.length+2) 0):
  WC P bP (BF 1) [] ts W (FQ [(4,some (some 7)),(5,none)] (tr B X V (bD V.an x.ev .gx) (dD V.an x.ev .gx))):=by
 have ow:=ox.ext s.ex;have oV:=s.bk.o.ok;have Tw:x.ev.kind=bf .gx:=bY we.kd;obtain⟨lr,le,sb,gm⟩:=cI.fa s;obtain⟨i0,d0⟩:=bR ow we 0 0 rfl De;obtain⟨j1,f1,q1⟩:=cX ow we 1 1 rfl De;obtain⟨j2,f2,q2⟩:=cX ow we 2 2 rfl De;unfold BF fn227;simp only[ai.j,ai.s,ai.r,ai.dr,ai.tl];have k0:aO x.ev 0∈jk V.an:=nk.kn 0 4 rfl;obtain⟨p,J,jx⟩:=QK k0;have ix:aZ 3 V.s4 (.i (p:Int))=some (cT V.s4 3 p,.ar):=oV.i4.dK jx.lt;refine pP (B4 t2 t3 t4 @le @lr @bB @aN @aW @aE @Tw @iA @aaJ @aaE @i0 @d0) ?_;refine WF.ce T.c56 (r56 T (oV.ext Xx) w.len _) λg1=>?_
 rw[jx.i];obtain⟨W2,T6⟩:∃Z,Z=W++g1:=⟨_,rfl⟩;rw[<-T6];have TM:cI B X x V W2 V:=by rw[T6];exact ff.grow s ⟨g1,rfl⟩
 have ow:=ox.ext TM.ex;have oV:=TM.bk.o.ok;obtain⟨lr,le,sb,gm⟩:=cI.fa TM;obtain⟨i0,d0⟩:=bR ow we 0 0 rfl De;obtain⟨j1,f1,q1⟩:=cX ow we 1 1 rfl De;obtain⟨j2,f2,q2⟩:=cX ow we 2 2 rfl De;refine Rs (n6 t2 t3 t4 @le @lr @bB @aN @aW @aE @i0 @d0) ?_;refine WF.ce T.c265 (r265 T (oV.ext Xx) w.len _) λg2=>?_
 obtain⟨W3,TL⟩:∃Z,Z=W2++g2:=⟨_,rfl⟩;rw[<-TL];have TR:cI B X x V W3 V:=by rw[TL];exact ff.grow TM ⟨g2,rfl⟩
 have ow:=ox.ext TR.ex;have oV:=TR.bk.o.ok;obtain⟨lr,le,sb,gm⟩:=cI.fa TR;obtain⟨i0,d0⟩:=bR ow we 0 0 rfl De;obtain⟨j1,f1,q1⟩:=cX ow we 1 1 rfl De;obtain⟨j2,f2,q2⟩:=cX ow we 2 2 rfl De;have oJ:=oV.e4 J jx.m;have l2:∀{k:ah},Ext W3 k->ao none (j9 V.s4 3 p 2) (λb=>k[b]?)=some (J.2,.ar):=λ{k} e=>oV.i4.mi jx.lt (by rw[jx.at];rfl) e
 cases h1:qL V.an (aO x.ev 0)with
 |true=>
  refine Rs (A7 t2 t3 t4 @lr @aE @sb @gm) ?_;have hc:bD V.an x.ev .gx=23:=by
   exact LN
  rw[hc];exact EI
 |false=>
 by_cases h2:(J.1.bu.length:Int)<=bL x.ev 1
 case pos=>
  have e2:decide ((J.1.bu.length:Int)<=bL x.ev 1)=true:=aaj h2;refine Rs (Iu t2 t3 t4 @le @lr @bB @aN @aW @gI @aE @j1 @f1 ix @l2 oJ.aK e2 @sb @gm) ?_;have hc:bD V.an x.ev .gx=3:=by
   exact LX
  rw[hc];exact EI
 have e2:decide ((J.1.bu.length:Int)<=bL x.ev 1)=false:=aaf h2;have hct:km V.an x.ev=0:=by rw[km,aao (by rw[h1];decide),<-jx.e,aao h2]
 have hsl:(bL x.ev 1).toNat<J.1.bu.length:=Om
 have YL:bL x.ev 1=((bL x.ev 1).toNat:Int):=Om
 have iy:aZ 1 J.2 (.i (bL x.ev 1))=some (cT J.2 1 (bL x.ev 1).toNat,.ar):=by
  rw[YL];exact oJ.dK hsl
 have hsu:fT V.an x.ev=J.1.bu[(bL x.ev 1).toNat]:=by
  exact z152
 have lv:∀{k:ah},Ext W3 k->ao none (cT J.2 1 (bL x.ev 1).toNat) (λb=>k[b]?)=some (.i (fT V.an x.ev),.ar):=λ{k} e=>by rw[hsu];exact oJ.jS hsl rfl e
 have WX:cT J.2 1 (bL x.ev 1).toNat=j9 J.2 1 (bL x.ev 1).toNat 0:=rfl;by_cases h3:0<=fT V.an x.ev
 case pos=>
  have e3:decide (0<=fT V.an x.ev)=true:=aaj h3;exact SD
 have e3:decide (0<=fT V.an x.ev)=false:=aaf h3;have UG:bD V.an x.ev .gx=0:=by rw[bD,aao (λz=>z hct),aao h3]
 repeat (first|simp (config:={maxSteps:=1000000}) only[aU,aX,bz,bA,reduceAdd,reduceMul,reduceLeDiff,reduceEqDiff,bC,hlen,aay,aaB,t2,t3,t4,le,lr,bB,aN,aW,aE,Tw,iA,reduceCtorEq,aaJ,aaE,gI,j1,f1,j2,f2,ix,l2,oJ.aK,e2,iy,lv,e3]|simp (config:={maxSteps:=1000000}) (disch:=first|(simp only[aac,aah,aal]<;>omega)|rfl|omega|fail) only[gp,aU,aX,bz,bA,reduceAdd,reduceMul,reduceLeDiff,reduceEqDiff,bC,hlen,aay,aaB,t2,t3,t4,le,lr,bB,aN,aW,aE,Tw,iA,reduceCtorEq,aaJ,aaE,gI,j1,f1,j2,f2,ix,l2,oJ.aK,e2,iy,lv,e3])
 rw[WX];have hfJ:Fr B.length W3 J.2 1 (J.1.bu.map aH):=TR.bk.o.e4 J jx.m;refine WR.Dh (B:=B) (x':=(bL x.ev 2)) (row:=aH) (L:=J.1.bu) hfJ TR.ex hsl De rfl rfl ?_;intro W5 x5 l5 hff hk5;have s5:cI B X x V W5 {V with aF:=V.aF.set p ({J.1 with bu:=J.1.bu.set (bL x.ev 1).toNat (bL x.ev 2) },J.2) }:=by
  have Z8:(V.aF[p]'jx.lt).2=J.2:=by rw[jx.at]
  have:=ff.qJ TR (W2:=W5) jx.lt (y:={J.1 with bu:=J.1.bu.set (bL x.ev 1).toNat (bL x.ev 2) }) (by rw[jx.at];exact⟨rfl,rfl⟩) (by rw[Z8];exact hff) (λi _ hne=>hk5 i (by rw[<-Z8];exact hne)) x5 Om;rw[Z8]at this;exact this
 obtain⟨lr,_,sb,gm⟩:=cI.fa s5;refine Rs (A7 t2 t3 t4 @lr @aE @sb @gm) ?_;rw[UG];refine cI.fin s5 (λ_=>?_);have e:nI V.an x.ev (bL x.ev 2)=(V.aF.set p ({J.1 with bu:=J.1.bu.set (bL x.ev 1).toNat (bL x.ev 2) },J.2)).map Prod.fst:=by
  rw[nI,<-jx.ps,<-jx.e,acp];rfl
 rw[dD,e];rfl
end
structure Tl(W Y:ah)(jb:Nat)(c:List AV)(t:AV)(k:Nat):Prop where
 l:W.length<=jb
 x:Ext W Y
 m:Y[jb]? =some (.b (c++[t]))
 f:Fr W.length Y t 1 ((List.replicate k (-1:Int)).map aH)
 n:sB t≠some jb
section
variable {P:Program}(T:eD P) {B X W:ah}{ts:TS}{V:RV}{x:EV}
include T
def Ka(w:fM V.an)(ox:bd B x)(we:jf x.ev .run)(nk:tH V.an x.ev .run)(s:cI B X x V W V)(hlen:ts.length=223)(t2:slot ts 2=.ptr X.length 0)(t3:slot ts 3=.ptr (X.length+1) 0)(t4:slot ts 4=.ptr (X.length+2) 0):
  WC P bP (BF 1) [] ts W (FQ [(4,some (some 7)),(5,none)] (tr B X V (bD V.an x.ev .run) (dD V.an x.ev .run))):=by
 have ow:=ox.ext s.ex;have oV:=s.bk.o.ok;have Tw:x.ev.kind=bf .run:=bY we.kd;obtain⟨lr,le,sb,gm⟩:=cI.fa s;obtain⟨i0,d0⟩:=bR ow we 0 0 rfl De;obtain⟨i1,d1⟩:=bR ow we 1 1 rfl De;obtain⟨j1,f1,q1⟩:=cX ow we 1 1 rfl De;unfold BF fn227;simp only[ai.j,ai.s,ai.r,ai.dr,ai.tl];have k1:aO x.ev 1∈iH V.an:=nk.kn 1 3 rfl;refine pP (B4 t2 t3 t4 @le @lr @bB @aN @aW @aE @Tw @iA @aaJ @aaE @i1 @d1) ?_;refine WF.res T.c59 (r59 T (oV.ext Xx) w _) ?_;rintro ns g1 hns;obtain⟨W2,T6⟩:∃Z,Z=W++g1:=⟨_,rfl⟩;rw[<-T6];have TM:cI B X x V W2 V:=by rw[T6];exact ff.grow s ⟨g1,rfl⟩
 have ow:=ox.ext TM.ex;have oV:=TM.bk.o.ok;obtain⟨lr,le,sb,gm⟩:=cI.fa TM;rw[<-T6]at hns;obtain⟨S,hS⟩:∃S,S=jn V.an (aO x.ev 1):=⟨_,rfl⟩;rw[<-hS]at hns;have hSm:∀y∈S,y∈V.an.lines:=λy hy=>by rw[hS,jn]at hy;exact(abw.1 hy).1
 have hSl:S.length<=16:=by
  have h1:S.length<=V.an.lines.length:=by rw[hS,jn];exact aa0 _ _
  have:=w.l0;omega
 rw[abQ]at hns;refine Rs (A3 t2 t3 t4) ?_;refine WL.inv T.mix (λm ts h'=>∃(k:Nat) (g:ah),k<=S.length/\m=S.length-k/\h' =W2++g/\(∀y∈S.take k,y.acc=true)/\ts.length=223/\slot ts 2=.ptr X.length 0/\slot ts 3=.ptr (X.length+1) 0/\slot ts 4=.ptr (X.length+2) 0/\slot ts 6=ns/\slot ts 7=.i k) S.length
  ⟨0,[],Om,rfl,by rw[aaF],(λy hy=>by cases hy),Sn,(Sq t2),(Sq t3),(Sq t4),Sw,gX⟩ ?_
 clear t2 t3 t4 hlen;rintro _ ts _ ⟨k,g,hk,rfl,rfl,hsf,hlen,t2,t3,t4,t6,t7⟩;obtain⟨W3,TL⟩:∃Z,Z=W2++g:=⟨_,rfl⟩;rw[<-TL];have TR:cI B X x V W3 V:=by rw[TL];exact ff.grow TM ⟨g,rfl⟩
 have ow:=ox.ext TR.ex;have oV:=TR.bk.o.ok;obtain⟨lr,le,sb,gm⟩:=cI.fa TR;have e23:Ext W2 W3:=⟨g,TL⟩;have hns:=hns.ext e23;by_cases Un:k<S.length
 ·have e3:decide ((k:Int)<S.length)=true:=aaj Om;have e5:=wrapN (n:=k) Om;have iy:=hns.dK (kk:=.i64) Un;obtain⟨y,hy⟩:∃y,y=S[k]:=⟨_,rfl⟩;have U5:y∈V.an.lines:=hSm y (by rw[hy];exact aat _);have lf:∀{kk:ah},Ext W3 kk->ao none (cT ns 1 k) (λb=>kk[b]?)=some (.str y.name,.ar):=λ{kk} e=>hns.jS Un (by rw[<-hy];rfl) e
  have V3:y.name∈gZ V.an:=aaH U5;have hps:=c8 V3;have VC:bo (gZ V.an) y.name<V.lines.length:=by simpa [gZ,RV.an]using hps
  have iz:aZ 3 V.s0 (.i ((bo (gZ V.an) y.name:Nat):Int))=some (cT V.s0 3 (bo (gZ V.an) y.name),.ar):=oV.i0.dK VC;have huy:V.lines[bo (gZ V.an) y.name]=y:=by
   have a1:dU V.an y.name=y:=vj w.n0.nd U5;rw[dU,dB (f:=iO.name) (l:=V.an.lines) (d:=Dr) V3]at a1;exact a1
  have ly:∀{kk:ah},Ext W3 kk->ao none (j9 V.s0 3 (bo (gZ V.an) y.name) 2) (λb=>kk[b]?)=some (.bool y.acc,.ar):=λ{kk} e=>oV.i0.mi VC (by rw[huy];rfl) e
  refine Rs (nZ t2 t3 t4 t6 t7 hns.aK e3 @lr @gJ @aE @iy @lf) ?_;refine WF.ce T.c28 (r28 T (oV.ext Xx) w.len _) λg3=>?_
  have ej:dt (λy':iO=>decide (y'.name=y.name)) V.lines=(bo (gZ V.an) y.name:Int):=fo (f:=iO.name) V3;rw[ej];cases h4:y.acc with
  |false=>
   rw[h4]at ly;refine Rs (nZ t2 t3 t4 t6 t7 @iz @ly @aaI @lr @aE @sb @gm) ?_;rw[bD,aas (by rw[<-hS];exact ab4.2 ⟨y,by rw[hy];exact aat _,by rw[h4];rfl⟩)];exact cI.fin (ff.grow TR ⟨g3,rfl⟩) (λz=>absurd z De)
  |true=>
   rw[h4]at ly;refine Rs (A9 t2 t3 t4 t6 t7 @iz @ly @aaD e5) ?_;refine⟨_,Om,k+1,g++g3,Om,rfl,by rw[TL];simp only[aae],?_,rfl⟩;intro y' hy';exact Sf
 have e3:decide ((k:Int)<S.length)=false:=aaf Om;have e4:k=S.length:=Om
 rw[e4,aaS]at hsf;have hne:¬(jn V.an (aO x.ev 1)).any (λx=>!x.acc)=true:=by
  exact z146
 obtain⟨i0,d0⟩:=bR ow we 0 0 rfl De;obtain⟨i1,d1⟩:=bR ow we 1 1 rfl De;obtain⟨j1,f1,q1⟩:=cX ow we 1 1 rfl De;refine Rs (B5 t2 t3 t4 @le @lr @bB @aN @aW t6 t7 hns.aK e3 @j1 @f1) ?_;refine WF.ce T.c20 (r20 T _ _ _) λg4=>?_
 obtain⟨W4,Uk⟩:∃Z,Z=W3++g4:=⟨_,rfl⟩;rw[<-Uk];have U4:cI B X x V W4 V:=by rw[Uk];exact ff.grow TR ⟨g4,rfl⟩
 have ow:=ox.ext U4.ex;have oV:=U4.bk.o.ok;obtain⟨lr,le,sb,gm⟩:=cI.fa U4;obtain⟨i0,d0⟩:=bR ow we 0 0 rfl De;obtain⟨i1,d1⟩:=bR ow we 1 1 rfl De;obtain⟨j1,f1,q1⟩:=cX ow we 1 1 rfl De;by_cases h1:bG (bL x.ev 1) 1 32=0
 case neg=>
  have e1:decide (bG (bL x.ev 1) 1 32≠0)=true:=aaj h1;refine Rs (A8 t2 t3 t4 e1 @lr @aE @sb @gm) ?_;rw[bD,aao hne,aas h1];exact z143
 have e1:decide (bG (bL x.ev 1) 1 32≠0)=false:=aaf (λz=>z h1);have VF:V.an.aF.length=V.aF.length:=by simp[RV.an]
 by_cases h2:16<=V.aF.length
 case pos=>
  have e2:decide ((16:Int)<=(V.aF.length:Int))=true:=aaj Om;refine Rs (n6 t2 t3 t4 e1 @lr @gI oV.i4.aK e2 @aE @sb @gm) ?_;rw[bD,aao hne,aao (λz=>z h1),aas (by rw[VF];exact h2)];exact z143
 have e2:decide ((16:Int)<=(V.aF.length:Int))=false:=aaf Om;have UG:bD V.an x.ev .run=0:=by rw[bD,aao hne,aao (λz=>z h1),aao (by rw[VF];exact h2)]
 have hr:=iQ (λz=>z h1);obtain⟨n,hn⟩:∃n:Nat,n=(bL x.ev 1).toNat:=⟨_,rfl⟩;have hnv:bL x.ev 1=(n:Int):=Om
 have hn32:n<=32:=Om
 obtain⟨jb,hjb⟩:∃n,n=W4.length:=⟨_,rfl⟩;refine Rs (Iv t2 t3 t4 @le @lr @bB @aN @aW e1 @gI oV.i4.aK e2 @i0 @d0 @i1 @d1) ?_;rw[<-hjb];refine WL.inv T.mix (λm ts Y=>∃(k:Nat) (t:AV),k<=n/\m=n-k/\Tl W4 Y jb [AV.str (aO x.ev 0),.str (aO x.ev 1)] t k/\ts.length=223/\slot ts 2=.ptr X.length 0/\slot ts 3=.ptr (X.length+1) 0/\slot ts 4=.ptr (X.length+2) 0/\slot ts 8=.ptr jb 0/\slot ts 9=.i k) n
  ⟨0,.af,Om,rfl,⟨Om,⟨_,rfl⟩,by rw[hjb];exact ba,.nil,by simp[sB]⟩,Sn,(Sq t2),(Sq t3),(Sq t4),Sw,gX⟩ ?_
 clear t2 t3 t4 t6 t7 hlen;rintro _ ts Y ⟨k',t,hk',rfl,hb,hlen,t2,t3,t4,t8,t9⟩;have sY:cI B X x V Y V:=ff.grow U4 hb.x;have ow:=ox.ext sY.ex;have oV:=sY.bk.o.ok;obtain⟨lr,le,sb,gm⟩:=cI.fa sY;obtain⟨j1,f1,q1⟩:=cX ow we 1 1 rfl De;have lj:=@fx _ _ _ hb.m;have ot:=hb.f.aT.one;have Z7:=(aad.1 hb.m).1;by_cases hlt3:k'<n
 ·have e6:decide ((k':Int)<bL x.ev 1)=true:=aaj Om;have e7:IntKind.i64.wrap ((k':Int)+1)=((k'+1:Nat):Int):=wrapN Om;refine Rs (B5 t2 t3 t4 @le @lr @bB @aN @aW t8 t9 @j1 @f1 e6 @lj) ?_;refine WR.qh (B:=W4) (cs:=(List.replicate k' (-1:Int)).map aH) hb.f rfl hb.x De (by simp only[aak,abo];omega) ?_;intro W5 s' x5 hff hn5 q5 l5 hk5;have hrow:(List.replicate k' (-1:Int)).map aH++[[AV.i (-1)]]=(List.replicate (k'+1) (-1:Int)).map aH:=by rw[List.replicate_succ',aap];rfl
  rw[hrow]at hff;have m5:W5[jb]? =some (.b [AV.str (aO x.ev 0),.str (aO x.ev 1),t]):=(hk5 jb Z7 hb.n).trans hb.m;have U3:aV 1 (.ptr jb 2) s' (λz=>W5[z]?)=some (az,.set jb (.b [AV.str (aO x.ev 0),.str (aO x.ev 1),s'])):=(aL m5).trans (cg q5 (by show 2+1<=3;omega));have hs'j:∀i,sB s' =some i->i≠jb:=λi hi=>by have:=hn5 i hi;omega
  refine Rs (A8 t2 t3 t4 t8 t9 @U3 q5 e7) ?_;refine⟨_,Om,k'+1,s',Om,rfl,⟨hb.l,x5.jo hb.l,aaw Om,hff.aB λi hi=>aau (abG (hs'j i hi)),λe=>hs'j _ e rfl⟩,rfl⟩
 ·have e6:decide ((k':Int)<bL x.ev 1)=false:=aaf Om;have ekn:k' =n:=Om
  obtain⟨y,hy⟩:∃y:lP,y=⟨aO x.ev 0,aO x.ev 1,List.replicate n (-1)⟩:=⟨_,rfl⟩;obtain⟨z,hz⟩:∃z:List AV,z=bS (y,t):=⟨_,rfl⟩;have Vh:[AV.str (aO x.ev 0),.str (aO x.ev 1),t]=z:=by rw[hz,hy];rfl
  have hbf:=hb.f;rw[ekn]at hbf;refine Rs (Iv t2 t3 t4 @le @lr @bB @aN @aW t8 t9 @j1 @f1 e6 @gI @lj @ot) ?_;rw[Vh];refine WR.qh (B:=B) (cs:=V.aF.map bS) (sY.bk.o.i4) (by rw[hz];rfl) sY.ex De (by rw[aak];omega) ?_;intro W5 s' x5 hff hn5 q5 l5 hk5;have hrow:V.aF.map bS++[z]=(V.aF++[(y,t)]).map bS:=by rw[aap,hz];rfl
  rw[hrow]at hff;have hlW:W4.length<=Y.length:=hb.x.len;have bN:∀i,sB t=some i->sB V.s4≠some i:=λi hi e=>by
   have h1:=(hbf.bM hi).1;have h2:=(U4.bk.o.dW (b:=i) (by rw[<-e];simp[RV.bl])).2;omega
  have f5:Fr B.length W5 t 1 (y.bu.map aH):=by
   rw[hy];exact(hbf.aB λi hi=>hk5 i (hbf.bM hi).2 (bN i hi)).low U4.ex.len
  have s5:cI B X x V (W5.set X.length (.b (V.row.set 5 s'))) {V with aF:=V.aF++[(y,t)],s4:=s'}:=ff.p4 U4 hff f5 (λi hi=>.inr (by have:=hn5 i hi;omega)) (λi hi=>⟨(hbf.bM hi).1,λe=>by have:=hn5 i e;have:=(hbf.bM hi).2;omega⟩) (λi hi hne=>(hk5 i Om hne).trans (hb.x.get hi)) x5 Om;have mB:W5[X.length]? =some (.b V.row):=(hk5 _ sY.bk.lt (λz=>sY.bk.ne (by rw[<-z];simp[RV.bl]))).trans sY.bk.m;have U3:aV 1 (.ptr X.length 5) s' (λz=>W5[z]?)=some (az,.set X.length (.b (V.row.set 5 s'))):=(aL mB).trans (cg q5 (by show 5+1<=7;omega));refine Rs (A7 t2 t3 t4 t8 t9 @U3 q5) ?_;obtain⟨W6,Va⟩:∃Z,Z=W5.set X.length (.b (V.row.set 5 s')):=⟨_,rfl⟩
  rw[<-Va]at s5 ⊢;obtain⟨lr,_,sb,gm⟩:=cI.fa s5;refine Rs (A9 t2 t3 t4 t8 t9 @lr @aE @sb @gm) ?_;rw[UG];exact cI.fin s5 (λ_=>by simp only[RV.an,aap,abd,ab7,dD,hy,hn])
def DN{d}(hd:d=.run\/d=.gx\/d=.fail\/d=.gN\/d=.rel)(o:cJ B.length X V)(w:fM V.an)(hx:Ext B X)(ox:bd B x)(we:jf x.ev d)(nk:tH V.an x.ev d):
  dy P 227 [.agg V.row,.agg x.row] X (tr B X V (bD V.an x.ev d) (dD V.an x.ev d)):=by
 refine .of T.mix (acP T.c227 (aaR some Ru)) ?_;obtain⟨ts,Tp⟩:∃ts,ts=aR 223 [.agg V.row,.agg x.row]:=⟨_,rfl⟩;have hlen:ts.length=223:=by rw[Tp];rfl
 have t0:slot ts 0=.agg V.row:=by rw[Tp];rfl
 have t1:slot ts 1=.agg x.row:=by rw[Tp];rfl
 show WC P bP (.seq (Rv 0) (BF 1)) [] (aR 223 [.agg V.row,.agg x.row]) X (FQ [(4,some (some 7)),(5,none)] (tr B X V (bD V.an x.ev d) (dD V.an x.ev d)));rw[<-Tp];clear Tp;have To:=@aC.box _ _ o.ok;have hex:=@bd.box _ _ (ox.ext hx);have s:cI B X x V (X++[.b V.row]++[.b x.row]++[.b lG]) V:=HN o hx;unfold lG at s;generalize hR:BF 1=R;unfold Rv fn227;simp only[ai.dr,ai.hd];refine Rs (A4 t0 t1 @To @hex) ?_;rw[<-hR];rcases hd with rfl|rfl|rfl|rfl|rfl
 ·exact Ka T w ox we nk s Sn Sw (by simp only[aU,aX,bz,bA,reduceAdd,reduceMul,reduceLeDiff,reduceEqDiff,bC,hlen,aay,aaB];simp) (by simp only[aU,aX,bz,bA,reduceAdd,reduceMul,reduceLeDiff,reduceEqDiff,bC,hlen,aay,aaB];simp)
 ·exact Gp T w ox we nk s Sn Sw (by simp only[aU,aX,bz,bA,reduceAdd,reduceMul,reduceLeDiff,reduceEqDiff,bC,hlen,aay,aaB];simp) (by simp only[aU,aX,bz,bA,reduceAdd,reduceMul,reduceLeDiff,reduceEqDiff,bC,hlen,aay,aaB];simp)
 ·exact Gr T w ox we nk s Sn Sw (by simp only[aU,aX,bz,bA,reduceAdd,reduceMul,reduceLeDiff,reduceEqDiff,bC,hlen,aay,aaB];simp) (by simp only[aU,aX,bz,bA,reduceAdd,reduceMul,reduceLeDiff,reduceEqDiff,bC,hlen,aay,aaB];simp)
 ·exact Gq T w ox we nk s Sn Sw (by simp only[aU,aX,bz,bA,reduceAdd,reduceMul,reduceLeDiff,reduceEqDiff,bC,hlen,aay,aaB];simp) (by simp only[aU,aX,bz,bA,reduceAdd,reduceMul,reduceLeDiff,reduceEqDiff,bC,hlen,aay,aaB];simp)
 ·exact Kb T w ox we nk s Sn Sw (by simp only[aU,aX,bz,bA,reduceAdd,reduceMul,reduceLeDiff,reduceEqDiff,bC,hlen,aay,aaB];simp) (by simp only[aU,aX,bz,bA,reduceAdd,reduceMul,reduceLeDiff,reduceEqDiff,bC,hlen,aay,aaB];simp)
end
def vD(k:Nat):ai:=(fn129).body.dr k
def Es(k:Nat):ai:=((fn129).body.dr k).hd
def RP:fn129=⟨63,2,[(4,some (some 7)),(5,none)],.seq (Es 0) (vD 1)⟩:=rfl
def Ol:vD 1=.seq (Es 1) (vD 2):=rfl
def RO:vD 2=.seq (Es 2) (vD 3):=rfl
def RN:vD 3=.seq (Es 3) (vD 4):=rfl
def RM:vD 4=.seq (Es 4) (vD 5):=rfl
def KY(h:ah)(c:Int)(R':fN):AV->ah->Prop:=λv k=>Ext h k/\∃V':RV,v=.dQ [.agg V'.row,.i c]/\aC k V'/\(c=0->V'.an=R'/\∀i,some i∈V'.bl->h.length<=i)
def aC.KQ{h:ah}{V:RV}(o:aC h V){W:ah}{b:Nat}(hz:W[b]? =some (.b lG)):aV 7 (.ptr b 0) (.agg V.row) (λz=>W[z]?)=some (az,.set b (.b V.row)):=by
 have h1:=@aL 7 b 0 (.agg V.row) (λz=>W[z]?) _ hz;have st:=@aC.st _ _ o;unfold lG at h1;rw[st]at h1;exact h1
def aC.SW{h:ah}{V U:RV}(o:aC h V){W:ah}{b:Nat}(hz:W[b]? =some (.b U.row)):aV 7 (.ptr b 0) (.agg V.row) (λz=>W[z]?)=some (az,.set b (.b V.row)):=by
 have h1:=@aL 7 b 0 (.agg V.row) (λz=>W[z]?) _ hz;rw[h1];exact o.st
def ph{W:ah}{b:Nat}{V:RV}(hb:b<W.length):ao (some 7) (.ptr b 0) (λz=>(W.set b (.b V.row))[z]?)=some (.agg V.row,.ar):=by
 rw[aA (aaw hb)];rfl
section
variable {P:Program}(T:eD P) {h K:ah}{ts:TS}{V U:RV}{x:EV}
include T
def Ks{d:Kd}{ob:Nat}{c:Int}{R':fN}(we:jf x.ev d)(hd:d≠.fg)(ox:bd h x)(hx:Ext h K)(hob:h.length+2<ob)(mo:K[ob]? =some (.b U.row))(me:K[h.length+1]? =some (.b x.row))(mr:K[h.length+2]? =some (.b lG))
  (oU:aC K U) (hU:∀i,some i∈U.bl->h.length+2<i/\i≠ob) (hc:c=0->{U.an with tick:=bL x.ev 0} =R') (hlen:ts.length=63) (t3:slot ts 3=.ptr (h.length+1) 0) (t4:slot ts 4=.ptr (h.length+2) 0) (t7:slot ts 7=.ptr ob 0) (t8:slot ts 8=.i c):
  WC P bP (vD 5) [] ts K (FQ [(4,some (some 7)),(5,none)] (KY h c R')):=by
 have:=T.mix;have hv0:0<bQ d:=by cases d<;>first|exact absurd rfl hd|decide
 have ow:=ox.ext hx;obtain⟨j0,f0,_⟩:=cX ow we 0 0 rfl hv0;have le:=@fx _ _ _ me;obtain⟨V2,hV2⟩:∃V2:RV,V2={U with tick:=bL x.ev 0}:=⟨_,rfl⟩;have hrow:U.row.set 0 (.i (bL x.ev 0))=V2.row:=by rw[hV2];rfl
 have sbo:aV 1 (.ptr ob 0) (.i (bL x.ev 0)) (λz=>K[z]?)=some (az,.set ob (.b V2.row)):=by
  rw[<-hrow];exact(aL mo).trans (cg rfl (by show 0+1<=7;omega))
 unfold vD fn129 gA;simp only[ai.j,ai.s,ai.r,ai.dr,ai.tl];refine Rs (A9 t3 t4 t7 t8 @le @aW @j0 @f0 @sbo) ?_;have hbo:=(aad.1 mo).1;have hbr:=(aad.1 mr).1;obtain⟨K1,Zi⟩:∃Z,Z=K.set ob (.b V2.row):=⟨_,rfl⟩;rw[<-Zi];have mo1:K1[ob]? =some (.b V2.row):=by rw[Zi];exact aaw hbo
 have mr1:K1[h.length+2]? =some (.b lG):=by rw[Zi,aau Om];exact mr
 have l1:K1.length=K.length:=by rw[Zi,aaY]
 have lo:=@fx _ _ _ mo1;have oV:aC K V2:=by rw[hV2];exact⟨oU.i0,oU.i1,oU.i2,oU.i3,oU.i4,oU.i5,oU.e2,oU.e3,oU.e4⟩
 have sb:=oV.KQ mr1;have gm:=ph (W:=K1) (b:=h.length+2) (V:=V2) Om;refine Rs (A8 t3 t4 t7 t8 @lo @aE @sb @gm) ?_;refine⟨?_,V2,rfl,oV.ar λi hi=>?_,λz=>⟨by rw[<-hc z,hV2];rfl,λi hi=>?_⟩⟩
 ·rw[Zi];exact(hx.jo Om).jo Om
 ·have:some i∈U.bl:=by rw[hV2]at hi;exact hi
  have:=hU i this;rw[aau Om,Zi,aau Om]
 ·have:some i∈U.bl:=by rw[hV2]at hi;exact hi
  have:=hU i this;omega
def Ok{d:Kd}{B X:ah}{ob:Nat}(we:jf x.ev d)(hd:d≠.fg)(nk:tH U.an x.ev d)(w:fM U.an)(ox:bd h x)(hB:Ext h B)(hx:Ext B X)(hob:ob<X.length)(hbo:B.length<=ob)(hBl:h.length+3<=B.length)(mo:X[ob]? =some (.b U.row))(me:B[h.length+1]? =some (.b x.row))(mr:B[h.length+2]? =some (.b lG))
  (o:cJ B.length X U) (hU:some ob∉U.bl) (hlen:ts.length=63) (t3:slot ts 3=.ptr (h.length+1) 0) (t4:slot ts 4=.ptr (h.length+2) 0) (t7:slot ts 7=.ptr ob 0):
  WC P bP (vD 4) [] ts X (FQ [(4,some (some 7)),(5,none)] (KY h (bD U.an x.ev d) (oP U.an x.ev d))):=by
 have Tw:x.ev.kind=bf d:=bY we.kd;have le:∀{k n a},Ext X k->ao n (.ptr (h.length+1) a) (λz=>k[z]?)=dO n a (.b x.row):=λ{_ _ _} e=>aA ((hx.trans e).some me)
 have lo:=@fx _ _ _ mo;have oB:=ox.ext hB;rw[RM];generalize hR:vD 5=R;unfold Es fn129 gA;simp only[ai.j,ai.s,ai.r,ai.dr,ai.tl,ai.hd];have fin:∀{v:AV}{k:ah},tr B X U (bD U.an x.ev d) (dD U.an x.ev d) v k->∃V2:RV,v=.dQ [.agg V2.row,.i (bD U.an x.ev d)]/\aV 7 (.ptr ob 0) (.agg V2.row) (λz=>k[z]?)=some (az,.set ob (.b V2.row))/\
   (∀ts':TS,ts'.length=63->slot ts' 3=.ptr (h.length+1) 0->slot ts' 4=.ptr (h.length+2) 0->slot ts' 7=.ptr ob 0->slot ts' 8=.i (bD U.an x.ev d)->WC P bP R [] ts' (k.set ob (.b V2.row)) (FQ [(4,some (some 7)),(5,none)] (KY h (bD U.an x.ev d) (oP U.an x.ev d)))):=by
  rintro v k ⟨x1,hl,hfr,V2,rfl,o2,hc,hlo⟩;have mo2:k[ob]? =some (.b U.row):=(hfr ob hob hU).trans mo;have hV2:∀i,some i∈V2.bl->B.length<=i/\i≠ob:=λi hi=>⟨(o2.dW hi).1,λe=>by
   subst e;rcases hlo _ hi with z|z
   ·exact hU z
   ·omega⟩
  refine⟨V2,rfl,o2.ok.SW mo2,λts' TB u3 u4 u7 u8=>?_⟩;rw[<-hR];refine Ks T we hd ox ((hB.trans x1).jo Om) Om (aaw (aad.1 mo2).1) ?_ ?_ (o2.ok.ar λi hi=>?_) (λi hi=>?_) (λz=>?_) TB u3 u4 u7 u8
  ·rw[aau Om];exact x1.some me
  ·rw[aau Om];exact x1.some mr
  ·rw[aau (abG (hV2 i hi).2)]
  ·have:=hV2 i hi;exact⟨Om,this.2⟩
  ·rw[hc z];rfl
 cases d with
 |fg=>exact absurd rfl hd
 |line=>
  refine pP (nZ t3 t4 t7 @le @lo @bB @bZ @aE @Tw @iA @aaJ @aaE) ?_;refine WF.gen T.c225 (DO T (d:=.line) De o w hx oB we nk) ?_;intro v k hv;exact z3
 |tape=>
  refine pP (nZ t3 t4 t7 @le @lo @bB @bZ @aE @Tw @iA @aaJ @aaE) ?_;refine WF.gen T.c225 (DO T (d:=.tape) De o w hx oB we nk) ?_;intro v k hv;exact z3
 |gM=>
  refine pP (nZ t3 t4 t7 @le @lo @bB @bZ @aE @Tw @iA @aaJ @aaE) ?_;refine WF.gen T.c225 (DO T (d:=.gM) De o w hx oB we nk) ?_;intro v k hv;exact z3
 |copy=>
  refine pP (nZ t3 t4 t7 @le @lo @bB @bZ @aE @Tw @iA @aaJ @aaE) ?_;refine WF.gen T.c225 (DO T (d:=.copy) De o w hx oB we nk) ?_;intro v k hv;exact z3
 |accept=>
  refine pP (nZ t3 t4 t7 @le @lo @bB @bZ @aE @Tw @iA @aaJ @aaE) ?_;refine WF.gen T.c225 (DO T (d:=.accept) De o w hx oB we nk) ?_;intro v k hv;exact z3
 |source=>
  refine pP (nZ t3 t4 t7 @le @lo @bB @bZ @aE @Tw @iA @aaJ @aaE) ?_;refine WF.gen T.c226 (JK T (d:=.source) De o w hx oB we nk) ?_;intro v k hv;exact z3
 |gy=>
  refine pP (nZ t3 t4 t7 @le @lo @bB @bZ @aE @Tw @iA @aaJ @aaE) ?_;refine WF.gen T.c226 (JK T (d:=.gy) De o w hx oB we nk) ?_;intro v k hv;exact z3
 |merge=>
  refine pP (nZ t3 t4 t7 @le @lo @bB @bZ @aE @Tw @iA @aaJ @aaE) ?_;refine WF.gen T.c226 (JK T (d:=.merge) De o w hx oB we nk) ?_;intro v k hv;exact z3
 |run=>
  refine pP (nZ t3 t4 t7 @le @lo @bB @bZ @aE @Tw @iA @aaJ @aaE) ?_;refine WF.gen T.c227 (DN T (d:=.run) De o w hx oB we nk) ?_;intro v k hv;exact z3
 |gx=>
  refine pP (nZ t3 t4 t7 @le @lo @bB @bZ @aE @Tw @iA @aaJ @aaE) ?_;refine WF.gen T.c227 (DN T (d:=.gx) De o w hx oB we nk) ?_;intro v k hv;exact z3
 |fail=>
  refine pP (nZ t3 t4 t7 @le @lo @bB @bZ @aE @Tw @iA @aaJ @aaE) ?_;refine WF.gen T.c227 (DN T (d:=.fail) De o w hx oB we nk) ?_;intro v k hv;exact z3
 |gN=>
  refine pP (nZ t3 t4 t7 @le @lo @bB @bZ @aE @Tw @iA @aaJ @aaE) ?_;refine WF.gen T.c227 (DN T (d:=.gN) De o w hx oB we nk) ?_;intro v k hv;exact z3
 |rel=>
  refine pP (nZ t3 t4 t7 @le @lo @bB @bZ @aE @Tw @iA @aaJ @aaE) ?_;refine WF.gen T.c227 (DN T (d:=.rel) De o w hx oB we nk) ?_;intro v k hv;exact z3
def Kq{d:Kd}{H:ah}(hH:H=h++[ak.b V.row]++[.b x.row]++[.b lG])(o:aC h V)(w:fM V.an)(ox:bd h x)(we:jf x.ev d)(hd:d≠.fg)(hlen:ts.length=63)(t2:slot ts 2=.ptr h.length 0)(t3:slot ts 3=.ptr (h.length+1) 0)(t4:slot ts 4=.ptr (h.length+2) 0):
  WC P bP (vD 1) [] ts H (FQ [(4,some (some 7)),(5,none)] (KY h (jd V.an x.ev d) (oP V.an x.ev d))):=by
 have hv0:0<bQ d:=by cases d<;>first|exact absurd rfl hd|decide
 have T4:Ext h H:=by rw[hH];exact Xx
 have Xi:H.length=h.length+3:=by rw[hH];simp
 have mV:H[h.length]? =some (.b V.row):=by rw[hH];simp
 have me:H[h.length+1]? =some (.b x.row):=by rw[hH];simp
 have mr:H[h.length+2]? =some (.b lG):=by rw[hH];simp
 clear hH;have ow:=ox.ext T4;have oW:=o.ext T4;obtain⟨j0,f0,_⟩:=cX ow we 0 0 rfl hv0;have lr:=@fx _ _ _ mV;have le:=@fx _ _ _ me;have sb:∀{k},Ext H k->aV 7 (.ptr (h.length+2) 0) (.agg V.row) (λz=>k[z]?)=some (az,.set (h.length+2) (.b V.row)):=λ{_} e=>(o.ext (T4.trans e)).KQ (e.some mr)
 have gm:∀{k},Ext H k->ao (some 7) (.ptr (h.length+2) 0) (λz=>(k.set (h.length+2) (.b V.row))[z]?)=some (.agg V.row,.ar):=λ{_} e=>ph (by have:=e.len;omega)
 have efin:∀{k:ah}{c:Int},Ext H k->jd V.an x.ev d=c->c≠0->KY h (jd V.an x.ev d) (oP V.an x.ev d) (.dQ [.agg V.row,.i c]) (k.set (h.length+2) (.b V.row)):=by
  intro k c e hc h0;refine⟨(T4.trans e).jo Om,V,by rw[hc],?_,λz=>absurd (hc.symm.trans z) h0⟩;exact o.sub λb c' mu tl hb=>by
   have hlt:=(aad.1 hb).1;rw[aau Om];exact(T4.trans e).some hb
 by_cases h1:bL x.ev 0<V.an.tick
 ·have e1:decide (bL x.ev 0<V.tick)=true:=aaj h1;rw[Ol];generalize hR:vD 2=R;unfold Es fn129 gA;simp only[ai.j,ai.s,ai.r,ai.dr,ai.tl,ai.hd];refine Rs (Hy t2 t3 t4 @le @lr @aW @tT @aE @j0 @f0 e1 @sb @gm) ?_;exact efin (.refl _) (by rw[jd,aas h1]) De
 have e1:decide (bL x.ev 0<V.tick)=false:=aaf h1;rw[Ol,RO];generalize hR:vD 3=R;unfold Es fn129 gA;simp only[ai.j,ai.s,ai.r,ai.dr,ai.tl,ai.hd];refine Rs (nZ t2 t3 t4 @le @lr @aW @bZ @tT @aE @j0 @f0 e1) ?_;refine WF.ce T.c223 (r223 T (d:=d) (oW.ext Xx) w.len (ow.ext Xx) we) λg1=>?_
 by_cases h2:lO d V.an x.ev=0
 case neg=>
  have e2:decide (lO d V.an x.ev≠0)=true:=aaj h2;refine Rs (A8 t2 t3 t4 e2 @lr @aE @sb @gm) ?_;have ef:=efin (k:=H++g1) (c:=lO d V.an x.ev) ⟨g1,rfl⟩ (by rw[jd,aao h1,aas h2]) h2;rw[acK _ _ Om]at ef;exact ef
 have e2:decide (lO d V.an x.ev≠0)=false:=aaf (λz=>z h2);have hes:jd V.an x.ev d=bD V.an x.ev d:=by rw[jd,aao h1,aao (λz=>z h2)]
 rw[hes];refine Rs (A4 t2 t3 t4 e2) ?_;rw[<-hR];obtain⟨B,hB⟩:∃B,B=H++g1:=⟨_,rfl⟩;rw[<-hB];have eB:Ext H B:=⟨g1,hB⟩;have lr:∀{k n a},Ext B k->ao n (.ptr h.length a) (λz=>k[z]?)=dO n a (.b V.row):=λ{_ _ _} e=>aA (e.some (eB.some mV))
 clear sb gm efin le f0 j0 e1 e2;rw[RN];generalize hR:vD 4=R;unfold Es fn129 gA;simp only[ai.j,ai.s,ai.r,ai.dr,ai.tl,ai.hd];refine Rs (A5 t2 t3 t4 @lr @aE) ?_;refine WF.res T.c224 (r224 T (oW.ext eB) w) ?_;rintro _ g2 ⟨U,hU,rfl,own⟩;have To:=@aC.box _ _ own.ok;have st:=@aC.st _ _ own.ok;refine Rs (A5 t2 t3 t4 @To @st) ?_;obtain⟨X0,hX0⟩:∃Z,Z=B++g2:=⟨_,rfl⟩;rw[<-hX0]at own ⊢;have e0:Ext B X0:=⟨g2,hX0⟩;rw[<-hR,<-hU];refine Ok T (ob:=X0.length) we hd (by rw[hU];exact zY h2) (by rw[hU];exact w) ox (T4.trans eB) (e0.trans ⟨_,rfl⟩) Si e0.len (by have:=eB.len;omega) ba (eB.some me) (eB.some mr) (own.app _) (λhi=>?_) Sn (Sq t3) (Sq t4) Sw
 have:=(own.dW hi).2;omega
def r129{d}(o:aC h V)(w:fM V.an)(ox:bd h x)(we:jf x.ev d)(hd:d≠.fg):ay P 129 [.agg V.row,.agg x.row] h (λv k=>∃V':RV,v=.dQ [.agg V'.row,.i (jd V.an x.ev d)]/\aC k V'/\(jd V.an x.ev d=0->V'.an=oP V.an x.ev d/\∀i,some i∈V'.bl->h.length<=i)):=by
 refine .of T.mix (acP T.c129 (aaR some RP)) ?_;obtain⟨ts,Tp⟩:∃ts,ts=aR 63 [.agg V.row,.agg x.row]:=⟨_,rfl⟩;have hlen:ts.length=63:=by rw[Tp];rfl
 have t0:slot ts 0=.agg V.row:=by rw[Tp];rfl
 have t1:slot ts 1=.agg x.row:=by rw[Tp];rfl
 show WC P bP (.seq (Es 0) (vD 1)) [] (aR 63 [.agg V.row,.agg x.row]) h (FQ [(4,some (some 7)),(5,none)] (KY h (jd V.an x.ev d) (oP V.an x.ev d)));rw[<-Tp];clear Tp;have To:=@aC.box _ _ o;have hex:=@bd.box _ _ ox;generalize hR:vD 1=R;unfold Es fn129 gA;simp only[ai.dr,ai.hd];refine Rs (A4 t0 t1 @To @hex) ?_;rw[<-hR];exact Kq T rfl o w ox we hd Sn Sw (by simp only[aU,aX,bz,bA,reduceAdd,reduceMul,reduceLeDiff,reduceEqDiff,bC,hlen,aay,aaB];simp) (by simp only[aU,aX,bz,bA,reduceAdd,reduceMul,reduceLeDiff,reduceEqDiff,bC,hlen,aay,aaB];simp)
end
def yF(k:Nat):ai:=(fn81).body.dr k
def Fx(k:Nat):ai:=((fn81).body.dr k).hd
def PQ:fn81=⟨110,1,[(2,none),(3,some (some 7)),(4,none),(5,none)],.seq (Fx 0) (yF 1)⟩:=rfl
def PO:yF 1=.seq (Fx 1) (yF 2):=rfl
def PN:yF 2=.seq (Fx 2) (yF 3):=rfl
def PM:yF 3=.seq (Fx 3) (yF 4):=rfl
def PL:yF 4=.seq (Fx 4) (yF 5):=rfl
def SN(M:Nat)(l:List cQ):AV->ah->Prop:=λv k=>
 ∃(sc:AV) (V:RV) (C:List EV),v=.dQ [sc,.agg V.row,.i (bF l).2.1,.i (bF l).2.2]/\aC k V/\V.an=(bF l).1.now/\fM V.an/\dJ k C sc/\C.map EV.ev=(bF l).1.fe/\C.length<=1000/\∀i,some i∈V.bl->M<i
def OT(h:ah)(l:List cQ):AV->ah->Prop:=λv k=>Ext h k/\SN h.length l v k
structure OC(h W:ah)(L:List EV)(k:Nat)(C:List EV)(A:List RV)(sc sa:AV):Prop where
 x:Ext h W
 b:W[h.length]? =some (.b lG)
 c:aI (fw [some h.length] W) sc 5 (C.map EV.row)
 ce:∀e∈C,bd (fw [some h.length] W) e
 a:aI (fw [some h.length] W) sa 7 ((RV.zero::A).map RV.row)
 ae:∀R∈A,aC (fw [some h.length] W) R
 al:∀R∈A,∀i,some i∈R.bl->h.length<i
 w:jU ⟨(L.take k).map EV.ev,C.map EV.ev,A.map RV.an⟩
 r:bF (L.map EV.ev)=fW ⟨(L.take k).map EV.ev,C.map EV.ev,A.map RV.an⟩ ((L.drop k).map EV.ev) k
def zE{W W2 b}(e:Ext W W2):iK (fw [some b] W) (fw [some b] W2):=kU (λi hi _=>e.get hi) λ_ _ h=>h
def CB{W b X}:iK (fw [some b] W) (W.set b X):=λi c mu tl hb=>by
 obtain⟨h1,h2⟩:=oR hb;have:i≠b:=λe=>h1 (by rw[e];simp)
 rw[aau (abG this)];exact h2
def OC.ext{h W W2 L k C A sc sa}(s:OC h W L k C A sc sa)(e:Ext W W2):OC h W2 L k C A sc sa:=
 ⟨s.x.trans e,e.some s.b,s.c.sub (zE e),λy hy=>(s.ce y hy).sub (zE e),s.a.sub (zE e),λy hy=>(s.ae y hy).sub (zE e),s.al,s.w,s.r⟩
def Mm{h W}(e:Ext h W):iK h (fw [some h.length] W):=λi c mu tl hb=>by
 have hl:=(aad.1 hb).1;rw[rf (by intro z;simp only[aaG,aaL]at z;omega)];exact e.some hb
def C1{h k l i e}(he:e≠0)(hr:bF l=(iZ.zero,i,e))(hx:Ext h k):OT h l (.dQ [.af,.agg RV.zero.row,.i i,.i e]) k:=by
 refine⟨hx,.af,RV.zero,[],by rw[hr],aC.zero,by rw[hr];rfl,fM.zero,⟨.nil,λ_ h=>by cases h⟩,by rw[hr];rfl,Si,λi hi=>by simp[RV.zero,RV.bl,sB]at hi⟩
def Mc:Option AV->Option AV->Option AV->Option AV->Option AV
 |some a,some b,some c,some d=>some (.dQ [a,b,c,d])
 |_,_,_,_=>none
def lV{a b c d}:Mc (some a) (some b) (some c) (some d)=some (.dQ [a,b,c,d]):=rfl
def gK{ts h r s t u}:cU [r,s,t,u] ts h=Mc (dF ts h r) (dF ts h s) (dF ts h t) (dF ts h u):=by
 simp only[cU,jq];cases dF ts h r<;>cases dF ts h s<;>cases dF ts h t<;>cases dF ts h u<;>rfl
def NK{A n}(hn:n=A.length):(RV.zero::A)[n]? =some (A.getLastD RV.zero):=by
 subst hn;rcases kV A with rfl|⟨m,y,rfl⟩
 ·rfl
 ·simp
def Bx(A:List RV):(A.getLastD RV.zero).an=(A.map RV.an).getLastD fN.zero:=by
 rcases kV A with rfl|⟨m,y,rfl⟩
 ·rfl
 ·simp
section
variable {P:Program}(T:eD P) {h W:ah}{ts:TS}
include T
def Fw{L s}(o:dJ h L s)(sh:B0 L)(hnl:∀x∈L,∀n∈x.ev.names,n.length<2^63)(hl:L.length<=1000){sa}(st:OC h W L 0 [] [] .af sa)(hlen:ts.length=110)(t0:slot ts 0=s)(t3:slot ts 3=.ptr h.length 0)(t6:slot ts 6=.af)(t7:slot ts 7=sa):
  WC P bP (yF 4) [] ts W (FQ [(2,none),(3,some (some 7)),(4,none),(5,none)] (OT h (L.map EV.ev))):=by
 rw[PL];generalize hE:yF 5=E;unfold Fx fn81;simp only[ai.j,ai.s,ai.r,ai.dr,ai.tl,ai.hd];refine Rs (A4 t0 t3 t6 t7) ?_;refine WL.inv T.mix (λm ts W=>∃(k:Nat) (C:List EV) (A:List RV) (sc sa:AV),k<=L.length/\m=L.length-k/\OC h W L k C A sc sa/\ts.length=110/\slot ts 0=s/\slot ts 3=.ptr h.length 0/\slot ts 6=sc/\slot ts 7=sa/\slot ts 8=.i k) L.length
  ⟨0,[],[],.af,sa,Om,rfl,st,Sn,(Sq t0),(Sq t3),(Sq t6),(Sq t7),gX⟩ ?_
 clear t0 t3 t6 t7 hlen st;rintro _ ts W ⟨k,C,A,sc,sa,hk,rfl,st,hlen,t0,t3,t6,t7,t8⟩;have hAC:A.length=C.length:=by have:=st.w.ln;simpa using this
 have hCl:C.length<=L.length:=by have:=st.w.le;simp only[aak,aaZ]at this;omega
 have oW:=o.ext st.x;have X4:=st.c.sub (iK.fw _ _);have sta:=st.a.sub (iK.fw _ _);have stae:∀R∈A,aC W R:=λR hR=>(st.ae R hR).sub (iK.fw _ _)
 obtain⟨N,hN⟩:∃N,N=A.getLastD RV.zero:=⟨_,rfl⟩;have hgN:(RV.zero::A)[C.length]? =some N:=by rw[hN];exact NK hAC.symm
 have hCA:C.length<(RV.zero::A).length:=by simp only[aah];omega
 have hgN':(RV.zero::A)[C.length]=N:=by rw[aai hCA]at hgN;exact abf hgN
 have ix:aZ 7 sa (.i (C.length:Int))=some (cT sa 7 C.length,.ar):=sta.dK hCA;have ld:∀{kk:ah},Ext W kk->ao (some 7) (cT sa 7 C.length) (λb=>kk[b]?)=some (.agg N.row,.ar):=λ{kk} e=>by rw[<-hgN'];exact sta.lL hCA e
 have oN:aC (fw [some h.length] W) N:=by
  rcases kV A with hA|⟨m,y,hA⟩
  ·rw[hN,hA];exact aC.zero
  ·have:N=y:=by rw[hN,hA];simp
   rw[this];exact st.ae y (by rw[hA];simp)
 have lN:∀i,some i∈N.bl->h.length<i:=by
  rcases kV A with hA|⟨m,y,hA⟩
  ·intro i hi;rw[hN,hA]at hi;simp[RV.zero,RV.bl,sB]at hi
  ·have:N=y:=by rw[hN,hA];simp
   rw[this];exact st.al y (by rw[hA];simp)
 have hNr:N.an=(A.map RV.an).getLastD fN.zero:=by rw[hN];exact Bx A
 have wN:fM N.an:=by rw[hNr];exact st.w.now
 have hbl:=(aad.1 st.b).1;by_cases hlt:k<L.length
 case neg=>
  have e3:=fC hlt;have e4:k=L.length:=Om
  have hr:=st.r;rw[e4,abh]at hr;have VB:bF (L.map EV.ev)=(⟨(L.take L.length).map EV.ev,C.map EV.ev,A.map RV.an⟩,0,0):=hr;have U3:=oN.KQ st.b;have gm:=ph (W:=W) (b:=h.length) (V:=N) hbl;refine Rs (A7 t0 t3 t6 t7 t8 oW.sl.aK e3) ?_;rw[<-hE];unfold yF fn81;simp only[ai.j,ai.s,ai.r,ai.dr,ai.tl];refine Rs (B4 t0 t3 t6 t7 t8 X4.aK ix @ld @U3 @aE @gm @gK @c6 @c7 @lV) ?_;exact⟨st.x.jo (aar _),sc,N,C,by rw[VB],oN.sub CB,by rw[VB,hNr];rfl,wN,⟨st.c.sub CB,λy hy=>(st.ce y hy).sub CB⟩,by rw[VB],Om,lN⟩
 have e3:=eO hlt;have e5:=wrapN (n:=k) Om;have ik:=oW.sl.dK (kk:=.i64) hlt;obtain⟨x,hx⟩:∃x,x=L[k]:=⟨_,rfl⟩;have Uc:x∈L:=by rw[hx];exact aat _
 have lx:∀{kk:ah},Ext W kk->ao (some 5) (cT s 5 k) (λb=>kk[b]?)=some (.agg x.row,.ar):=λ{kk} e=>by rw[hx];exact oW.sl.lL hlt e
 have lx0:∀{kk:ah},Ext W kk->ao none (j9 s 5 k 0) (λb=>kk[b]?)=some (.i x.ev.num,.ar):=λ{kk} e=>oW.sl.mi hlt (by rw[<-hx];rfl) e
 have lx1:∀{kk:ah},Ext W kk->ao none (j9 s 5 k 1) (λb=>kk[b]?)=some (.str x.ev.kind,.ar):=λ{kk} e=>oW.sl.mi hlt (by rw[<-hx];rfl) e
 have ox:bd W x:=oW.all x Uc;have hd:L.drop k=x::L.drop (k+1):=by rw[hx];simp
 have TI:(L.take (k+1)).map EV.ev=(L.take k).map EV.ev++[x.ev]:=by rw[aa1,aai hlt,aap,hx];rfl
 have Tt:=st.r;rw[hd,abd,fW]at Tt;obtain⟨H,hH⟩:∃H:iZ,H=⟨(L.take k).map EV.ev,C.map EV.ev,A.map RV.an⟩:=⟨_,rfl⟩;rw[<-hH]at Tt;have hHe:H.cK.length=k:=by rw[hH];simp only[aak,aaZ];omega
 have wH:jU H:=by rw[hH];exact st.w
 have hNow:N.an=H.now:=by rw[hNr,hH];rfl
 have sbz:∀{kk:ah},Ext W kk->aV 7 (.ptr h.length 0) (.agg [AV.i 0,.af,.af,.af,.af,.af,.af]) (λz=>kk[z]?)=some (az,.set h.length (.b RV.zero.row)):=λ{kk} e=>(aC.zero (h:=W)).KQ (e.some st.b)
 have fin:∀{W' G:ah}{c:Int},Ext h W'->eM H x.ev=c->c≠0->OT h (L.map EV.ev) (.dQ [.af,.agg RV.zero.row,.i ((k+1:Nat):Int),.i c]) (W'.set h.length (.b RV.zero.row)++G):=by
  intro W' G c e hb h0;refine C1 h0 ?_ ((e.jo (aar _)).trans ⟨G,rfl⟩);rw[Tt,aas (by rw[hb];exact h0),hb];simp
 have gmz:∀{W' G:ah},h.length<W'.length->ao (some 7) (.ptr h.length 0) (λz=>(W'.set h.length (.b RV.zero.row)++G)[z]?)=some (.agg RV.zero.row,.ar):=λ{W' G} hb=>by
  rw[aA (by rw[aag (by rw[aaY];exact hb)];exact aaw hb)];rfl
 have Ve:=(sh.e x Uc);refine Rs (A9 t0 t3 t6 t7 t8 oW.sl.aK e3 @ik @lx) ?_;refine WF.ce T.c39 (r39 T (ox.ext Xx) ⟨Om,Om⟩ (hnl x Uc)) λg1=>?_
 obtain⟨W1,Wh⟩:∃Z,Z=W++g1:=⟨_,rfl⟩;rw[<-Wh];have e1:Ext W W1:=⟨g1,Wh⟩;have lx0:∀{kk:ah},Ext W1 kk->ao none (j9 s 5 k 0) (λb=>kk[b]?)=some (.i x.ev.num,.ar):=λ{kk} e=>lx0 (e1.trans e)
 have lx1:∀{kk:ah},Ext W1 kk->ao none (j9 s 5 k 1) (λb=>kk[b]?)=some (.str x.ev.kind,.ar):=λ{kk} e=>lx1 (e1.trans e)
 have lx:∀{kk:ah},Ext W1 kk->ao (some 5) (cT s 5 k) (λb=>kk[b]?)=some (.agg x.row,.ar):=λ{kk} e=>lx (e1.trans e)
 have ld:∀{kk:ah},Ext W1 kk->ao (some 7) (cT sa 7 C.length) (λb=>kk[b]?)=some (.agg N.row,.ar):=λ{kk} e=>ld (e1.trans e)
 have sbz:∀{kk:ah},Ext W1 kk->aV 7 (.ptr h.length 0) (.agg [AV.i 0,.af,.af,.af,.af,.af,.af]) (λz=>kk[z]?)=some (az,.set h.length (.b RV.zero.row)):=λ{kk} e=>sbz (e1.trans e)
 have Wt:h.length<W1.length:=by have:=e1.len;omega
 have XX:=λ{G:ah}=>gmz (G:=G) Wt
 have st:=st.ext e1;have stx:=st.x;have d11:decide ((11:Int)=0)=false:=rfl;have d11':decide ((11:Int)≠0)=true:=rfl;have d12:decide ((12:Int)=0)=false:=rfl;have d21:decide ((21:Int)=0)=false:=rfl;have d12':decide ((12:Int)≠0)=true:=rfl;have d21':decide ((21:Int)≠0)=true:=rfl;have d0:decide ((0:Int)=0)=true:=rfl;have d0':decide ((0:Int)≠0)=false:=rfl;by_cases h1:eJ x.ev=0
 case neg=>
  have q1:decide (eJ x.ev=0)=false:=aaf h1;have q2:decide (eJ x.ev≠0)=true:=aaj h1;refine Rs (B4 t0 t3 t6 t7 t8 X4.aK q1 q2 e5 @sbz @gK @c6 @c7 @lV @XX) ?_;exact fin stx (by rw[eM,aas h1]) h1
 have q1:decide (eJ x.ev=0)=true:=aaj h1;have q1':decide (eJ x.ev≠0)=false:=aaf (λz=>z h1);obtain⟨d,we⟩:=ko h1;have hkD:=we.mO;have Tw:x.ev.kind=bf d:=bY we.kd;have Yg:eM H x.ev=kQ H x.ev:=by rw[eM,aao (λz=>z h1)]
 by_cases h2:x.ev.num=((k+1:Nat):Int)
 case neg=>
  have q3:decide (x.ev.num≠((k+1:Nat):Int))=true:=aaj h2;refine Rs (Tn t0 t3 t6 t7 t8 X4.aK q1 @ik @lx0 e5 q3 @d11 @d11' @sbz @gK @c6 @c7 @lV @XX) ?_;exact fin stx (by rw[Yg,kQ,aas (by rw[hHe];simpa using h2)]) De
 have q3:decide (x.ev.num≠((k+1:Nat):Int))=false:=aaf (λz=>z h2);have Vs:¬x.ev.num≠(H.cK.length:Int)+1:=by rw[hHe];simpa using h2
 by_cases hu:d=.fg
 case pos=>
  have hK:mO x.ev=.fg:=by rw[hkD,hu]
  have q4:decide (bf d=[117,110,100,111])=true:=by rw[o9,hu];rfl
  rcases kV C with hC|⟨M,c,hC⟩
  ·have q5:decide ((C.length:Int)=0)=true:=by rw[hC];rfl
   refine Rs (SP t0 t3 t6 t7 t8 X4.aK q1 @ik @lx0 @lx1 e5 q3 @Tw q4 q5 @d12 @d12' @sbz @gK @c6 @c7 @lV @XX) ?_;refine fin (c:=12) stx ?_ De;rw[Yg,kQ,aao Vs,aas hK,hH,hC];rfl
  ·have hCl2:C.length=M.length+1:=by rw[hC];simp
   have q5:decide ((C.length:Int)=0)=false:=aaf Om;have w1:IntKind.i64.wrap ((C.length:Int)-1)=(M.length:Int):=by rw[aY Om Om];omega
   have hMl:M.length<C.length:=Om
   have hcM:C[M.length]=c:=by simp[hC]
   have ic:aZ 5 sc (.i (M.length:Int))=some (cT sc 5 M.length,.ar):=X4.dK hMl;have lc:∀{kk:ah},Ext W1 kk->ao none (j9 sc 5 M.length 1) (λb=>kk[b]?)=some (.str c.ev.kind,.ar):=λ{kk} e=>X4.mi hMl (by rw[hcM];rfl) (e1.trans e)
   obtain⟨dc,wc⟩:=st.w.cn c.ev (aaH (by rw[hC];simp));have hkc:c.ev.kind=bf dc:=bY wc.kd;have hlast:H.fe.getLast? =some c.ev:=by rw[hH,hC];simp
   by_cases hr:dc=.rel
   ·have q6:decide (bf dc=[114,101,108,101,97,115,101])=true:=by rw[ri,hr];rfl
    repeat (first|simp (config:={maxSteps:=1000000}) only[aU,aX,bz,bA,reduceAdd,reduceMul,reduceLeDiff,reduceEqDiff,bC,hlen,aay,aaB,t0,t3,t6,t7,t8,X4.aK,q1,ik,lx0,lx1,e5,q3,Tw,q4,q5,w1,ic,lc,hkc,q6,d21,d21',sbz,gK,c6,c7,lV,XX]|simp (config:={maxSteps:=1000000}) (disch:=first|(simp only[aac,aah,aal]<;>omega)|rfl|omega|fail) only[gp,aU,aX,bz,bA,reduceAdd,reduceMul,reduceLeDiff,reduceEqDiff,bC,hlen,aay,aaB,t0,t3,t6,t7,t8,X4.aK,q1,ik,lx0,lx1,e5,q3,Tw,q4,q5,w1,ic,lc,hkc,q6,d21,d21',sbz,gK,c6,c7,lV,XX])
    refine fin (c:=21) stx ?_ De;rw[Yg,kQ,aao Vs,aas hK,hlast];simp only[wc.mO,hr,aaB]
   ·have q6:decide (bf dc=[114,101,108,101,97,115,101])=false:=by rw[ri];exact aaf hr
    have UA:eM H x.ev=0:=by
     rw[Yg,kQ,aao Vs,aas hK,hlast];simp only[wc.mO,hr,aay]
    obtain⟨TU,ec,hsc⟩:=st.c.EG (lo:=none) (hi:=some (.i (M.length:Int))) (ju Om);obtain⟨sa',ea,hsa⟩:=st.a.EG (lo:=none) (hi:=some (.i (C.length:Int))) (ju (by simp;omega));refine Rs (OW t0 t3 t6 t7 t8 X4.aK q1 @ik @lx0 @lx1 e5 q3 @Tw q4 q5 @w1 @ic @lc @hkc q6 @ec @ea) ?_;rcases kV A with hA|⟨D,R,hA⟩
    ·rw[hA]at hAC;simp only[aal]at hAC;omega
    have hCM:List.take (M.length-0) (List.drop 0 C)=M:=by rw[hC];simp
    have hDl:D.length=M.length:=by have:=hAC;rw[hA]at this;simp only[aac,aav]at this;omega
    have hAD:List.take (C.length-0) (List.drop 0 (RV.zero::A))=RV.zero::D:=by
     rw[hCl2,hA,Nat.sub_zero,abH,abV,<-hDl];simp
    rw[hCM]at hsc;rw[hAD]at hsa;have Wg:iY H x.ev=⟨(L.take (k+1)).map EV.ev,M.map EV.ev,D.map RV.an⟩:=by
     rw[iY,aas hK,hH,TI,hC,hA];simp
    refine⟨_,Om,k+1,M,D,TU,sa',Om,rfl,⟨stx,st.b,hsc,λy hy=>st.ce y (by rw[hC];simp[hy]),hsa,λy hy=>st.ae y (by rw[hA];simp[hy]),λy hy=>st.al y (by rw[hA];simp[hy]),?_,?_⟩,rfl,rfl,rfl⟩
    ·rw[<-Wg];exact wH.add UA
    ·rw[Tt,aao (λz=>z UA),Wg]
 case neg=>
 have hK:mO x.ev≠.fg:=by rw[hkD];exact hu
 have q4:decide (bf d=[117,110,100,111])=false:=by rw[o9];exact aaf hu
 have hacs:eM H x.ev=jd N.an x.ev d:=by rw[Yg,kQ,aao Vs,aao hK,hkD,<-hNow]
 refine Rs (K3 t0 t3 t6 t7 t8 X4.aK q1 @ik @lx0 @lx1 @lx e5 q3 @Tw q4 ix @ld) ?_;have ox1:=ox.ext e1;have oN1:aC W1 N:=(oN.sub (iK.fw _ _)).ext e1;refine WF.res T.c129 (r129 T (d:=d) (oN1.ext Xx) wN (ox1.ext Xx) we hu) ?_;rintro _ g2 ⟨V',rfl,ZI,hV'⟩;obtain⟨W2,T6⟩:∃Z,Z=W1++[ak.b [AV.i 0,.af,.af,.af,.af,.af,.af]]++g2:=⟨_,rfl⟩;rw[<-T6]at ZI ⊢;have e2:Ext W1 W2:=by rw[T6,aae];exact⟨_,rfl⟩
 have m2:W2[W1.length]? =some (.b lG):=by
  rw[T6];exact(show Ext (W1++[ak.b lG]) _ from⟨g2,rfl⟩).some ba
 have hl2:W1.length<W2.length:=(aad.1 m2).1;have sbn:=ZI.KQ m2;obtain⟨W3,TL⟩:∃Z,Z=W2.set W1.length (.b V'.row):=⟨_,rfl⟩;have e3':Ext W1 W3:=by rw[TL];exact e2.jo (aar _)
 have x3:Ext h W3:=stx.trans e3';have m3:W3[W1.length]? =some (.b V'.row):=by rw[TL];exact aaw hl2
 have Z6:W3.length=W2.length:=by rw[TL,aaY]
 have k3:∀i,i≠W1.length->W3[i]? =W2[i]? :=λi hi=>by rw[TL,aau (abG hi)]
 have sbz3:=sbz e3';have gmz3:ao (some 7) (.ptr h.length 0) (λz=>(W3.set h.length (.b RV.zero.row))[z]?)=some (.agg RV.zero.row,.ar):=ph Om;have oh:=st.ext e3';by_cases h5:jd N.an x.ev d=0
 case neg=>
  have q5:decide (jd N.an x.ev d≠0)=true:=aaj h5;have ef:=fin (W':=W3) (G:=[]) x3 hacs h5;rw[aaF]at ef;rw[TL]at sbz3 gmz3 ef;refine Rs (B5 t0 t3 t6 t7 t8 @sbn q5 e5 @sbz3 @gK @c6 @c7 @lV @gmz3) ?_;exact ef
 have q5:decide (jd N.an x.ev d≠0)=false:=aaf (λz=>z h5);have UA:eM H x.ev=0:=by rw[hacs,h5]
 obtain⟨hVr,hVb⟩:=hV' h5;have hVb:∀i,some i∈V'.bl->W1.length<i:=λi hi=>by have:=hVb i hi;simp only[aac,aav]at this;omega
 refine Rs (A7 t0 t3 t6 t7 t8 @sbn q5) ?_;rw[<-TL];have stc3:=oh.c.sub (iK.fw _ _);refine WR.qQ (N:=W3.length) (w:=88) ba (aar _) (stc3.ext Xx) (by rw[aak];omega) λa1 y1 f1=>?_
 have p1:=f1.aT.one;obtain⟨Y,hY⟩:∃Z,Z=W3++[ak.b []]++y1:=⟨_,rfl⟩;rw[<-hY]at f1 ⊢;have eY:Ext W3 Y:=by rw[hY,aae];exact⟨_,rfl⟩
 have lxY:∀{kk:ah},Ext Y kk->ao (some 5) (cT s 5 k) (λb=>kk[b]?)=some (.agg x.row,.ar):=λ{kk} e=>lx ((e3'.trans eY).trans e)
 have bs:=@bd.D7 _ _ ox;refine Rs (A9 t0 t3 t6 t7 t8 @ik @lxY @bs @p1) ?_;refine WR.qh (B:=W3) (cs:=C.map EV.row) f1 rfl eY De (by rw[aak];omega) ?_;intro W4 s4 x4 Zc hn4 q4' l4 hk4;have hrow:C.map EV.row++[x.row]=(C++[x]).map EV.row:=by rw[aap];rfl
 rw[hrow]at Zc;have st4:=oh.ext x4;have sta4:=st4.a.sub (iK.fw _ _);refine Rs (A5 t0 t3 t6 t7 t8) ?_;refine WR.qQ (N:=W4.length) (w:=152) ba (aar _) (sta4.ext Xx) (by simp only[aak,aah];omega) λa2 y2 f2=>?_
 have p2:=f2.aT.one;obtain⟨Y2,Vt⟩:∃Z,Z=W4++[ak.b []]++y2:=⟨_,rfl⟩;rw[<-Vt]at f2 ⊢;have VO:Ext W4 Y2:=by rw[Vt,aae];exact⟨_,rfl⟩
 have lnx:∀{kk n a},Ext Y2 kk->ao n (.ptr W1.length a) (λz=>kk[z]?)=dO n a (.b V'.row):=λ{_ _ _} e=>aA (((x4.trans VO).trans e).some m3)
 have bv:=@aC.D7 _ _ ZI;refine Rs (A9 t0 t3 t6 t7 t8 @lnx @aE @bv @p2) ?_;refine WR.qh (B:=W4) (cs:=(RV.zero::A).map RV.row) f2 rfl VO De (by simp only[aak,aah];omega) ?_;intro W5 s5 x5 hf5 hn5 q5' l5 hk5;have hrow2:(RV.zero::A).map RV.row++[V'.row]=(RV.zero:: (A++[V'])).map RV.row:=Si
 rw[hrow2]at hf5;have st5:=st4.ext x5;have oV5:aC W5 V':=((ZI.ar λi hi=>k3 i (by have:=hVb i hi;omega)).ext x4).ext x5;have Wg:iY H x.ev=⟨(L.take (k+1)).map EV.ev,(C++[x]).map EV.ev,(A++[V']).map RV.an⟩:=by
  rw[iY,aao hK,hkD,hH,TI];simp only[aap,abd,ab7,hVr];rw[<-hNow,hH]at *
  first|rfl|simp[hNr,iZ.now]
 have hlW3:h.length<W3.length:=Om
 have hl4:W3.length<=W4.length:=x4.len;refine Rs (A6 t0 t3 t6 t7 t8 e5) ?_;refine⟨_,Om,k+1,C++[x],A++[V'],s4,s5,Om,rfl,⟨x3.trans (x4.trans x5),st5.b,(Zc.ext x5).aT.fw λb hb z=>?_,λy hy=>?_,hf5.aT.fw λb hb z=>?_,λR hR=>?_,λR hR=>?_,?_,?_⟩,rfl,rfl,rfl⟩
 ·have:=(Zc.bM hb).1;exact OF
 ·rcases aam.1 hy with hy|hy
  ·exact st5.ce y hy
  ·rw[aaG]at hy;rw[hy];exact(o.all x Uc).sub (Mm (x3.trans (x4.trans x5)))
 ·have:=(hf5.bM hb).1;exact OF
 ·rcases aam.1 hR with hR|hR
  ·exact st5.ae R hR
  ·rw[aaG]at hR;rw[hR];exact oV5.fw λi hi z=>by
    have:=hVb i hi;exact OF
 ·rcases aam.1 hR with hR|hR
  ·exact st5.al R hR
  ·rw[aaG]at hR;rw[hR];intro i hi;have:=hVb i hi;omega
 ·rw[<-Wg];exact wH.add UA
 ·rw[Tt,aao (λz=>z UA),Wg]
def r81{L s}(o:dJ h L s)(sh:B0 L)(hnl:∀x∈L,∀n∈x.ev.names,n.length<2^63):ay P 81 [s] h (SN h.length (L.map EV.ev)):=by
 refine .of T.mix (acP T.c81 (aaR some PQ)) ?_;obtain⟨ts,Tp⟩:∃ts,ts=aR 110 [s]:=⟨_,rfl⟩;have hlen:ts.length=110:=by rw[Tp];rfl
 have t0:slot ts 0=s:=by rw[Tp];rfl
 show WC P bP (.seq (Fx 0) (yF 1)) [] (aR 110 [s]) h (FQ [(2,none),(3,some (some 7)),(4,none),(5,none)] (OT h (L.map EV.ev)));rw[<-Tp];clear Tp;have hsl:=sh.l;by_cases h1:1000<L.length
 ·have q1:decide ((1000:Int)<(L.length:Int))=true:=aaj Om;have e:bF (L.map EV.ev)=(iZ.zero,0,5):=by rw[bF,aas (by simpa using h1)]
  have m0:(h++[ak.b lG])[h.length]? =some (.b lG):=ba;have sbz:aV 7 (.ptr h.length 0) (.agg [AV.i 0,.af,.af,.af,.af,.af,.af]) (λz=>(h++[ak.b lG])[z]?)=some (az,.set h.length (.b RV.zero.row)):=(aC.zero (h:=h)).KQ m0;unfold lG at sbz;have gmz:ao (some 7) (.ptr h.length 0) (λz=>(h++[ak.b RV.zero.row])[z]?)=some (.agg RV.zero.row,.ar):=by rw[aA ba];rfl
  unfold yF Fx fn81;simp only[ai.j,ai.s,ai.r,ai.dr,ai.tl,ai.hd];refine Rs (A9 t0 o.sl.aK q1 @sbz @gK @c6 @c7 @lV @gmz) ?_;exact C1 De e Xx
 have q1:decide ((1000:Int)<(L.length:Int))=false:=aaf Om;rw[PO,PN,PM];generalize hR:yF 4=R;unfold Fx fn81;simp only[ai.j,ai.s,ai.r,ai.dr,ai.tl,ai.hd];refine Rs (A3 t0 o.sl.aK q1) ?_;rw[<-hR];have hx:Ext h (h++[ak.b lG]++[ak.cells RV.zero.row true true]):=Xx;have fz:Fr (h.length+1) (h++[ak.b lG]++[ak.cells RV.zero.row true true]) (.slice (h.length+1) 0 1 7) 7 [RV.zero.row]:=by
  have:=Fr.push (h:=h++[ak.b lG]) (N:=h.length+1) (es:=7) Si [RV.zero.row] (λx hx=>by rw[aaG]at hx;rw[hx];rfl)
  simpa using this
 refine Fw T (sa:=.slice (h.length+1) 0 1 7) (W:=h++[ak.b lG]++[ak.cells RV.zero.row true true]) o sh hnl Om ⟨hx,Si,.nil,(λ_ h=>by cases h),fz.aT.fw λb hb z=>?_,(λ_ h=>by cases h),(λ_ h=>by cases h),jU.zero,?_⟩ Sn (Sq t0) Sw Sw (by simp only[aU,aX,bz,bA,reduceAdd,reduceMul,reduceLeDiff,reduceEqDiff,bC,hlen,aay,aaB];simp)
 ·have:=(fz.bM hb).1;exact OF
 ·rw[bF,aao (by simpa using h1)];rfl
end
structure SO(L:List EV):Prop where
 n:∀x∈L,∀n∈x.ev.names,n.length<2^63
section
variable {P:Program}(T:eD P) {h:ah}
include T
def r18{L s}(o:dJ h L s)(sh:B0 L)(nl:SO L):ay P 18 [s] h (λv k=>∃V:RV,v=.dQ [.agg V.row,.i (bF (L.map EV.ev)).2.1,.i (bF (L.map EV.ev)).2.2]/\aC k V/\V.an=(bF (L.map EV.ev)).1.now/\fM V.an/\∀i,some i∈V.bl->h.length<i):=by
 refine .lI 19 T.mix T.c18 ?_;intro ts hlen t0;unfold fn18 gA;refine Rs t0 ?_;refine WF.res T.c81 (r81 T (o.ext Xx) sh nl.n) ?_;rintro _ g ⟨sc,V,C,rfl,oV,hV,wV,oC,hC,hCl,lo⟩;have lo:∀i,some i∈V.bl->h.length+1<i:=λi hi=>by have:=lo i hi;simpa using this
 have st:=@aC.st _ _ oV;refine Rs (A3 t0 @st @aE) ?_;refine⟨V,rfl,?_,hV,wV,λi hi=>by have:=lo i hi;omega⟩;have:=oV.ar (k:=h++[ak.b V.row]++g) λj hj=>Aj (by have:=lo j hj;omega)
 exact this.ext Xx
end
def I5{w d}(h:fk w=some d):jI w=none:=by
 rw[bY h];cases d<;>rfl
attribute [local irreducible] WQ
section
variable {P:Program}(T:eD P) {h:ah}
include T
end
def b9.move{N h b V}(o:b9 N h b V):b9 N (h++[.cells [V.se,V.sc,V.sr] true false]) h.length V:=by
 have hbl:=(aad.1 o.hb).1;have hN:=o.hN;have le:=λj (hj:sB V.se=some j)=>(o.oe.bM hj).2
 have lc:=λj (hj:sB V.sc=some j)=>(o.oc.bM hj).2
 have lg:=λj (hj:sB V.sr=some j)=>(o.og.bM hj).2
 have hlt:∀y∈[sB V.se,sB V.sc,sB V.sr],∀c,some h.length=some c->y≠some c:=λy hy c hc e=>by
  cases hc;simp only[aaN,abb,abP]at hy;rcases hy with rfl|rfl|rfl
  ·have:=le _ e;omega
  ·have:=lc _ e;omega
  ·have:=lg _ e;omega
 have hs:iK (fw (V.ex b) h) (fw (V.ex h.length) (h++[.cells [V.se,V.sc,V.sr] true false])):=kU (λi hi _=>aag hi) (λi hi hm=>by
  unfold HV.ex at hm ⊢;rcases aaN.1 hm with hm|hm
  ·cases hm;omega
  ·exact aaP _ hm)
 exact⟨Om,ba,o.oe.aB λj hj=>aag (le j hj),o.oc.aB λj hj=>aag (lc j hj),o.og.aB λj hj=>aag (lg j hj),
  abe.2 ⟨hlt,(abe.1 o.di).2⟩,λx hx=>(o.ae x hx).sub hs,λx hx=>(o.ac x hx).sub hs,λx hx=>(o.ag x hx).sub hs,o.lo⟩
def MP(k:Nat):ai:=(fn41).body.dr k
def Je(k:Nat):ai:=((fn41).body.dr k).hd
def Qg:fn41=⟨36,1,[(2,none),(3,none)],.seq (Je 0) (.seq (Je 1) (.seq (Je 2) (MP 3)))⟩:=rfl
def mh(s:By):Int:=if(cD s).2.2≠0/\(cD s).2.2≠28 then(cD s).2.2 else(bF (cD s).1).2.2
def OU(h:ah)(s:By)(v:AV)(k:ah):Prop:=
 (mh s≠0->v=.dQ [.nilPtr,.int .i64 (mh s)])/\
 (mh s=0->∃B b V,v=.dQ [.ptr b 0,.int .i64 0]/\Ext h B/\Ext B k/\b9 B.length k b V/\V.bN=(bF (cD s).1).1/\jU V.bN/\V.cK.length=(cD s).1.length/\(cD s).1.length<=1000)
section
variable {P:Program}(T:eD P) {h:ah}
include T
def MO{W:ah}{L:List EV}{sl:AV}{s:By}{ts:TS}(eW:Ext h W)(r:KW W s L sl)(hs:s.length<=2^16)(gl:Gl W)(he:mh s=(bF (cD s).1).2.2)(hlen:ts.length=36)(t4:slot ts 4=sl):
  WC P bP (MP 3) [] ts W (FQ [(2,none),(3,none)] λv k=>Ext h k/\OU h s v k):=by
 have hl:=r.len;have sh:B0 L:=⟨Om,λx hx=>by obtain⟨d,w⟩:=r.wf x hx;have:=zu w;omega⟩;unfold MP fn41 gA;simp only[ai.j,ai.s,ai.r,ai.dr,ai.tl];refine Rs t4 ?_;refine WF.res T.c78 (r78 T r.o sh gl) ?_;rintro _ g ⟨p,rfl,UY,hok⟩;rw[r.e]at UY hok ⊢;by_cases hz:(bF (cD s).1).2.2=0
 case neg=>
  have d1:decide ((bF (cD s).1).2.2≠0)=true:=aaj hz;refine Rs (A2 t4 @d1) ?_;refine⟨eW.trans ⟨g,rfl⟩,λ_=>by rw[he],λz=>absurd (he.symm.trans z) hz⟩
 obtain⟨b,V,rfl,o,hV,w,Yh,XU⟩:=hok hz;have d1:decide ((bF (cD s).1).2.2≠0)=false:=aaf λz=>z hz
 have lb:=@fx _ _ _ o.hb;have bx:∀{N:Nat},na (.agg [V.se,V.sc,V.sr]) N=some (.ptr N 0,.push (.cells [V.se,V.sc,V.sr] true false)):=λ{N}=>by
  have c:(AV.agg [V.se,V.sc,V.sr]).cells=[V.se,V.sc,V.sr]:=rfl;have a:([V.se,V.sc,V.sr] :List AV).all AV.one=true:=by simp only[abC,List.all_nil,o.oe.aT.one,o.oc.aT.one,o.og.aT.one,Bool.and_self]
  simp only[na,c,a,aaB]
 refine Rs (A4 t4 @d1 @lb @bx) ?_;refine⟨eW.trans Xx,λz=>absurd (he.trans hz) z,λ_=>⟨W,_,V,rfl,eW,Xx,o.move,hV,w,Yh,XU⟩⟩
def r41(X:vW P)(Z:nB P)(w:Pw h)(gl:Gl h)(s:By)(hs:s.length<=2^16):ay P 41 [.str s] h (λv k=>OU h s v k):=by
 refine .of T.mix (acP T.c41 (aaR some Qg)) ?_;obtain⟨ts,Tp⟩:∃ts,ts=aR 36 [.str s]:=⟨_,rfl⟩;have hlen:ts.length=36:=by rw[Tp];rfl
 have t0:slot ts 0=.str s:=by rw[Tp];rfl
 show WC P bP (.seq (Je 0) (.seq (Je 1) (.seq (Je 2) (MP 3)))) [] (aR 36 [.str s]) h (FQ [(2,none),(3,none)] λv k=>Ext h k/\OU h s v k);rw[<-Tp];clear Tp;generalize hR:MP 3=R;unfold Je fn41 gA;simp only[ai.j,ai.s,ai.r,ai.dr,ai.tl,ai.hd];refine Rs t0 ?_;refine WF.res T.c37 (r37 T X Z w s Om) ?_;rintro _ g1 ⟨L,sl,hL,rfl,fr,hin⟩;have r:KW (h++g1) s L sl:=⟨⟨fr.aT,λy hy=>(hin y hy).ok⟩,hL⟩;have eW:Ext h (h++g1):=⟨g1,rfl⟩;by_cases h0:(cD s).2.2=0
 ·have d1:decide ((cD s).2.2≠0)=false:=aaf λz=>z h0
  have he:mh s=(bF (cD s).1).2.2:=aao λz=>z.1 h0
  refine Rs (A2 t0 @d1) ?_;rw[<-hR];exact MO T eW r hs (gl.ext eW) he Sn Sw
 have d1:decide ((cD s).2.2≠0)=true:=aaj h0;by_cases h1:(cD s).2.2=28
 ·have d2:decide ((cD s).2.2≠28)=false:=aaf λz=>z h1
  have he:mh s=(bF (cD s).1).2.2:=aao λz=>z.2 h1
  refine Rs (A3 t0 @d1 @d2) ?_;rw[<-hR];exact MO T eW r hs (gl.ext eW) he Sn Sw
 have d2:decide ((cD s).2.2≠28)=true:=aaj h1;have he:mh s=(cD s).2.2:=aas ⟨h0,h1⟩;refine Rs (A3 t0 @d1 @d2) ?_;exact⟨λ_=>by rw[he],λz=>absurd (he.symm.trans z) h0⟩
end
def NW{N K b V}(o:b9 N K b V){j}(hj:some j∈V.ex b):j<K.length:=by
 unfold HV.ex at hj;simp only[aaN,abb,abP]at hj;rcases hj with hj|hj|hj|hj
 ·cases hj;exact(aad.1 o.hb).1
 ·exact(o.oe.bM hj.symm).2
 ·exact(o.oc.bM hj.symm).2
 ·exact(o.og.bM hj.symm).2
def Fc{B K k:ah}{b:Nat}{V:HV}{R v}(s:mD B K b V R v k):∃V',v=.dQ [.str R.2.1,.int .i64 R.2.2]/\Ext B k/\b9 B.length k b V'/\V'.bN=R.1/\iK (fw (V.ex b) K) (fw (V'.ex b) k)/\(∀i,i<K.length->some i∉V.ex b->k[i]? =K[i]?)/\(∀j,some j∈V'.ex b->some j∈V.ex b\/K.length<=j):=by
 obtain⟨g',V',rfl,hv,o,hV,hk,he⟩:=s;refine⟨V',hv,⟨g',rfl⟩,o,hV,kU hk (λi hi hm=>?_),hk,he⟩;rcases he i hm with h|h
 ·exact h
 ·omega
section
variable {P:Program}
def jQ.apart{f:FuncId}{args:List AV}{h0 g k:ah}{v:AV}(hs:jQ P f args (h0++List.replicate k.length .dead) v (h0++List.replicate k.length .dead++g))(hlen:h0.length=P.globals.size)(hcl:∀(b:Nat) (x:ak),h0[b]? =some x->mA h0.length x)
  (hargs:Aw h0.length args):jQ P f args (h0++k) v (h0++k++g):=by
 intro m w vs hr ha;have VB:HR P (m.db h0.length) h0 w:=hr.db Om (λb e x _ _ hx=>hcl b x hx);have Wt:(h0++List.replicate k.length ak.dead).length=(h0++k).length:=Si
 have hup:∀b e,m.db h0.length b=some e->b<h0.length/\m b=some e:=λb e hb=>by
  unfold cw.db at hb;split at hb
  ·exact⟨by assumption,hb⟩
  ·cases hb
 have UD:HR P (m.db h0.length) (h0++List.replicate k.length .dead) w:=
  ⟨λb e hb=>by rw[aac];have:=(hup b e hb).1;omega,
   λb e x hb hx=>VB.dW b e x hb (by rw[aag (hup b e hb).1]at hx;exact hx),
   λb1 b2 e1 e2 k1 k2 hne h1 h2 hk1 Tr hcb=>VB.sep b1 b2 e1 e2 k1 k2 hne h1 h2 (by rw[aag (hup _ _ h1).1]at hk1;exact hk1) (by rw[aag (hup _ _ h2).1]at Tr;exact Tr) hcb,
   VB.fS,VB.lt⟩
 obtain⟨ma,va,hd,hva⟩:=hargs;rw[<-callsIn_wide (n:=0)];have hc:=hs (m.db h0.length) w vs UD (cL.cut hd args va vs hva ha);rw[<-callsIn_wide (n:=0)]at hc;refine hc.mono ?_;rintro e w' ⟨cv,m1,rfl,h1,h2,h3⟩;have hno:∀b e,m.db h0.length b=some e->e.own=false:=λb e hb=>by
  obtain⟨hlt,hb⟩:=hup b e hb;obtain⟨e',Ue,_,_,hno,_⟩:=hr.fS b Om;rw[hb]at Ue;cases Ue;exact hno
 have hframe:∀i,i<w.heap.size->w'.heap[i]? =w.heap[i]? :=λi hi=>h3.frame i hi λb e hb ho=>by rw[hno b e hb]at ho;cases ho
 have hnew:∀b e,(h0++k).length<=b->m1 b=some e->e.own=true/\w.heap.size<=e.cb:=λb e hb he=>by
  obtain⟨q1,q2⟩:=h3.new b e (by rw[Wt];exact hb) he;refine⟨q1,?_⟩;rcases q2 with q2|⟨b0,e0,UA,_,ho,_⟩
  ·exact q2
  ·rw[hno b0 e0 UA]at ho;cases ho
 obtain⟨m2,Wp⟩:∃m2:cw,m2=λb=>if b<(h0++k).length then m b else m1 b:=⟨_,rfl⟩
 have lo:∀{b},b<(h0++k).length->m2 b=m b:=λ{b} hb=>by rw[Wp];exact aas hb
 have hi:∀{b},(h0++k).length<=b->m2 b=m1 b:=λ{b} hb=>by rw[Wp];exact aao Om
 clear Wp;have le0:m.le m2:=λb e hb=>by rw[lo (hr.cM b e hb)];exact hb
 have le1:m1.le m2:=λb e hb=>by
  by_cases hlt:b<(h0++k).length
  ·rw[lo hlt];rw[h3.ext b (by rw[Wt];exact hlt)]at hb;exact(hup b e hb).2
  ·rw[hi Om];exact hb
 have glo:∀{b},b<(h0++k).length->(h0++k++g)[b]? =(h0++k)[b]? :=λ{b} hb=>aag hb
 have ghi:∀{b},(h0++k).length<=b->(h0++k++g)[b]? =(h0++List.replicate k.length ak.dead++g)[b]? :=λ{b} hb=>by
  rw[aan hb,aan (by rw[Wt];exact hb),Wt]
 have hl2:(h0++List.replicate k.length ak.dead++g).length=(h0++k++g).length:=Si
 have far:∀{b1 b2 e1 e2},b1<(h0++k).length->¬b2<(h0++k).length->m2 b1=some e1->m2 b2=some e2->e1.cb≠e2.cb:=λ{b1 b2 e1 e2} c1 c2 q1 q2=>by
  rw[lo c1]at q1;rw[hi Om]at q2;have:=hr.lt _ _ q1;have:=(hnew _ _ Om q2).2;omega
 refine⟨cv,m2,rfl,VR.mono le1 _ _ h1,⟨λb e hb=>?_,λb e x hb hx=>?_,λb1 b2 e1 e2 k1 k2 hne q1 q2 hk1 Tr hcb=>?_,λb hb=>?_,λb e hb=>?_⟩,
  ⟨λb hb=>lo hb,Si,λb e hb he=>?_,λb hb ht=>?_,h3.size,h3.os,h3.out,h3.tape,λi hi _=>hframe i hi⟩⟩
 ·by_cases hlt:b<(h0++k).length
  ·rw[aac];omega
  ·rw[hi Om]at hb;rw[<-hl2];exact h2.cM b e hb
 ·by_cases hlt:b<(h0++k).length
  ·rw[lo hlt]at hb;rw[glo hlt]at hx;exact((hr.dW b e x hb hx).heap (hframe _ (hr.lt b e hb))).mono le0
  ·rw[hi Om]at hb;rw[ghi Om]at hx;exact(h2.dW b e x hb hx).mono le1
 ·by_cases c1:b1<(h0++k).length
  ·by_cases c2:b2<(h0++k).length
   ·rw[lo c1]at q1;rw[lo c2]at q2;rw[glo c1]at hk1;rw[glo c2]at Tr;exact hr.sep b1 b2 e1 e2 k1 k2 hne q1 q2 hk1 Tr hcb
   ·exact absurd hcb (far c1 c2 q1 q2)
  ·by_cases c2:b2<(h0++k).length
   ·exact absurd hcb.symm (far c2 c1 q2 q1)
   ·rw[hi Om]at q1 q2;rw[ghi Om]at hk1 Tr;exact h2.sep b1 b2 e1 e2 k1 k2 hne q1 q2 hk1 Tr hcb
 ·obtain⟨e,he,hq⟩:=hr.fS b hb;exact⟨e,by rw[lo (by rw[aac];omega)];exact he,hq⟩
 ·by_cases hlt:b<(h0++k).length
  ·rw[lo hlt]at hb;exact aa7 (hr.lt b e hb) h3.size
  ·rw[hi Om]at hb;exact h2.lt b e hb
 ·rw[hi hb]at he;exact⟨(hnew b e hb he).1,.inl (hnew b e hb he).2⟩
 ·unfold eI at ht ⊢;rw[glo hb]at ht;exact ht
end
def kI(q:Nat)(K:ah):ah:=K.take q++List.replicate (K.drop q).length .dead
def mQ{q K}:(kI q K).length=K.length:=by unfold kI;simp;omega
def y3{q K b}(hb:b<q):(kI q K)[b]? =K[b]? :=by
 unfold kI;by_cases hk:b<K.length
 ·rw[aag (by rw[aaZ];omega),abY hb]
 ·rw[abZ (by simp;omega),abZ Om]
def DM{q K b c mu tl}(h:(kI q K)[b]? =some (.cells c mu tl)):b<q:=by
 by_cases hb:b<q
 ·exact hb
 ·unfold kI at h;rw[aan (by rw[aaZ];omega),List.getElem?_replicate]at h;split at h<;>cases h
theorem ay.apart{P:Program}{f:FuncId}{args:List AV}{K:ah}{q:Nat}{R:AV->ah->Prop}(H:ay P f args (kI q K) R)(hq:q=P.globals.size)(hle:q<=K.length)(hcl:∀(b:Nat) (x:ak),b<q->K[b]? =some x->mA q x)(hargs:Aw q args):
  ay P f args K (λv k=>∃g,k=K++g/\R v (kI q K++g)):=by
 obtain⟨v,g,hs,hr⟩:=H;have hl:(K.take q).length=q:=by rw[aaZ];omega
 have:=jQ.apart (h0:=K.take q) (k:=K.drop q) hs (by rw[hl,hq]) (λb x hx=>by
  rw[hl];have hb:b<q:=by have:=(aad.1 hx).1;omega
  rw[abY hb]at hx;exact hcl b x hb hx) (by rw[hl];exact hargs)
 rw[aaT]at this;exact⟨v,g,this,g,rfl,hr⟩
def b9.lift{q N:Nat}{K g W:ah}{b V}(o:b9 N (kI q K++g) b V)(hN:K.length<=N)(hW:∀i,i<(K++g).length->(i<q\/K.length<=i)->W[i]? =(K++g)[i]?):b9 N W b V:=by
 have hlen:(kI q K++g).length=(K++g).length:=by rw[aac,mQ,aac]
 have up:∀{i},K.length<=i->i<(kI q K++g).length->W[i]? =(kI q K++g)[i]? :=λ{i} h1 h2=>by
  rw[hW i Om (.inr h1),aan h1,aan (by rw[mQ];exact h1),mQ]
 have sub:iK (kI q K++g) W:=λi c mu tl h=>by
  have hi:=(aad.1 h).1;by_cases h1:K.length<=i
  ·rw[up h1 hi];exact h
  ·rw[aag (by rw[mQ];omega)]at h;have h2:=DM h;rw[hW i Om (.inl h2),aag Om,<-y3 h2];exact h
 have sm:iK (fw (V.ex b) (kI q K++g)) (fw (V.ex b) W):=λi c mu tl h=>by
  obtain⟨h1,h2⟩:=oR h;rw[rf h1];exact sub i c mu tl h2
 have kp:∀{s es cs},Ow N (kI q K++g) s es cs->Ow N W s es cs:=λ{s es cs} x=>x.aB λj hj=>by
  have:=x.bM hj;exact up Om this.2
 exact⟨o.hN,sub _ _ _ _ o.hb,kp o.oe,kp o.oc,kp o.og,o.di,λx hx=>(o.ae x hx).sub sm,λx hx=>(o.ac x hx).sub sm,λx hx=>(o.ag x hx).sub sm,o.lo⟩
def OE(q:Nat)(K:ah)(s:By)(v:AV)(k:ah):Prop:=∃g,k=K++g/\OU (kI q K) s v (kI q K++g)
def Mx:AV->Bool
 |.int _ _=>true
 |.str _=>true
 |.bool _=>true
 |_=>false
def E9:ak->Bool
 |.cells c _ _=>c.all Mx
 |.dead=>true
 |_=>false
def Mv{x:AV}{n}(h:Mx x=true):je n x:=by
 cases x<;>first|exact⟨λ_=>none,_,λ_ _ z=>(by cases z),rfl⟩|cases h
def Mw{x:ak}{n}(h:E9 x=true):mA n x:=by
 cases x with
 |cells c mu tl=>
  intro i y hy;exact Mv (aaO.1 h y (aa8 hy))
 |dead=>trivial
 |_=>cases h
def E8{s n}:Aw n [.str s]:=⟨λ_=>none,[_],λ_ _ z=>(by cases z),_,_,rfl,rfl,rfl⟩
section
variable {P:Program}(T:eD P) {h:ah}
include T
def Tf(X:vW P)(Z:nB P)(w:Pw h)(gl:Gl h)(hq:9=P.globals.size)(hl:9<=h.length)(hs:∀b x,b<9->h[b]? =some x->E9 x=true)(s:By)(hsl:s.length<=2^16):ay P 41 [.str s] h (λv k=>OE 9 h s v k):=by
 have w':Pw (kI 9 h):=by obtain⟨a,b,c⟩:=w;exact⟨a,b,by rw[y3 De];exact c⟩
 have g':Gl (kI 9 h):=by obtain⟨a,b,c⟩:=gl;exact⟨a,b,by rw[y3 De];exact c⟩
 exact(r41 T X Z w' g' s hsl).apart hq hl (λb x hb hx=>Mw (hs b x hb hx)) E8
end
def kL{d:Nat}(h:d<10):du (UInt8.ofNat (48+d))=true/\(UInt8.ofNat (48+d)).toNat=48+d:=by
 have:(UInt8.ofNat (48+d)).toNat=48+d:=by rw[UInt8.toNat_ofNat'];omega
 exact⟨gB.2 Om,this⟩
def Aq:∀u:Nat,(Lib.decDigits u).all du=true:=by
 intro u
 induction u using Nat.strongRecOn with
 |_ u ih=>
  rw[Lib.decDigits];by_cases h:u<10
  ·rw[dif_pos h];simp only[abC,List.all_nil,Bool.and_true];exact(kL h).1
  ·rw[dif_neg h,acm,ih (u / 10) Om];simp only[abC,List.all_nil,Bool.and_true,abD];exact(kL (Nat.mod_lt u (by decide:0<10))).1
def y9(u:Nat):Lib.decDigits u≠[]:=by
 rw[Lib.decDigits];split<;>simp
def DZ:∀u:Nat,1<=u->(Lib.decDigits u).head?≠some 48:=by
 intro u
 induction u using Nat.strongRecOn with
 |_ u ih=>
  intro h1;rw[Lib.decDigits];by_cases h:u<10
  ·rw[dif_pos h];intro e;have h2:=(kL h).2;have:UInt8.ofNat (48+u)=48:=by simpa using e
   rw[this]at h2;have:(48:UInt8).toNat=48:=rfl;omega
  ·rw[dif_neg h];have:=ih (u / 10) Om Om;have hn:=y9 (u / 10);cases hd:Lib.decDigits (u / 10)with
   |nil=>exact absurd hd hn
   |cons a b=>rw[hd]at this;simpa using this
def Gk:∀u:Nat,jT (Lib.decDigits u)=u:=by
 intro u
 induction u using Nat.strongRecOn with
 |_ u ih=>
  rw[Lib.decDigits];by_cases h:u<10
  ·rw[dif_pos h];have:=(kL h).2;simp only[jT,ab2,List.foldl_nil];omega
  ·rw[dif_neg h,sU,ih (u / 10) Om,(kL (Nat.mod_lt u (by decide:0<10))).2];omega
def za{n:Int}(h0:0<=n)(h1:n<=999999999):dA (dS n)=true:=by
 rw[gD];have hl:(Lib.decDigits n.toNat).length<=9:=lu (k:=8) Om;have hn:(Lib.decDigits n.toNat).length≠0:=by have:=y9 n.toNat;simpa using this
 simp only[dA,aaf hn,aaj hl,aaI,abD,aaM,abt,acD,abL];refine⟨?_,Aq _⟩;by_cases h10:n.toNat<10
 ·left;rw[Lib.decDigits,dif_pos h10];simp
 ·right;exact DZ _ Om
def Ar{n:Int}(h0:0<=n):jT (dS n)=n:=by rw[gD,Gk];omega
def DY{s:By}(h:s.all du=true):(32:UInt8)∉s/\(10:UInt8)∉s:=by
 rw[aaO]at h;constructor
 ·intro hm;have:=h _ hm;simp[du]at this
 ·intro hm;have:=h _ hm;simp[du]at this
def As(n:Int):(dS n).all du=true:=by rw[gD];exact Aq _
def vv(n:Int):(32:UInt8)∉dS n/\(10:UInt8)∉dS n:=DY (As n)
def Ah{n:Int}(h0:0<=n)(h1:n<=999999999):fQ (dS n)=n:=by rw[fQ,aas (za h0 h1)];exact Ar h0
theorem rI{c:UInt8}:∀{ws:List (By)},ws≠[]->(∀w∈ws,c∉w)->bh c (fy c ws)=ws
 |[],h,_=>absurd rfl h
 |[w],_,h=>by rw[fy];exact pT (h w Si)
 |w::v::r,_,h=>by
  rw[fL Si,nF (h w Si),rI Si λx hx=>h x (aaP _ hx)]
def wj(s:By):(hP s).all du=true:=by
 unfold hP;rw[acm,As,Bool.and_true,aaO];intro x hx;rw[List.eq_of_mem_replicate hx];rfl
def qX{c:UInt8}(h:jh c=true):c≠32/\c≠10:=by
 constructor<;>(rintro rfl;revert h;decide)
def FM{s:By}(h:dY s=true):(32:UInt8)∉s/\(10:UInt8)∉s/\s≠[]:=by
 cases s with
 |nil=>cases h
 |cons c r=>
  simp only[dY,aaM,aaO]at h;have hc:jh c=true:=by rw[jh,h.1.2,acq,acq]
  refine⟨λhm=>?_,λhm=>?_,Si⟩
  ·rcases aaN.1 hm with e|hm
   ·exact(qX hc).1 e.symm
   ·exact(qX (h.2 _ hm)).1 rfl
  ·rcases aaN.1 hm with e|hm
   ·exact(qX hc).2 e.symm
   ·exact(qX (h.2 _ hm)).2 rfl
def JI(d:Kd):(32:UInt8)∉bf d/\(10:UInt8)∉bf d/\bf d≠[]:=by cases d<;>decide
def uL(e:cQ):List (By):=e.kind:: (e.names++e.bK.map dS)
def qb(e:cQ):By:=fy 32 (uL e)
def uK{e:cQ}{d}(w:jf e d):∀x∈uL e,(32:UInt8)∉x/\(10:UInt8)∉x/\x≠[]:=by
 intro x hx;rcases aaN.1 hx with rfl|hx
 ·rw[bY w.kd];exact JI d
 rcases aam.1 hx with hx|hx
 ·exact FM (w.nm x hx)
 ·obtain⟨v,_,rfl⟩:=aaK.1 hx;exact⟨(vv v).1,(vv v).2,by rw[gD];exact y9 _⟩
def pv{e:cQ}:cC e=dS e.num++32::qb e:=fL Si
def mH{e:cQ}{d}(w:jf e d):bh 32 (qb e)=uL e:=rI (by simp[uL]) λx hx=>(uK w x hx).1
def rS{e:cQ}{d}(w:jf e d):de (uL e)=({e with num:=0},true):=by
 have hl:(e.names++e.bK.map dS).length=(aM d).length+bQ d:=by rw[aac,aak,w.nl,w.vl]
 have h1:(e.names++e.bK.map dS).take (aM d).length=e.names:=by rw[<-w.nl,ach]
 have h2:(e.names++e.bK.map dS).drop (aM d).length=e.bK.map dS:=by rw[<-w.nl,acO]
 have h3:(e.bK.map dS).map fQ=e.bK:=by
  rw[abQ]
  conv=>rhs;rw[<-List.map_id e.bK]
  exact acS λv hv=>Ah (w.vr v hv).1 (w.vr v hv).2
 rw[uL,zR w.kd hl (λx hx=>(uK w x (aaP _ hx)).2.2) (λx hx=>by
  rw[h2]at hx;obtain⟨v,hv,rfl⟩:=aaK.1 hx;exact za (w.vr v hv).1 (w.vr v hv).2),h1,h2,h3,<-bY w.kd,<-w.tx]
theorem xA{c b:UInt8}(hb:b≠c):∀{ws:List (By)},(∀x∈ws,b∉x)->b∉fy c ws
 |[],_=>by simp[fy]
 |[w],h=>by rw[fy];exact h w Si
 |w::v::r,h=>by
  rw[fL Si];intro hm;rcases aam.1 hm with hm|hm
  ·exact h w Si hm
  ·rcases aaN.1 hm with hm|hm
   ·exact hb hm
   ·exact xA hb (λx hx=>h x (aaP _ hx)) hm
def BJ{e:cQ}{d}(w:jf e d):(10:UInt8)∉cC e:=by
 rw[pv];intro hm;rcases aam.1 hm with hm|hm
 ·exact(vv _).2 hm
 ·rcases aaN.1 hm with hm|hm
  ·cases hm
  ·exact xA De (λx hx=>(uK w x hx).2.1) hm
def jR(e:cQ):By:=cC e++35::hP (cC e)
def kZ{e:cQ}:fB e=jR e++[10]:=by simp[fB,jR]
def rh{e:cQ}{d}(w:jf e d):(10:UInt8)∉jR e:=by
 intro hm;rcases aam.1 hm with hm|hm
 ·exact BJ w hm
 ·rcases aaN.1 hm with hm|hm
  ·cases hm
  ·exact(DY (wj _)).2 hm
def yZ{e:cQ}:(jR e).length=(cC e).length+8:=by
 have:=lX (cC e);rw[jR,aac,aah];omega
def xW{e:cQ}{d}(w:jf e d)(hc:eJ e=0)(n:Int):cV (jR e) n=(e,bX (decide (e.num≠n)) 11):=by
 have hl:=@yZ e;have h7:=lX (cC e);have e1:(jR e).length-8=(cC e).length:=Om
 have ht:(jR e).take ((jR e).length-8)=cC e:=by rw[e1,jR,ach]
 have hd:(jR e).drop ((jR e).length-7)=hP (cC e):=by
  rw[show(jR e).length-7=(cC e).length+1 by omega,jR,<-abB,acO];rfl
 have hg:(jR e).getD ((jR e).length-8) 0=35:=by rw[e1,jR];simp
 have hs:nU (hP (cC e))=true:=by
  have:hP (cC e)≠[]:=λz=>by rw[z]at h7;cases h7
  rw[nU,wj,aaf this];rfl
 rw[sQ Om (by rw[hg,hd,hs];simp) (by rw[ht,hd];simp),ht,pv,sW (vv _).1];show ub (dS e.num) (qb e) n=_;have hn:=w.nu;have hi:=Ah (n:=e.num) Om Om;have hev:Gg (dS e.num) (qb e)=e:=by rw[Gg,mH w,rS w,hi]
 rw[ub,hev,mH w,rS w,za Om Om,hc,hi];rfl
def rX:Nat->List cQ->Prop
 |_,[]=>True
 |k,e::r=>(eJ e=0/\e.num=(k:Int)+1)/\rX (k+1) r
theorem k5:∀{a b:List cQ}{k:Nat},rX k (a++b)↔rX k a/\rX (k+a.length) b
 |[],b,k=>by simp[rX]
 |e::a,b,k=>by
  rw[abm,rX,rX,k5,aah,show k+1+a.length=k+(a.length+1) by omega];simp only[and_assoc]
theorem zM:∀{l:List cQ}{H:iZ}{i:Nat},(fW H l i).2.2=0->rX H.cK.length l
 |[],_,_,_=>trivial
 |e::r,H,i,h=>by
  rw[fW]at h;by_cases hb:eM H e=0
  ·rw[aao (λz=>z hb)]at h;have hh:=zM h;have:(iY H e).cK=H.cK++[e]:=by unfold iY;split<;>rfl
   rw[this,aac]at hh;exact⟨⟨(tg hb).1,(vG (tg hb).2).1⟩,hh⟩
  ·rw[aas hb]at h;exact absurd h hb
def uR{l:List cQ}(h:(bF l).2.2=0):rX 0 l:=by
 unfold bF at h;split at h
 ·exact absurd h De
 ·exact zM h
def Ba{f:Nat}{e:cQ}{t:By}{l:List cQ}{a:Nat}(hc:eJ e=0)(hn:e.num=(l.length:Int)+1):gk (f+1) (fB e++t) l a=gk f t (l++[e]) (a+(fB e).length):=by
 obtain⟨d,w⟩:=ko hc;have hr:fB e++t=jR e++10::t:=by rw[kZ];simp
 have hne:fB e++t≠[]:=by rw[hr];simp
 rw[gk,aao hne,hr,sW (rh w)];simp only[aaD,aa2,aay,xW w hc,hn];rw[aao (λz=>z (by simp[bX]))];rw[kZ,aac,aav,Nat.add_assoc]
theorem tV:∀{es:List cQ}{f:Nat}{t:By}{l:List cQ}{a:Nat},rX l.length es->es.length<=f->gk f (aJ es++t) l a=gk (f-es.length) t (l++es) (a+(aJ es).length)
 |[],f,t,l,a,_,_=>by simp[aJ]
 |e::r,f,t,l,a,ho,hf=>by
  obtain⟨⟨hc,hn⟩,ho⟩:=ho;rw[aah]at hf;obtain⟨f,rfl⟩:∃g,f=g+1:=⟨f-1,Om⟩;have hq:aJ (e::r)=fB e++aJ r:=by simp[aJ]
  rw[hq,aae,Ba hc hn,tV (by rw[aac];exact ho) Om];rw[aae,List.singleton_append,aac,aah,Nat.add_assoc,show f+1-(r.length+1)=f-r.length by omega]
theorem yY:∀{l:List cQ},l.length<=(aJ l).length
 |[]=>aar _
 |e::r=>by
  have h2:=yY (l:=r);have q:aJ (e::r)=fB e++aJ r:=by simp[aJ]
  have:=uV (e:=e);rw[q,aac,aah];omega
def oI{es:List cQ}{t:By}(ho:rX 0 es)(hl:(aJ es++t).length<=1000000):∃f,t.length<f/\cD (aJ es++t)=gk f t es (aJ es).length:=by
 have hg:=yY (l:=es);refine⟨(aJ es++t).length+1-es.length,by rw[aac];omega,?_⟩;rw[cD,aao Om,tV (l:=[]) ho (by rw[aac];omega),abF,aa4]
def wG{es:List cQ}(ho:rX 0 es)(hl:(aJ es).length<=1000000):cD (aJ es)=(es,((aJ es).length:Int),0):=by
 obtain⟨f,hf,h⟩:=oI (t:=[]) ho (by simpa using hl);rw[aaF]at h;rw[h];cases f with
 |zero=>rfl
 |succ f=>rw[gk,aas rfl]
def jM{e:cQ}{r:List cQ}:aJ (e::r)=fB e++aJ r:=by simp[aJ]
def C9{es:List cQ}{n w:Nat}(ho:rX 0 es)(hl:(aJ es).length<=1000000)(hw:w<=es.length)(h1:(aJ (es.take w)).length<=n)(h2:w<es.length->n<(aJ (es.take (w+1))).length)(hn:n<=(aJ es).length):
  (cD ((aJ es).take n)).1=es.take w/\((cD ((aJ es).take n)).2.2=0\/(cD ((aJ es).take n)).2.2=28):=by
 have hs:es=es.take w++es.drop w:=(aaT w es).symm;have ht:(aJ es).take n=aJ (es.take w)++(aJ (es.drop w)).take (n-(aJ (es.take w)).length):=by
  conv=>lhs;rw[hs,gQ]
  rw[List.take_append,aaV h1]
 have ho1:rX 0 (es.take w):=(k5.1 (hs▸ho)).1;have hno:(10:UInt8)∉(aJ (es.drop w)).take (n-(aJ (es.take w)).length):=by
  by_cases hlt:w<es.length
  ·have h3:=h2 hlt;have hd:es.drop w=es[w]::es.drop (w+1):=abj hlt;have ht1:es.take (w+1)=es.take w++[es[w]]:=fD hlt;have ho2:rX (0+(es.take w).length) (es.drop w):=(k5.1 (hs▸ho)).2;rw[hd]at ho2;obtain⟨d,we⟩:=ko ho2.1.1;rw[ht1,gQ,sj,aac,kZ,aac,aav]at h3;rw[hd,jM,kZ,aae,List.take_append_of_le_length Om]
   exactλhm=>rh we (abc hm)
  ·rw[List.drop_eq_nil_of_le Om];simp[aJ]
 rw[ht];generalize (aJ (es.drop w)).take (n-(aJ (es.take w)).length)=t at ht hno ⊢;have htl:(aJ (es.take w)++t).length<=1000000:=by rw[<-ht,aaZ];omega
 obtain⟨f,hf,h⟩:=oI ho1 htl;rw[h];cases f with
 |zero=>omega
 |succ f=>
  rw[gk];by_cases hz:t=[]
  ·rw[aas hz];exact⟨rfl,.inl rfl⟩
  ·rw[aao hz,x6 hno];exact⟨rfl,.inr rfl⟩
def yo{es:List cQ}{n w k:Nat}(hk:k<es.length)(hw:w<=k)(h1:(aJ (es.take w)).length<=n)(h2:w<k->n<(aJ (es.take (w+1))).length):
  ((aJ (es.take (k+1))).length<=n->w=k)/\(¬(aJ (es.take (k+1))).length<=n->w<k+1->n<(aJ (es.take (w+1))).length):=by
 have mono:∀{a b:Nat},a<=b->(aJ (es.take a)).length<=(aJ (es.take b)).length:=λ{a b} h=>by
  have:es.take b=es.take a++(es.take b).drop a:=by
   conv=>lhs;rw[<-aaT a (es.take b)]
   rw[acN,abT h]
  rw[this,gQ,aac];omega
 refine⟨λh=>?_,λh hlt=>?_⟩
 ·by_cases hq:w<k
  ·have:=h2 hq;have:=mono (a:=w+1) (b:=k+1) Om;omega
  ·omega
 ·by_cases hq:w<k
  ·exact h2 hq
  ·have:w=k:=Om
   rw[this];omega
theorem wm:∀(s:By) (a b:Int),0<=a/\a<9999749->0<=b/\b<9999749->s.foldl (λx c=>(339*x+(c.toNat:Int)).tmod 9999749) a=s.foldl (λx c=>(339*x+(c.toNat:Int)).tmod 9999749) b->a=b
 |[],_,_,_,_,h=>h
 |c::s,a,b,ha,hb,h=>by
  rw[ab2,ab2]at h;have e1:(339*a+(c.toNat:Int)).tmod 9999749=(339*a+(c.toNat:Int))%9999749:=abO Om;have e2:(339*b+(c.toNat:Int)).tmod 9999749=(339*b+(c.toNat:Int))%9999749:=abO Om;have:=wm s _ _ (by rw[e1];omega) (by rw[e2];omega) h;rw[e1,e2]at this;omega
def CA{s:By}{p:Nat}{c:UInt8}(hp:p<s.length)(h:gg (s.set p c)=gg s):s[p]=c:=by
 have e1:s=s.take p++s[p]::s.drop (p+1):=by rw[<-abj hp,aaT]
 have e2:s.set p c=s.take p++c::s.drop (p+1):=ace.trans (aas hp);rw[e2]at h
 conv at h=>rhs;rw[e1]
 have hb:=kT (s.take p);unfold gg at h hb;rw[ack,ack,ab2,ab2]at h;generalize (s.take p).foldl (λx c=>(339*x+(c.toNat:Int)).tmod 9999749) 1=a at h hb;have q1:(339*a+(c.toNat:Int)).tmod 9999749=(339*a+(c.toNat:Int))%9999749:=abO Om;have q2:(339*a+(s[p].toNat:Int)).tmod 9999749=(339*a+(s[p].toNat:Int))%9999749:=abO Om;have:=wm _ _ _ (by rw[q1];omega) (by rw[q2];omega) h;rw[q1,q2]at this;have l1:=c.toNat_lt;have l2:=s[p].toNat_lt;exact acF.1 Om
theorem uB:∀n:Nat,jT (List.replicate n (48:UInt8))=0
 | 0=>rfl
 |n+1=>by
  rw[List.replicate_succ'];rw[sU,uB n];rfl
def wi(s:By):jT (hP s)=gg s:=by
 have hb:=kT s;have h:=Ar hb.1;unfold hP;generalize dS (gg s)=t at h ⊢;have hz:=uB (7-t.length);unfold jT at hz h ⊢;rw[ack,hz,h]
def BA{e:cQ}{p:Nat}{c:UInt8}{n:Int}(hp:p<(jR e).length)(hc:(jR e)[p]≠c):(cV ((jR e).set p c) n).2≠0:=by
 intro h;obtain⟨_,h2⟩:=sP h;generalize (cV ((jR e).set p c) n).1=x at h2;rw[kZ]at h2;have h2:=List.append_cancel_right h2;have hl:(cC x).length=(cC e).length:=by
  have:=aaR List.length h2;rw[aaY,yZ,yZ]at this;omega
 have hb:cC x=((jR e).set p c).take (cC e).length:=by rw[<-h2,jR,<-hl,ach]
 have hd:hP (cC x)=((jR e).set p c).drop ((cC e).length+1):=by rw[<-h2,jR,<-hl,<-abB,acO];rfl
 by_cases hlt:p<(cC e).length
 ·have T3:cC x=(cC e).set p c:=by rw[hb,List.take_set,jR,ach]
  have XP:hP (cC x)=hP (cC e):=by
   rw[hd,List.drop_set_of_lt Om,jR,<-abB,acO];rfl
  have hs:gg ((cC e).set p c)=gg (cC e):=by rw[<-T3,<-wi,XP,wi]
  have:=CA hlt hs;refine hc ?_;rw[<-this];simp only[jR];rw[List.getElem_append_left hlt]
 ·have T3:cC x=cC e:=by rw[hb,List.take_set,List.set_eq_of_length_le (by rw[aaZ];omega),jR,ach]
  have hx:jR x=jR e:=by rw[jR,T3];rfl
  rw[hx]at h2;refine hc ?_;have:=ab8 (l:=jR e) (i:=p) (a:=c) (by rw[aaY];exact hp);rw[<-this];exact List.getElem_of_eq h2 hp
theorem Dz:∀{es:List cQ}{k:Nat},k<(aJ es).length->∃a e b p,es=a++e::b/\k=(aJ a).length+p/\p<(fB e).length
 |[],k,h=>by simp[aJ]at h
 |e::r,k,h=>by
  rw[jM,aac]at h;by_cases hk:k<(fB e).length
  ·exact⟨[],e,r,k,rfl,by simp[aJ],hk⟩
  ·obtain⟨a,x,b,p,h1,h2,h3⟩:=Dz (es:=r) (k:=k-(fB e).length) Om;exact⟨e::a,x,b,p,by rw[h1];rfl,by rw[jM,aac];omega,h3⟩
def C8{es:List cQ}{k:Nat}{c:UInt8}(ho:rX 0 es)(hl:(aJ es).length<=1000000)(hk:k<(aJ es).length)(h10:(aJ es)[k]≠10)(hc:c≠(aJ es)[k])(hc10:c≠10):
  (cD ((aJ es).take k++[c]++(aJ es).drop (k+1))).2.2≠0/\(cD ((aJ es).take k++[c]++(aJ es).drop (k+1))).2.1≠((aJ es).length:Int):=by
 have hq:(aJ es).take k++[c]++(aJ es).drop (k+1)=(aJ es).set k c:=by
  rw[aae];exact(ace.trans (aas hk)).symm
 rw[hq];obtain⟨a,e,b,p,rfl,rfl,hp⟩:=Dz hk;obtain⟨oa,ob⟩:=k5.1 ho;obtain⟨d,we⟩:=ko ob.1.1;have Z4:aJ (a++e::b)=aJ a++(jR e++10::aJ b):=by rw[gQ,jM,kZ];simp
 have hg:∀h,(aJ (a++e::b))[(aJ a).length+p]'h=(jR e++10::aJ b)[p]'(by rw[kZ]at hp;simp at hp ⊢;omega):=λh=>by
  simp only[Z4];rw[List.getElem_append_right Om];simp
 rw[hg]at h10 hc;rw[kZ,aac,aav]at hp;have VD:p<(jR e).length:=by
  by_cases hz:p<(jR e).length
  ·exact hz
  ·refine absurd ?_ h10;have:p=(jR e).length:=Om
   subst this;rw[List.getElem_append_right (aar _)];simp
 rw[List.getElem_append_left VD]at hc;have aX:(aJ (a++e::b)).set ((aJ a).length+p) c=aJ a++((jR e).set p c++10::aJ b):=by
  rw[Z4,aa9 _ _ Om,Nat.add_sub_cancel_left,acK _ _ VD]
 have hno:(10:UInt8)∉(jR e).set p c:=λhm=>by
  rcases abU hm with hm|hm
  ·exact rh we hm
  ·exact hc10 hm.symm
 rw[aX];obtain⟨f,hf,h⟩:=oI (es:=a) (t:=(jR e).set p c++10::aJ b) oa (by rw[<-aX,aaY];exact hl);have hb:(cV ((jR e).set p c) ((a.length:Int)+1)).2≠0:=BA VD (abG hc);have hne:(jR e).set p c++10::aJ b≠[]:=Si
 rw[h];cases f with
 |zero=>omega
 |succ f=>
  rw[gk,aao hne,sW hno];simp only[aaD,aa2,aay];rw[aas hb];refine⟨hb,?_⟩;rw[Z4];simp only[aac,aah];omega
def Bb{a b:List cQ}{e x:cQ}(ho:rX 0 (a++e::x::b))(hl:(aJ (a++e::x::b)).length<=1000000):(cD (aJ a++aJ (x::b))).2.2=11:=by
 obtain⟨oa,ob⟩:=k5.1 ho;obtain⟨⟨cx,nx⟩,_⟩:=ob.2;obtain⟨d,wx⟩:=ko cx;have hb:(cV (jR x) ((a.length:Int)+1)).2=11:=by
  rw[xW wx cx];show bX (decide (x.num≠(a.length:Int)+1)) 11=11;rw[aaj Om];rfl
 obtain⟨f,hf,h⟩:=oI (es:=a) (t:=aJ (x::b)) oa (by
  rw[gQ,jM,aac,aac]at hl;rw[aac];omega)
 have hr:aJ (x::b)=jR x++10::aJ b:=by rw[jM,kZ];simp
 have hne:aJ (x::b)≠[]:=by rw[hr];simp
 rw[h];cases f with
 |zero=>omega
 |succ f=>
  rw[gk,aao hne,hr,sW (rh wx)];simp only[aaD,aa2,aay,hb];rfl
def J6{H:iZ}{e:cQ}(hb:eM H e=0)(hl:H.cK.length<1000)(hs:(qb e).length<=4096):sR H (qb e)=(iY H e,[100,111,110,101,32]++dS e.num,0):=by
 obtain⟨hc,ha⟩:=tg hb;obtain⟨d,w⟩:=ko hc;have hn:=(vG ha).1;have hne:qb e≠[]:=λz=>by
  have:=mH w;rw[z]at this;have h2:=(uK w e.kind (by simp[uL])).2.2;simp only[bh,uL]at this;exact h2 (List.cons.inj this).1.symm
 have hh:(uL e).headD []=e.kind:=rfl;have hq:jI e.kind=none:=I5 w.kd;have he:({ ({e with num:=0}:cQ)with num:=(H.cK.length:Int)+1}:cQ)=e:=by rw[<-hn]
 unfold sR;rw[aao Om,aao hne,mH w,hh,hq];simp only[];rw[w.kd];simp only[];rw[rS w];simp only[aaD,aa2,aay];rw[aao Om];simp only[he];rw[aao (λz=>z hb),hn]
def Av{e:cQ}:(cC e).length=(dS e.num).length+1+(qb e).length:=by
 rw[pv,aac,aah];omega
section
variable {P:Program}(T:eD P) {h:ah}
include T
def SL{V b}{W:ah}(o:vY W b V)(w:jU V.bN)(hl:V.cK.length<=1000)(pw:Pw W)(X:vW P)(Z:nB P)(s:By)(h1:¬4096<s.length)(h2:s≠[]){q0}(hq0:jI ((bh 32 s).headD [])=some q0):
  ay P 43 [.ptr b 0,.str s] W (λv _=>v=.dQ [.str (sR V.bN s).2.1,.int .i64 (sR V.bN s).2.2]):=by
 refine .of T.mix (acP T.c43 (aaR some N6)) ?_;obtain⟨ts,Tp⟩:∃ts,ts=aR 97 [.ptr b 0,.str s]:=⟨_,rfl⟩;have hlen:ts.length=97:=by rw[Tp];rfl
 have t0:slot ts 0=.ptr b 0:=by rw[Tp];rfl
 have t1:slot ts 1=.str s:=by rw[Tp];rfl
 obtain⟨RR,Ug⟩:∃RR,RR=Ij 6:=⟨_,rfl⟩;show WC P bP _ [] (aR 97 [.ptr b 0,.str s]) W (FQ _ (λv k=>Ext W k/\v=.dQ [.str (sR V.bN s).2.1,.int .i64 (sR V.bN s).2.2]));rw[<-Tp,<-Ug];clear Tp;have Xv:V.cO.length<=1000:=by
  have e1:=w.ln;have e2:=w.le;exact O6
 have Us:=y8 (H:=V.bN) (s:=s);unfold Ik Ij fn43;simp only[ai.j,ai.s,ai.r,ai.dr,ai.tl,ai.hd];refine Rs (A3 t0 t1 @p8) ?_;refine WF.ce T.c85 (r85 T _ _) λg1=>?_
 refine Rs (A2 t0 t1) ?_;refine WF.ce T.c85 (r85 T _ _) λg2=>?_
 refine Rs (A2 t0 t1) ?_;refine WF.ce T.c74 (r74 T (cE [_,_]) Si) λg3=>?_
 have d1:decide ((4096:Int)<(s.length:Int))=false:=aaf Om;have d2:decide (s=[])=false:=aaf h2;rw[aao h1,aao h2]at Us;have e0:bt [bX false 26,bX false 25]=0:=rfl;have d0:decide ((0:Int)≠0)=false:=rfl;refine Rs (A6 t0 t1 @d1 @d2 e0 @d0) ?_;refine WF.res T.c64 (r64 T X s 32 Om) ?_;intro sv g4 hv;have hwn:(bh 32 s).length<=s.length+1:=by
  exact Lw
 have hne:0<(bh 32 s).length:=abX.2 iD;obtain⟨ws,VA⟩:∃ws,ws=bh 32 s:=⟨_,rfl⟩;rw[<-VA]at hv hwn hne Us hq0;have Yp:ws[0]=ws.headD []:=by
  clear hv hwn Us VA hq0;cases ws with|nil=>simp at hne|cons a r=>rfl
 obtain⟨Y,hY⟩:∃Y,Y=W++g1++g2++[ak.cells [.int .i64 (bX false 26),.int .i64 (bX false 25)] true true]++g3++g4:=⟨_,rfl⟩;rw[<-hY]at hv ⊢;have Ww:Ext W Y:=by rw[hY];exact Xx
 have n7:=hv.n7 (kk:=.i64) hne;have ld0:∀{k:ah},Ext Y k->ao none (cT sv 1 0) (λb=>k[b]?)=some (.str (ws.headD []),.ar):=λ{k} e=>by rw[<-Yp];exact hv.jS (i:=0) hne rfl e
 refine Rs (A2 t0 t1) ?_;refine WF.res T.c109 (r109 T) ?_;rintro _ g5 ⟨rfl,hg⟩;have hg:g5=[.bg Bg]:=abM hg;subst hg;have lk:∀{z:AV},iC .s z true (.map Y.length) (.str (ws.headD [])) (λb=>(Y++[ak.bg Bg])[b]?)=lK z true ((jI (ws.headD [])).map jJ):=yX (by rw[aan (aar _),abi];rfl);obtain⟨i,nm,wt⟩:=q0;rw[hq0]at lk Us;have TX:∀{z:AV},_=some (AV.dQ [.agg [.bool nm,.int .i64 (wt:Nat),.func (.func (qF i)) [] []],.bool true],ja.ar):=@lk;refine Rs (A7 t0 t1 @n7 @ld0 @bV @TX @iF) ?_;refine WF.ce T.c110 (r110 T (o.ext (Ww.trans Xx)) w Xv Z (pw.ext (Ww.trans Xx)) (hv.ext Xx) hne Om hq0) λg6=>?_
 refine Rs t0 ?_;exact⟨Ww.trans Xx,by rw[Us]⟩
def r63{x}(ox:bd h x)(b:R3 x.ev)(hl:(cC x.ev).length<=2^40):ay P 63 [.agg x.row] h (λv _=>v=.str (qb x.ev)):=by
 refine .lI 11 T.mix T.c63 ?_;intro ts hlen t0;unfold fn63 gA;have To:=@bd.box _ _ ox;have hc:=@Av x.ev;have w1:IntKind.i64.wrap (((dS x.ev.num).length:Int)+1)=(((dS x.ev.num).length+1:Nat):Int):=aY Om Om;have s1:∀{kk:IntKind},nG (.str (cC x.ev)) (some (.int kk (((dS x.ev.num).length+1:Nat):Int))) none=some (.str (qb x.ev)):=λ{kk}=>by rw[pv];exact mI
 have bs:=@bd.D7 _ _ ox;refine Rs (A4 t0 @To @bs @bZ) ?_;refine WF.ce T.c103 (r103 T (ox.ext Xx) b hl) λg1=>?_
 refine Rs (A3 t0 @kj @To) ?_;refine WF.ce T.c108 (r108 T (k:=14) b.num.1 b.num.2 Om) λg2=>?_
 exact Rs (A3 t0 @w1 @s1) Tv
end
def zI(e:cQ):Bool:=decide (e.kind.length<=40)&&decide (e.names.length<=6)&&decide (e.bK.length<=8)&&decide (e.text.length<=200)&&e.names.all λx=>decide (x.length<=40)
section
variable {P:Program}(T:eD P) {h:ah}
include T
def r14{L s}(o:dJ h L s)(hl:L.length<2^63)(hn:∀x∈L,x.ev.names.length<2^63){n}(h0:n<=1000):ay P 14 [s,.i n] h (λv _=>v=.bool (kf (L.map EV.ev) n)):=by
 refine .eQ 71 T.mix T.c14 ?_;intro ts hlen t0 t1;unfold fn14 gA;by_cases h1:n<L.length
 ·have q1:decide (n<(L.length:Int))=true:=aaj h1;refine Rs (A4 t0 t1 o.sl.aK q1) ?_;rw[kf,aaf (by simpa using h1)];rfl
 have q1:decide (n<(L.length:Int))=false:=aaf h1;have hsh:kf (L.map EV.ev) n=L.all (λy=>zI y.ev):=by
  rw[kf,aaj (by simp;omega),abD,List.all_map];rfl
 rw[hsh];refine Rs (A4 t0 t1 o.sl.aK q1) ?_;refine WL.inv T.mix (λm ts h'=>∃k:Nat,k<=L.length/\m=L.length-k/\h' =h/\L.all (λy=>zI y.ev)=(L.drop k).all (λy=>zI y.ev)/\ts.length=71/\slot ts 0=s/\slot ts 5=.i k) L.length
  ⟨0,Om,rfl,rfl,rfl,Sn,(Sq t0),gX⟩ ?_
 clear t0 t1 hlen;rintro _ ts h' ⟨k,hk,rfl,rfl,hi,hlen,t0,t5⟩;by_cases hlt:k<L.length
 case neg=>
  have e3:=fC hlt;have e4:k=L.length:=Om
  rw[e4,abh]at hi;refine Rs (A4 t0 t5 o.sl.aK e3) ?_;rw[hi];rfl
 have e3:=eO hlt;have e5:=wrapN (n:=k) Om;have ik:=o.sl.dK (kk:=.i64) hlt;obtain⟨x,hx⟩:∃x,x=L[k]:=⟨_,rfl⟩;have Uc:x∈L:=by rw[hx];exact aat _
 have ox:=o.all x Uc;have hd:L.drop k=x::L.drop (k+1):=by rw[hx];simp
 rw[hd,abC]at hi;have l1:∀{kk:ah},Ext h' kk->ao none (j9 s 5 k 1) (λb=>kk[b]?)=some (.str x.ev.kind,.ar):=λ{kk} e=>o.sl.mi hlt (by rw[<-hx];rfl) e
 have l2:∀{kk:ah},Ext h' kk->ao none (j9 s 5 k 2) (λb=>kk[b]?)=some (x.sn,.ar):=λ{kk} e=>o.sl.mi hlt (by rw[<-hx];rfl) e
 have l3:∀{kk:ah},Ext h' kk->ao none (j9 s 5 k 3) (λb=>kk[b]?)=some (x.sv,.ar):=λ{kk} e=>o.sl.mi hlt (by rw[<-hx];rfl) e
 have l4:∀{kk:ah},Ext h' kk->ao none (j9 s 5 k 4) (λb=>kk[b]?)=some (.str x.ev.text,.ar):=λ{kk} e=>o.sl.mi hlt (by rw[<-hx];rfl) e
 have dc:∀a b:Nat,decide ((b:Int)<(a:Int))= !decide (a<=b):=λa b=>by
  by_cases hc:a<=b
  ·rw[aaj hc,aaf Om];rfl
  ·rw[aaf hc,aaj Om];rfl
 have c1:decide ((40:Int)<(x.ev.kind.length:Int))= !decide (x.ev.kind.length<=40):=dc _ 40;have c2:decide ((6:Int)<(x.ev.names.length:Int))= !decide (x.ev.names.length<=6):=dc _ 6;have c3:decide ((8:Int)<(x.ev.bK.length:Int))= !decide (x.ev.bK.length<=8):=dc _ 8;have c4:decide ((200:Int)<(x.ev.text.length:Int))= !decide (x.ev.text.length<=200):=dc _ 200;have bad:zI x.ev=false->L.all (λy=>zI y.ev)=false:=λhb=>by rw[hi,hb];rfl
 by_cases b1:x.ev.kind.length<=40
 case neg=>
  have d1:decide (x.ev.kind.length<=40)=false:=aaf b1;refine Rs (A9 t0 t5 o.sl.aK e3 @ik @l1 @c1 @d1 @aaI) ?_;rw[bad (by simp only[zI,d1,acg])]
 have d1:decide (x.ev.kind.length<=40)=true:=aaj b1;by_cases b2:x.ev.names.length<=6
 case neg=>
  have d2:decide (x.ev.names.length<=6)=false:=aaf b2;refine Rs (B5 t0 t5 o.sl.aK e3 @ik @l1 @l2 @c1 @d1 @c2 @d2 ox.n.aK @aaI @aaD) ?_;rw[bad (by simp only[zI,d2,Bool.and_false,acg])]
 have d2:decide (x.ev.names.length<=6)=true:=aaj b2;by_cases b3:x.ev.bK.length<=8
 case neg=>
  have d3:decide (x.ev.bK.length<=8)=false:=aaf b3;refine Rs (Iu t0 t5 o.sl.aK e3 @ik @l1 @l2 @l3 @c1 @d1 @c2 @d2 @c3 @d3 ox.n.aK ox.v.aK @aaI @aaD) ?_;rw[bad (by simp only[zI,d3,Bool.and_false,acg])]
 have d3:decide (x.ev.bK.length<=8)=true:=aaj b3;by_cases b4:x.ev.text.length<=200
 case neg=>
  have d4:decide (x.ev.text.length<=200)=false:=aaf b4;refine Rs (SQ t0 t5 o.sl.aK e3 @ik @l1 @l2 @l3 @l4 @c1 @d1 @c2 @d2 @c3 @d3 @c4 @d4 ox.n.aK ox.v.aK @aaI @aaD) ?_;rw[bad (by simp only[zI,d4,Bool.and_false,acg])]
 have d4:decide (x.ev.text.length<=200)=true:=aaj b4;have ZW:zI x.ev=x.ev.names.all λz=>decide (z.length<=40):=by simp only[zI,d1,d2,d3,d4,abD]
 rw[ZW]at hi bad;refine Rs (OX t0 t5 o.sl.aK e3 @ik @l1 @l2 @l3 @l4 @c1 @d1 @c2 @d2 @c3 @d3 @c4 @d4 ox.n.aK ox.v.aK @aaD) ?_;refine WL.inv T.mix (λm ts h1=>∃j:Nat,j<=x.ev.names.length/\m=x.ev.names.length-j/\h1=h'/\(x.ev.names.all λz=>decide (z.length<=40))=(x.ev.names.drop j).all (λz=>decide (z.length<=40))/\ts.length=71/\slot ts 0=s/\slot ts 5=.i k/\slot ts 6=.i j) x.ev.names.length
  ⟨0,Om,rfl,rfl,rfl,Sn,(Sq t0),(Sq t5),gX⟩ ?_
 clear t0 t5 hlen;rintro _ ts h1 ⟨j,hj,rfl,rfl,hij,hlen,t0,t5,t6⟩;by_cases VF:j<x.ev.names.length
 ·have f3:decide ((j:Int)<x.ev.names.length)=true:=aaj Om;have f5:IntKind.i64.wrap ((j:Int)+1)=((j+1:Nat):Int):=wrapN Om;have ij:=ox.n.dK (kk:=.i64) VF;have ln:=ox.n.jS (i:=j) (x:=.str x.ev.names[j]) VF rfl (Ext.refl _);have c5:decide ((40:Int)<(x.ev.names[j].length:Int))= !decide (x.ev.names[j].length<=40):=dc _ 40;have Wd:x.ev.names.drop j=x.ev.names[j]::x.ev.names.drop (j+1):=Si
  rw[Wd,abC]at hij;cases hz:decide (x.ev.names[j].length<=40)with
  |true=>
   rw[hz,abD]at hij
   repeat (first|simp (config:={maxSteps:=1000000}) only[aU,aX,bz,bA,reduceAdd,reduceMul,reduceLeDiff,reduceEqDiff,bC,hlen,aay,aaB,t0,t5,t6,ik,l2,ox.n.aK,f3,ij,ln,c5,hz,aaD,f5]|simp (config:={maxSteps:=1000000}) (disch:=first|(simp only[aac,aah,aal]<;>omega)|rfl|omega|fail) only[gp,aU,aX,bz,bA,reduceAdd,reduceMul,reduceLeDiff,reduceEqDiff,bC,hlen,aay,aaB,t0,t5,t6,ik,l2,ox.n.aK,f3,ij,ln,c5,hz,aaD,f5])
   exact⟨_,Om,j+1,Om,rfl,hij,rfl⟩
  |false=>
   rw[hz,acg]at hij
   repeat (first|simp (config:={maxSteps:=1000000}) only[aU,aX,bz,bA,reduceAdd,reduceMul,reduceLeDiff,reduceEqDiff,bC,hlen,aay,aaB,t0,t5,t6,ik,l2,ox.n.aK,f3,ij,ln,c5,hz,aaI]|simp (config:={maxSteps:=1000000}) (disch:=first|(simp only[aac,aah,aal]<;>omega)|rfl|omega|fail) only[gp,aU,aX,bz,bA,reduceAdd,reduceMul,reduceLeDiff,reduceEqDiff,bC,hlen,aay,aaB,t0,t5,t6,ik,l2,ox.n.aK,f3,ij,ln,c5,hz,aaI])
   rw[bad hij]
 ·have f3:decide ((j:Int)<x.ev.names.length)=false:=aaf Om;have f4:j=x.ev.names.length:=Om
  rw[f4,abh]at hij;rw[hij,List.all_nil,abD]at hi;refine Rs (A8 t0 t5 t6 @ik @l2 ox.n.aK @f3 e5) ?_;exact⟨_,Om,k+1,Om,rfl,hi,rfl⟩
end
end Go.Abs
