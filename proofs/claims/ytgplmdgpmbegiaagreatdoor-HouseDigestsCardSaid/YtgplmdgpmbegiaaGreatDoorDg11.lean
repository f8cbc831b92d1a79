/- The law HouseDigests, walked. No condition. · The law HouseDigests and the examples together. No condition. -/
import Derived.Test.YtgplmdgpmbegiaaGreatDoorDg10
import Derived.Test.YtgplmdgpmbegiaaGreatDoorDg9
import Derived.Test.YtgplmdgpmbegiaaGreatDoorDg0
set_option maxHeartbeats 4000000
set_option linter.all false
open Nat (reduceAdd reduceMul reduceLeDiff reduceEqDiff)
namespace Go.Abs
structure Jn(W:af)(A:List EV)(u:AV)(t:Int)(S:List Int)(P:List mA):Prop where
 ok:eA W A u
 sh:uj A
 dg:nv (A.map EV.ev) t S P
 ln:A.length<=20
theorem Jn.ext{W W2 A u t S P}(j:Jn W A u t S P)(e:Ext W W2):Jn W2 A u t S P:=⟨j.ok.ext e,j.sh,j.dg,j.ln⟩
theorem Jn.add{W W2 A u v t t' S S' P P'}{x:EV}(j:Jn W A u t S P)(o:eA W2 (A++[x]) v)(hx:x.ev.names.length<=2^30/\x.ev.cK.length<=2^30)(d:nv (A.map EV.ev++[x.ev]) t' S' P')(hl:A.length<20):Jn W2 (A++[x]) v t' S' P':=
 ⟨o,j.sh.add Om hx,by rw[Tx];exact d,by simp;omega⟩
def jL{h:af}(M:List (By)):aA (h++[ai.cells (M.map an).flatten true true]) (.slice h.length 0 M.length 1) 1 (M.map an):=by
 have:=(Fr.push (es:=1) (N:=0) (h:=h) (TJ _) (M.map an) (by simp[an])).aN
 rwa [Tu]at this
def jM{h:af}(M:List Int):aA (h++[ai.cells (M.map aB).flatten true true]) (.slice h.length 0 M.length 1) 1 (M.map aB):=by
 have:=(Fr.push (es:=1) (N:=0) (h:=h) (TJ _) (M.map aB) (by simp[aB])).aN
 rwa [Tu]at this
def Am(n:Int):Nat->ai
 | 0=>.cells [.str [116]] true true
 | 1=>.cells [.int .i64 0,.int .i64 9] true true
 | 2=>.cells [.str [108]] true true
 | 3=>.cells [.int .i64 0,.int .i64 1] true true
 | 4=>.cells [.str [115],.str [108],.str [116]] true true
 | 5=>.cells [.int .i64 1] true true
 | 6=>.cells [.str [108]] true true
 | 7=>.cells [.int .i64 1] true true
 | 8=>.cells [.str [109],.str [108]] true true
 | 9=>.cells [.int .i64 1] true true
 | 10=>.cells [.str [106],.str [109]] true true
 |_=>.cells [.int .i64 1,.int .i64 n] true true
def wJ(W:af)(n:Int):Nat->af
 | 0=>W
 |j+1=>wJ W n j++[Am n j]
theorem ob{W:af}{n:Int}(j:Nat):∀k,Ext (wJ W n j) (wJ W n (j+k))
 | 0=>Ext.refl _
 |k+1=>(ob j k).trans ⟨_,rfl⟩
def JL(W:af)(n:Int)(e:db)(j:Nat):EV:=⟨e,.slice (wJ W n j).length 0 e.names.length 1,.slice (wJ W n (j+1)).length 0 e.cK.length 1⟩
def D4(W:af)(n:Nat):List EV:=(Jb n).mapIdx λi e=>JL W n e (2*i)
def GA(W:af)(n:Nat):af:=wJ W n 12++[.cells ((D4 W n).map EV.row).flatten true true]
def FO{W:af}{n:Nat}(h1:1<=n)(h8:n<=8):Jn (GA W n) (D4 W n) (.slice (wJ W n 12).length 0 6 5) 1 (List.replicate n (-1)) []:=by
 have hm:(D4 W n).map EV.ev=Jb n:=rfl;refine⟨⟨?_,?_⟩,⟨by show 6<=2^30;decide,?_⟩,by rw[hm];exact Al h1 h8,by show 6<=20;decide⟩
 ·have:=(Fr.push (es:=5) (N:=0) (h:=wJ W n 12) (TJ _) ((D4 W n).map EV.row) (by intro x hx;obtain⟨y,_,rfl⟩:=TI.1 hx;rfl)).aN;exact this
 ·have key:∀(j:Nat) (e:db),j+2<=12->Am n j=.cells (e.names.map an).flatten true true->Am n (j+1)=.cells (e.cK.map aB).flatten true true->a8 (GA W n) (JL W n e j):=λj e hj b1 b2=>by
   have x1:Ext (wJ W n (j+1)) (GA W n):=(show Ext _ (wJ W n 12)from by have:=ob (W:=W) (n:=n) (j+1) (12-(j+1));rwa [show j+1+(12-(j+1))=12 by omega]at this).trans ⟨_,rfl⟩;have x2:Ext (wJ W n (j+2)) (GA W n):=(show Ext _ (wJ W n 12)from by have:=ob (W:=W) (n:=n) (j+2) (12-(j+2));rwa [show j+2+(12-(j+2))=12 by omega]at this).trans ⟨_,rfl⟩;refine⟨aA.ext ?_ x1,aA.ext ?_ x2⟩
   ·show aA (wJ W n j++[Am n j]) _ _ _;rw[b1];exact jL _
   ·show aA (wJ W n (j+1)++[Am n (j+1)]) _ _ _;rw[b2];exact jM _
  intro x hx;simp only[D4,Jb,List.mapIdx_cons,List.mapIdx_nil,TP,Vz,UO]at hx;rcases hx with rfl|rfl|rfl|rfl|rfl|rfl
  ·exact key 0 _ De rfl rfl
  ·exact key 2 _ De rfl rfl
  ·exact key 4 _ De rfl rfl
  ·exact key 6 _ De rfl rfl
  ·exact key 8 _ De rfl rfl
  ·exact key 10 _ De rfl rfl
 ·intro x hx;simp only[D4,Jb,List.mapIdx_cons,List.mapIdx_nil,TP,Vz,UO]at hx;rcases hx with rfl|rfl|rfl|rfl|rfl|rfl<;>exact⟨by simp[JL],by simp[JL]⟩
def pQ.neg{M:List Int}{F:List Nat}{S:List Int}(o:pQ M F S){q:Nat}(hq:q<M.length)(h:q∉F):S.getD q 0<0:=by
 rw[o.at_ q hq,Tt h];decide
def zC{O:List Int}{n:Nat}(h:O.Perm ((List.range n).map λi:Nat=>(i:Int))):∃F:List Nat,O=F.map (λi:Nat=>(i:Int))/\F.Perm (List.range n):=by
 refine⟨O.map Int.toNat,?_,?_⟩
 ·rw[U7]
  conv=>lhs;rw[<-List.map_id O]
  refine List.map_congr_left λx hx=>?_
  obtain⟨i,_,rfl⟩:=TI.1 (h.mem_iff.1 hx);simp
 ·have:=h.map Int.toNat;rw[U7]at this;have e:(Int.toNat∘λi:Nat=>(i:Int))=id:=by funext i;simp
  rwa [e,List.map_id]at this
def mV(k:Nat):aj:=(fn12).body.dr k
def je(k:Nat)(hk:k<19):mV k=.seq (mV k).hd (mV (k+1)):=by
 have:k=0\/k=1\/k=2\/k=3\/k=4\/k=5\/k=6\/k=7\/k=8\/k=9\/k=10\/k=11\/k=12\/k=13\/k=14\/k=15\/k=16\/k=17\/k=18:=Om
 rcases this with rfl|rfl|rfl|rfl|rfl|rfl|rfl|rfl|rfl|rfl|rfl|rfl|rfl|rfl|rfl|rfl|rfl|rfl|rfl<;>rfl
def LB:fn12=⟨257,3,[(6,none)],mV 0⟩:=rfl
def ja{x:EV}{e:db}(h:x.ev=e)(h1:e.names.length<=9)(h2:e.cK.length<=9):x.ev.names.length<=2^30/\x.ev.cK.length<=2^30:=by rw[h];omega
def yX(M:List Int)(q:Nat)(hq:q<M.length):(M.set q (-1)).set q (M.getD q 0)=M:=by
 rw[List.set_set,TF,Tk hq];exact U5 _
set_option maxRecDepth 10000
attribute [local irreducible] WP WC WE WB WR WF WL WG eD WM
section
variable {P:Program}(T:dB P) {h:af}
include T
def gg{L:List EV}{s:AV}(hs:aA h s 5 (L.map EV.row))(hl:L.length<2^40)(k:By){sn sv:AV}{N:List (By)}{V:List Int}(n1:aA h sn 1 (N.map an))(v1:aA h sv 1 (V.map aB)):ao P 69 [s,.str k,sv,sn] h (λv k'=>∃x:EV,v=.agg x.row/\x.ev=⟨(L.length:Int)+1,k,N,V,[]⟩/\a8 k' x):=by
 refine(r69 T hs hl k n1.one v1.one).mono λv g hv=>?_
 exact⟨⟨⟨(L.length:Int)+1,k,N,V,[]⟩,sn,sv⟩,by rw[hv];simp[EV.row],rfl,⟨n1.app g,v1.app g⟩⟩
end
section
variable {P:Program}(T:dB P) {h W:af}{ts:TS}{M:List Int}{sM u1 u2:AV}{C1 C2:List EV}{k:Nat}(ha:∀k,Ext h k->ao P 15 [] k (λv _=>v=.bool true)) (gl:Gl h) (hM:aA h sM 1 (M.map aB)) (h1:1<=M.length) (h8:M.length<=8) (hm:∀s∈M,0<=s/\s<=999999999) (hk:k<M.length) (eW:Ext h W)
include T ha gl hM h1 h8 hm hk eW
theorem I6(J2:Jn W C2 u2 5 M [ya M])(hlen:ts.length=257)(t11:slot ts 11=u2)(t13:slot ts 13=.int .i64 k):WC P bS (mV 19) [] ts W (FQ [(6,none)] (Ea h)):=by
 have hA:=J2.ln;unfold mV fn12;simp only[aj.j,aj.s,aj.r,aj.dr,aj.tl,aj.hd,aj.uS];refine Rs (A2 t11 t13) ?_;have v1:aA (W++[ai.cells [.int .i64 (5),.int .i64 ((k:Int))] true true]) (.slice (W).length 0 2 1) 1 (([5,(k:Int)] :List Int).map aB):=jM [5,(k:Int)];have n1:aA (W++[ai.cells [.int .i64 (5),.int .i64 ((k:Int))] true true]++[ai.cells [.str [106]] true true]) (.slice (W++[ai.cells [.int .i64 (5),.int .i64 ((k:Int))] true true]).length 0 1 1) 1 (([[106]] :List (By)).map an):=jL [[106]];refine WF.res T.c69 (gg T (J2.ok.sl.ext Xx) (by have:=J2.ln;omega) [102,97,105,108] n1 (v1.ext Xx)) ?_
 rintro _ g1 ⟨x,rfl,hx,ox⟩;refine Rs t11 ?_;refine WF.ce T.c48 (r48 T (J2.ok.ext Xx) J2.sh (gl.ext (eW.trans Xx)) ox (ja hx Si Si)) λg2=>?_
 have ac:=Ce J2.dg (q:=k) (k:=5) (by simp;omega) De Om;rw[Tu]at ac;rw[show x.ev=uh C2.length 5 k from hx,ac];refine Rs (A2 t11 @T5) ?_;refine WF.ce T.c15 (ha _ (eW.trans Xx)) λg3=>?_
 refine Rs t11 ?_;exact⟨eW.trans Xx,rfl⟩
def I7(J1:Jn W C1 u1 5 M [ya M])(J2:Jn W C2 u2 5 M [ya M])(hlen:ts.length=257)(t0:slot ts 0=sM)(t10:slot ts 10=u1)(t11:slot ts 11=u2)(t13:slot ts 13=.int .i64 k):WC P bS (mV 14) [] ts W (FQ [(6,none)] (Ea h)):=by
 have hA1:=J1.ln;have hA2:=J2.ln;rw[je 14 De,je 15 De,je 16 De,je 17 De,je 18 De];generalize hR:mV 19=R;unfold mV fn12;simp only[aj.j,aj.s,aj.r,aj.dr,aj.tl,aj.hd,aj.uS];refine Rs (A4 t0 t10 t11 t13) ?_;refine WF.res T.c34 (r34 T J1.ok J1.sh (gl.ext eW)) ?_;rintro _ g1 ⟨V,rfl,hV,oV,wV⟩;have mG:=@aE.st _ _ oV;rw[J1.dg.w]at hV;rw[J1.dg.r];refine Rs (A5 t0 t10 t11 t13 @mG) ?_;obtain⟨W1,P1⟩:∃Z,Z=W++g1++[ai.cells V.row true false]:=⟨_,rfl⟩;have e1:Ext W W1:=by rw[P1];exact Xx
 have mb:W1[(W++g1).length]? =some (.cells V.row true false):=by rw[P1];exact bF
 have oV:aE W1 V:=by rw[P1];exact oV.ext Xx
 obtain⟨b,hb⟩:∃Z,Z=(W++g1).length:=⟨_,rfl⟩;rw[<-P1];rw[<-hb]at mb ⊢;clear P1 hb;refine WF.res T.c34 (r34 T (J2.ok.ext e1) J2.sh (gl.ext (eW.trans e1))) ?_;rintro _ g2 ⟨U,rfl,hU,oU,wU⟩;have dU:=@aE.st _ _ oU;rw[J2.dg.w]at hU;rw[J2.dg.r];refine Rs (A5 t0 t10 t11 t13 @dU) ?_;obtain⟨W2,RM⟩:∃Z,Z=W1++g2++[ai.cells U.row true false]:=⟨_,rfl⟩;have e2:Ext W1 W2:=by rw[RM];exact Xx
 have mc:W2[(W1++g2).length]? =some (.cells U.row true false):=by rw[RM];exact bF
 have oU:aE W2 U:=by rw[RM];exact oU.ext Xx
 obtain⟨c,hc⟩:∃Z,Z=(W1++g2).length:=⟨_,rfl⟩;rw[<-RM];rw[<-hc]at mc ⊢;clear RM hc;have e12:=e1.trans e2;refine WR.AE (N:=W2.length) bF (Ts _) (hM.ext ((eW.trans e12).trans Xx)) (by simp only[Tu];omega) λt g3 f=>?_
 have ft:=f.aN;refine Rs (A4 t0 t10 t11 t13) ?_;refine WF.ce T.c27 (r27 T ft Om) λg4=>?_
 have hdq:x8 M=(ia M,0):=by
  have hf:aG (M.map λn=>aU n 0 999999999)=0:=by
   have:∀l:List Int,(∀s∈l,0<=s/\s<=999999999)->aG (l.map λn=>aU n 0 999999999)=0:=by
    intro l
    induction l with
    |nil=>intros;rfl
    |cons a l ih=>
     intro h;have:=h a (T0 ..);rw[Un,aG,Ty (by unfold aU;rw[Tt Om])];exact ih λs hs=>h s (TK _ hs)
   exact this _ hm
  unfold x8;rw[hf,Tm Om,Tm Om];rfl
 rw[hdq];refine Rs (A4 t0 t10 t11 t13) ?_;refine WF.res T.c54 (r54 T (J2.ok.ext (e12.trans Xx)) J2.sh (gl.ext ((eW.trans e12).trans Xx)) [112]) ?_;rintro _ g5 ⟨v,rfl,hv⟩;have SO:=xL (n:=[112]) J2.dg.r (by rw[J2.dg.w];show _∈[[112]];simp);rw[J2.dg.w,Cd]at SO;rw[SO]at hv ⊢;have hv:aA _ v 1 (([[115]] :List (By)).map an):=hv;have lb:=@iL _ _ _ (e2.some mb);have lc:=@iL _ _ _ mc;have z0:decide ((0:Int)≠0)=false:=rfl;have pV:V.aO=[ya M]:=TO fy.aO hV;have pU:U.aO=[ya M]:=TO fy.aO hU;have i5:=(oV.ext e2).i5;have j5:=oU.i5;rw[pV]at i5;rw[pU]at j5;have l1:∀G,gZ .sl G V.s5=some 1:=i5.bh;have l2:∀G,gZ .sl G U.s5=some 1:=j5.bh
 have q1:decide (((1:Nat):Int)≠1)=false:=rfl;have ix:aV 4 V.s5 (.int .i64 0)=some (dG V.s5 4 0,.aq):=i5.n8 (Nat.zero_lt_succ _);have iy:aV 4 U.s5 (.int .i64 0)=some (dG U.s5 4 0,.aq):=j5.n8 (Nat.zero_lt_succ _);have lx:∀{k':af},Ext W2 k'->au (some 4) (dG V.s5 4 0) (λb=>k'[b]?)=some (.agg (cS (ya M)),.aq):=λ{k'} e=>i5.lO (i:=0) (Nat.zero_lt_succ _) e
 have ly:∀{k':af},Ext W2 k'->au (some 4) (dG U.s5 4 0) (λb=>k'[b]?)=some (.agg (cS (ya M)),.aq):=λ{k'} e=>j5.lO (i:=0) (Nat.zero_lt_succ _) e
 have eq1:=@I4 (ya M);have eq2:nW true (kY (.agg [.s,.s,.i,.b]) (.agg (cS (ya M))) (.agg [.str [112],.str [106],.int .i64 (ia M),.bool false]))=some (.bool false):=eq1;refine Rs (JO t0 t10 t11 t13 @z0 @lb @lc @kv @l1 @l2 q1 ix @iy @lx @ly @eq1 @eq2) ?_;obtain⟨W3,Rk⟩:∃Z,Z=W2++[ai.cells [] true false]++g3++g4++g5:=⟨_,rfl⟩;have e3:Ext W2 W3:=by rw[Rk];exact Xx
 rw[<-Rk]at hv ⊢;have n1:aA (W3++[ai.cells [.str [115]] true true]) (.slice W3.length 0 1 1) 1 (([[115]] :List (By)).map an):=jL [[115]];refine WF.ce T.c25 (r25 T (hv.ext Xx) n1 De De) λg6=>?_
 refine Rs (A6 t0 t10 t11 t13 @T5 @TU) ?_;rw[<-hR];exact I6 T ha gl hM h1 h8 hm hk ((eW.trans e12).trans (e3.trans Xx)) (J2.ext (e12.trans (e3.trans Xx))) Sn (Sq t11) (Sq t13)
def I8(J1:Jn W C1 u1 5 M [ya M])(J2:Jn W C2 u2 4 M [])(hl2:C2.length<19)(hlen:ts.length=257)(t0:slot ts 0=sM)(t10:slot ts 10=u1)(t11:slot ts 11=u2)(t13:slot ts 13=.int .i64 k):WC P bS (mV 13) [] ts W (FQ [(6,none)] (Ea h)):=by
 rw[je 13 De];generalize hR:mV 14=R;unfold mV fn12;simp only[aj.j,aj.s,aj.r,aj.dr,aj.tl,aj.hd,aj.uS];refine Rs (A4 t0 t10 t11 t13) ?_;have v1:aA (W++[ai.cells [.int .i64 (5)] true true]) (.slice (W).length 0 1 1) 1 (([5] :List Int).map aB):=jM [5];have n1:aA (W++[ai.cells [.int .i64 (5)] true true]++[ai.cells [.str [112],.str [106]] true true]) (.slice (W++[ai.cells [.int .i64 (5)] true true]).length 0 2 1) 1 (([[112],[106]] :List (By)).map an):=jL [[112],[106]];refine WF.res T.c69 (gg T (J2.ok.sl.ext Xx) (by have:=J2.ln;omega) [112,105,99,116,117,114,101] n1 (v1.ext Xx)) ?_
 rintro _ g1 ⟨x,rfl,hx,ox⟩;refine Rs (A4 t0 t10 t11 t13) ?_;refine WF.res T.c50 (r50 T (J2.ok.ext Xx) (by have:=J2.ln;omega) ox) ?_;rintro v g2 o2;refine Rs (A4 t0 t10 t11 t13) ?_;rw[<-hR];have hle:=n7 M 0 λs hs=>(hm s hs).1
 have d:=wG J2.dg (k:=5) (by simp;omega) De hle;rw[Tu]at d;exact I7 T ha gl hM h1 h8 hm hk (eW.trans Xx) (J1.ext Xx) (J2.add o2 (ja hx Si Si) ((show x.ev=yy C2.length 5 from hx)▸d) Om) Sn (Sq t0) (Sq t10) Sw (Sq t13)
def I9{t:Int}(J1:Jn W C1 u1 t M [])(ht:t<=2)(hl1:C1.length<19)(J2:Jn W C2 u2 4 M [])(hl2:C2.length<19)(hlen:ts.length=257)(t0:slot ts 0=sM)(t10:slot ts 10=u1)(t11:slot ts 11=u2)(t13:slot ts 13=.int .i64 k):WC P bS (mV 12) [] ts W (FQ [(6,none)] (Ea h)):=by
 rw[je 12 De];generalize hR:mV 13=R;unfold mV fn12;simp only[aj.j,aj.s,aj.r,aj.dr,aj.tl,aj.hd,aj.uS];refine Rs (A4 t0 t10 t11 t13) ?_;have v1:aA (W++[ai.cells [.int .i64 (5)] true true]) (.slice (W).length 0 1 1) 1 (([5] :List Int).map aB):=jM [5];have n1:aA (W++[ai.cells [.int .i64 (5)] true true]++[ai.cells [.str [112],.str [106]] true true]) (.slice (W++[ai.cells [.int .i64 (5)] true true]).length 0 2 1) 1 (([[112],[106]] :List (By)).map an):=jL [[112],[106]];refine WF.res T.c69 (gg T (J1.ok.sl.ext Xx) (by have:=J1.ln;omega) [112,105,99,116,117,114,101] n1 (v1.ext Xx)) ?_
 rintro _ g1 ⟨x,rfl,hx,ox⟩;refine Rs (A4 t0 t10 t11 t13) ?_;refine WF.res T.c50 (r50 T (J1.ok.ext Xx) (by have:=J1.ln;omega) ox) ?_;rintro v g2 o2;refine Rs (A4 t0 t10 t11 t13) ?_;rw[<-hR];have hle:=n7 M 0 λs hs=>(hm s hs).1
 have d:=wG J1.dg (k:=5) (by simp;omega) ⟨Om,De,De⟩ hle;rw[Tu]at d;exact I8 T ha gl hM h1 h8 hm hk (eW.trans Xx) (J1.add o2 (ja hx Si Si) ((show x.ev=yy C1.length 5 from hx)▸d) Om) (J2.ext Xx) hl2 Sn (Sq t0) Sw (Sq t11) (Sq t13)
def Ja{t:Int}(J1:Jn W C1 u1 t M [])(ht:t<=2)(hl1:C1.length<19)(J2:Jn W C2 u2 3 (M.set k (-1)) [])(hl2:C2.length<18)(hlen:ts.length=257)(t0:slot ts 0=sM)(t10:slot ts 10=u1)(t11:slot ts 11=u2)(t13:slot ts 13=.int .i64 k):WC P bS (mV 11) [] ts W (FQ [(6,none)] (Ea h)):=by
 have ix:=hM.eX (kk:=.i64) hk;obtain⟨y,hy⟩:∃y,y=M.getD k 0:=⟨_,rfl⟩;have hyk:M[k]=y:=by rw[hy,TF,Tk hk];rfl
 have ld:∀{k':af},Ext W k'->au none (dG sM 1 k) (λb=>k'[b]?)=some (.int .i64 y,.aq):=λ{k'} e=>hM.kV hk (by rw[hyk];rfl) (eW.trans e)
 have PH:0<=y/\y<=999999999:=hm y (by rw[<-hyk];exact TE _);rw[je 11 De];generalize hR:mV 12=R;unfold mV fn12;simp only[aj.j,aj.s,aj.r,aj.dr,aj.tl,aj.hd,aj.uS];refine Rs (A6 t0 t10 t11 t13 ix @ld) ?_;have v1:aA (W++[ai.cells [.int .i64 (4),.int .i64 ((k:Int)),.int .i64 (y)] true true]) (.slice (W).length 0 3 1) 1 (([4,(k:Int),y] :List Int).map aB):=jM [4,(k:Int),y];have n1:aA (W++[ai.cells [.int .i64 (4),.int .i64 ((k:Int)),.int .i64 (y)] true true]++[ai.cells [.str [106]] true true]) (.slice (W++[ai.cells [.int .i64 (4),.int .i64 ((k:Int)),.int .i64 (y)] true true]).length 0 1 1) 1 (([[106]] :List (By)).map an):=jL [[106]]
 refine WF.res T.c69 (gg T (J2.ok.sl.ext Xx) (by have:=J2.ln;omega) [116,105,108,101] n1 (v1.ext Xx)) ?_;rintro _ g1 ⟨x,rfl,hx,ox⟩;refine Rs (A4 t0 t10 t11 t13) ?_;refine WF.res T.c50 (r50 T (J2.ok.ext Xx) (by have:=J2.ln;omega) ox) ?_;rintro v g2 o2;refine Rs (A4 t0 t10 t11 t13) ?_;rw[<-hR];have d:=rF J2.dg (k:=4) (q:=k) (v:=y) (by simp;omega) De (by rw[Um];omega) (by rw[Um];exact hk) (by rw[TF,T2 hk];decide) PH;rw[Tu,hy,yX M k hk,<-hy]at d;exact I9 T ha gl hM h1 h8 hm hk (eW.trans Xx) (J1.ext Xx) ht hl1 (J2.add o2 (ja hx Si Si) ((show x.ev=yw C2.length 4 k y from hx)▸d) Om) (by simp;omega) Sn (Sq t0) (Sq t10) Sw (Sq t13)
omit hk in
theorem Lz{t t' z:Int}(hz:0<=z/\z<=255)(J1:Jn W C1 u1 t M [])(ht:t<=2)(hl1:C1.length<19)(J2:Jn W C2 u2 t' M [])(ht':t'<=2)(hl2:C2.length<17)(hlen:ts.length=257)(t0:slot ts 0=sM)(t2:slot ts 2=.int .u8 z)(t7:slot ts 7=.int .i64 M.length)(t10:slot ts 10=u1)(t11:slot ts 11=u2):WC P bS (mV 7) [] ts W (FQ [(6,none)] (Ea h)):=by
 obtain⟨k,hkz⟩:∃k:Nat,z.tmod (M.length:Int)=(k:Int):=⟨(z.tmod (M.length:Int)).toNat,by rw[Int.toNat_of_nonneg (Int.tmod_nonneg _ hz.1)]⟩;have hk:k<M.length:=by have:=Vn z (b:=(M.length:Int)) Om;omega
 have w1:IntKind.i64.wrap z=z:=aR Om Om;have r1:=ji (k:=.i64) (a:=z) (b:=(M.length:Int)) Om;rw[hkz]at r1;have hy0:0<=M.getD k 0:=by
  have:=(hm M[k] (TE _)).1;rw[TF,Tk hk];exact this
 rw[je 7 De,je 8 De,je 9 De,je 10 De];generalize hR:mV 11=R;unfold mV fn12;simp only[aj.j,aj.s,aj.r,aj.dr,aj.tl,aj.hd,aj.uS];refine Rs (A7 t0 t2 t7 t10 t11 @w1 @r1) ?_;have v1:aA (W++[ai.cells [.int .i64 (3),.int .i64 ((k:Int))] true true]) (.slice (W).length 0 2 1) 1 (([3,(k:Int)] :List Int).map aB):=jM [3,(k:Int)];have n1:aA (W++[ai.cells [.int .i64 (3),.int .i64 ((k:Int))] true true]++[ai.cells [.str [106]] true true]) (.slice (W++[ai.cells [.int .i64 (3),.int .i64 ((k:Int))] true true]).length 0 1 1) 1 (([[106]] :List (By)).map an):=jL [[106]]
 refine WF.res T.c69 (gg T (J2.ok.sl.ext Xx) (by have:=J2.ln;omega) [102,97,105,108] n1 (v1.ext Xx)) ?_;rintro _ g1 ⟨x,rfl,hx,ox⟩;refine Rs (A3 t0 t10 t11) ?_;refine WF.res T.c50 (r50 T (J2.ok.ext Xx) (by have:=J2.ln;omega) ox) ?_;rintro v g2 o2;have d:=Cg J2.dg (k:=3) (q:=k) (by simp;omega) ⟨Om,De,De⟩ Om hk hy0;rw[Tu]at d;have J3:=J2.add o2 (ja hx Si Si) ((show x.ev=uh C2.length 3 k from hx)▸d) Om;obtain⟨W2,RM⟩:∃Z,Z=W++[ai.cells [.int .i64 3,.int .i64 (k:Int)] true true]++[ai.cells [.str [106]] true true]++g1++g2:=⟨_,rfl⟩;have e2:Ext W W2:=by rw[RM];exact Xx
 have Rg:(C2++[x]).length<18:=by simp;omega
 rw[<-RM]at J3 ⊢;clear RM o2 ox hx n1 v1;generalize C2++[x]=C3 at *;refine Rs (A3 t0 t10 t11) ?_;refine WF.res T.c53 (r53 T J3.ok J3.sh (gl.ext (eW.trans e2)) [106]) ?_;rintro _ g3 ⟨w,rfl,hw⟩;have Px:=xU (n:=[106]) J3.dg.r (by rw[J3.dg.w];show _∈[[106]];simp);rw[J3.dg.w,FN]at Px;have hle:bR (M.set k (-1)) 0=[((0+k:Nat):Int)]:=tw M 0 k (λs hs=>(hm s hs).1) hk;rw[TZ]at hle;have Px:qC (C3.map EV.ev) [106]=([(k:Int)],0):=by rw[Px];exact Prod.ext hle rfl
 rw[Px]at hw ⊢;have hw:aA _ w 1 (([(k:Int)] :List Int).map aB):=hw;have z0:decide ((0:Int)≠0)=false:=rfl;refine Rs (A4 t0 t10 t11 @z0) ?_;have i1:aA (W2++g3++[ai.cells [.int .i64 (k:Int)] true true]) (.slice (W2++g3).length 0 1 1) 1 (([(k:Int)] :List Int).map aB):=jM [(k:Int)];refine WF.ce T.c62 (r62 T (hw.ext Xx) i1 Si Si) λg4=>?_
 obtain⟨W3,Rk⟩:∃Z,Z=W2++g3++[ai.cells [.int .i64 (k:Int)] true true]++g4:=⟨_,rfl⟩;have e3:Ext W2 W3:=by rw[Rk];exact Xx
 rw[<-Rk];have J4:=J3.ext e3;clear Rk i1 hw;refine Rs (A5 t0 t10 t11 @T5 @TU) ?_;have v1:aA (W3++[ai.cells [.int .i64 (3)] true true]) (.slice (W3).length 0 1 1) 1 (([3] :List Int).map aB):=jM [3];have n1:aA (W3++[ai.cells [.int .i64 (3)] true true]++[ai.cells [.str [112],.str [106]] true true]) (.slice (W3++[ai.cells [.int .i64 (3)] true true]).length 0 2 1) 1 (([[112],[106]] :List (By)).map an):=jL [[112],[106]];refine WF.res T.c69 (gg T (J4.ok.sl.ext Xx) (by have:=J4.ln;omega) [112,105,99,116,117,114,101] n1 (v1.ext Xx)) ?_;rintro _ g5 ⟨x,rfl,hx,ox⟩;refine Rs (A3 t0 t10 t11) ?_
 refine WF.ce T.c48 (r48 T (J4.ok.ext Xx) J4.sh (gl.ext ((eW.trans e2).trans (e3.trans Xx))) ox (ja hx Si Si)) λg6=>?_
 have ac:=wH J4.dg (k:=3) (by simp;omega) De (by rw[hle];simp);rw[Tu]at ac;rw[show x.ev=yy C3.length 3 from hx,ac];have q32:decide ((32:Int)≠32)=false:=rfl;refine Rs (A4 t0 t10 t11 q32) ?_;rw[<-hR];have e4:Ext W (W3++[ai.cells [.int .i64 3] true true]++[ai.cells [.str [112],.str [106]] true true]++g5++g6):=(e2.trans e3).trans Xx;exact Ja T ha gl hM h1 h8 hm hk (eW.trans e4) (J1.ext e4) ht hl1 (J4.ext Xx) Rg Sn (Sq t0) (Sq t10) Sw Sw
omit hk in
theorem LA{F:List Nat}(hF:F.Perm (List.range M.length)){sO:AV}(hO:aA W sO 1 ((F.map λi:Nat=>(i:Int)).map aB)){z:Int}(hz:0<=z/\z<=255)(J1:Jn W C1 u1 1 (List.replicate M.length (-1)) [])(hl1:C1.length=6)(J2:Jn W C2 u2 1 (List.replicate M.length (-1)) [])(hl2:C2.length=6)(hlen:ts.length=257)(t0:slot ts 0=sM)(t2:slot ts 2=.int .u8 z)(t7:slot ts 7=.int .i64 M.length)(t9:slot ts 9=sO)(t10:slot ts 10=u1)(t11:slot ts 11=u2):WC P bS (mV 6) [] ts W (FQ [(6,none)] (Ea h)):=by
 have hFl:F.length=M.length:=by have:=hF.length_eq;simpa using this
 have hFn:F.Nodup:=hF.nodup_iff.2 List.nodup_range;rw[je 6 De];generalize hR:mV 7=R;unfold mV fn12;simp only[aj.j,aj.s,aj.r,aj.dr,aj.tl,aj.hd,aj.uS];refine Rs (A6 t0 t2 t7 t9 t10 t11) ?_;refine WL.inv T.mix (λm ts h'=>∃(i:Nat) (D1 D2:List EV) (v1 v2:AV) (S1 S2:List Int) (t:Int),i<=M.length/\m=M.length-i/\Ext W h'/\Jn h' D1 v1 t S1 []/\D1.length=6+i/\Jn h' D2 v2 t S2 []/\D2.length=6+i/\t<=2/\pQ M (List.range i) S1/\pQ M (F.take i) S2/\ts.length=257/\slot ts 0=sM/\slot ts 2=.int .u8 z/\slot ts 7=.int .i64 M.length/\slot ts 9=sO/\slot ts 10=v1/\slot ts 11=v2/\slot ts 73=.int .i64 M.length/\slot ts 74=.int .i64 i) M.length
  ⟨0,C1,C2,u1,u2,_,_,1,Om,rfl,Ext.refl W,J1,hl1,J2,hl2,De,.zero,.zero,Sn,(Sq t0),(Sq t2),(Sq t7),(Sq t9),(Sq t10),(Sq t11),Sw,my⟩ ?_
 clear t0 t2 t7 t9 t10 t11 hlen J1 J2 hl1 hl2;rintro _ ts W2 ⟨i,C1,C2,u1,u2,S1,S2,t,hi,rfl,e2,J1,hl1,J2,hl2,ht,o1,o2,hlen,t0,t2,t7,t9,t10,t11,t73,t74⟩;by_cases hlt:i<M.length
 case neg=>
  have e3:=jf hlt;obtain rfl:i=M.length:=Om
  have a1:=o1.all λq hq=>Ud.2 hq
  have a2:=o2.all λq hq=>by rw[TV Om];exact hF.mem_iff.2 (Ud.2 hq)
  subst a1;subst a2;refine Rs (A9 t0 t2 t7 t9 t10 t11 t73 t74 e3) ?_;rw[<-hR];exact Lz T ha gl hM h1 h8 hm (eW.trans e2) hz J1 ht Om J2 ht Om Sn (Sq t0) (Sq t2) (Sq t7) (Sq t10) (Sq t11)
 have e3:=hX hlt;have e5:=wrapN (n:=i) Om;have hS1:=o1.ln;have hS2:=o2.ln;have ng1:=o1.neg hlt (λz=>by have:=Ud.1 z;omega);have NF:=wj S1 0 i Om ng1;obtain⟨q,hq⟩:∃q,q=F[i]'Om:=⟨_,rfl⟩;have hqm:q<M.length:=Ud.1 (hF.mem_iff.1 (by rw[hq];exact TE _));have hqn:q∉F.take i:=λz=>by
  have e:F=F.take i++F[i]'Om::F.drop (i+1):=by rw[List.getElem_cons_drop,Uz]
  rw[e,List.nodup_append]at hFn;exact hFn.2.2 _ z _ (T0 ..) hq
 have ng2:=o2.neg hqm hqn;have e02:=eW.trans e2;have hM2:=hM.ext e02;have hO2:=hO.ext e2;have Pz:∀r (hr:r<M.length),M[r]=M.getD r 0:=λr hr=>by rw[TF,Tk hr];rfl
 have i1:=hM2.eX (kk:=.i64) hlt;have d1:∀{k':af},Ext W2 k'->au none (dG sM 1 i) (λb=>k'[b]?)=some (.int .i64 (M.getD i 0),.aq):=λ{k'} e=>hM2.kV hlt (by rw[Pz i hlt];rfl) e
 have b1:=hm (M.getD i 0) (by rw[<-Pz i hlt];exact TE _);have i2:=hM2.eX (kk:=.i64) hqm;have d2:∀{k':af},Ext W2 k'->au none (dG sM 1 q) (λb=>k'[b]?)=some (.int .i64 (M.getD q 0),.aq):=λ{k'} e=>hM2.kV hqm (by rw[Pz q hqm];rfl) e
 have b2:=hm (M.getD q 0) (by rw[<-Pz q hqm];exact TE _);have hFi:i<(F.map λi:Nat=>(i:Int)).length:=by rw[Tu];omega
 have i3:=hO2.eX (kk:=.i64) hFi;have d3:∀{k':af},Ext W2 k'->au none (dG sO 1 i) (λb=>k'[b]?)=some (.int .i64 (q:Int),.aq):=λ{k'} e=>hO2.kV hFi (by rw[Ux,<-hq];rfl) e
 obtain⟨y1,PI⟩:∃y,y=M.getD i 0:=⟨_,rfl⟩;obtain⟨y2,hy2⟩:∃y,y=M.getD q 0:=⟨_,rfl⟩;rw[<-PI]at d1 b1;rw[<-hy2]at d2 b2;refine Rs (A9 t0 t2 t7 t9 t10 t11 t73 t74 e3) ?_;have v1:aA (W2++[ai.cells [.int .i64 (2)] true true]) (.slice (W2).length 0 1 1) 1 (([2] :List Int).map aB):=jM [2];have n1:aA (W2++[ai.cells [.int .i64 (2)] true true]++[ai.cells [.str [112],.str [106]] true true]) (.slice (W2++[ai.cells [.int .i64 (2)] true true]).length 0 2 1) 1 (([[112],[106]] :List (By)).map an):=jL [[112],[106]];refine WF.res T.c69 (gg T (J1.ok.sl.ext Xx) (by have:=J1.ln;omega) [112,105,99,116,117,114,101] n1 (v1.ext Xx)) ?_
 rintro _ g1 ⟨x,rfl,hx,ox⟩;refine Rs (A8 t0 t2 t7 t9 t10 t11 t73 t74) ?_;refine WF.ce T.c48 (r48 T (J1.ok.ext Xx) J1.sh (gl.ext (e02.trans Xx)) ox (ja hx Si Si)) λg2=>?_
 have ac:=wH J1.dg (k:=2) (by simp;omega) ⟨ht,De,De⟩ NF;rw[Tu]at ac;rw[show x.ev=yy C1.length 2 from hx,ac];have q32:decide ((32:Int)≠32)=false:=rfl;obtain⟨W3,Rk⟩:∃Z,Z=W2++[ai.cells [.int .i64 2] true true]++[ai.cells [.str [112],.str [106]] true true]++g1++g2:=⟨_,rfl⟩;have e23:Ext W2 W3:=by rw[Rk];exact Xx
 rw[<-Rk];have J1:=J1.ext e23;have J2:=J2.ext e23;have d1:∀{k':af},Ext W3 k'->au none (dG sM 1 i) (λb=>k'[b]?)=some (.int .i64 y1,.aq):=λ{k'} e=>d1 (e23.trans e)
 clear Rk n1 v1 ox hx;refine Rs (AZ t0 t2 t7 t9 t10 t11 t73 t74 q32 @i1 @d1) ?_;have v1:aA (W3++[ai.cells [.int .i64 (2),.int .i64 ((i:Int)),.int .i64 (y1)] true true]) (.slice (W3).length 0 3 1) 1 (([2,(i:Int),y1] :List Int).map aB):=jM [2,(i:Int),y1];have n1:aA (W3++[ai.cells [.int .i64 (2),.int .i64 ((i:Int)),.int .i64 (y1)] true true]++[ai.cells [.str [106]] true true]) (.slice (W3++[ai.cells [.int .i64 (2),.int .i64 ((i:Int)),.int .i64 (y1)] true true]).length 0 1 1) 1 (([[106]] :List (By)).map an):=jL [[106]];refine WF.res T.c69 (gg T (J1.ok.sl.ext Xx) (by have:=J1.ln;omega) [116,105,108,101] n1 (v1.ext Xx)) ?_
 rintro _ g3 ⟨x,rfl,hx,ox⟩;refine Rs (A8 t0 t2 t7 t9 t10 t11 t73 t74) ?_;refine WF.res T.c50 (r50 T (J1.ok.ext Xx) (by have:=J1.ln;omega) ox) ?_;rintro w1 g4 p1;have dg1:=rF J1.dg (k:=2) (q:=i) (v:=y1) (by simp;omega) ⟨ht,De,De⟩ Om Om ng1 b1;rw[Tu]at dg1;have J3:=J1.add p1 (ja hx Si Si) ((show x.ev=yw C1.length 2 i y1 from hx)▸dg1) Om;have Rg:(C1++[x]).length=6+(i+1):=by simp;omega
 obtain⟨W4,hW4⟩:∃Z,Z=W3++[ai.cells [.int .i64 2,.int .i64 (i:Int),.int .i64 y1] true true]++[ai.cells [.str [106]] true true]++g3++g4:=⟨_,rfl⟩;have e34:Ext W3 W4:=by rw[hW4];exact Xx
 rw[<-hW4]at J3 ⊢;have J2:=J2.ext e34;have e24:=e23.trans e34;have d2:∀{k':af},Ext W4 k'->au none (dG sM 1 q) (λb=>k'[b]?)=some (.int .i64 y2,.aq):=λ{k'} e=>d2 (e24.trans e)
 have d3:∀{k':af},Ext W4 k'->au none (dG sO 1 i) (λb=>k'[b]?)=some (.int .i64 (q:Int),.aq):=λ{k'} e=>d3 (e24.trans e)
 clear hW4 n1 v1 ox hx p1;generalize C1++[x]=C3 at *;refine Rs (GH t0 t2 t7 t9 t10 t11 t73 t74 @i3 @d3 @i2 @d2) ?_;have v1:aA (W4++[ai.cells [.int .i64 (2),.int .i64 ((q:Int)),.int .i64 (y2)] true true]) (.slice (W4).length 0 3 1) 1 (([2,(q:Int),y2] :List Int).map aB):=jM [2,(q:Int),y2];have n1:aA (W4++[ai.cells [.int .i64 (2),.int .i64 ((q:Int)),.int .i64 (y2)] true true]++[ai.cells [.str [106]] true true]) (.slice (W4++[ai.cells [.int .i64 (2),.int .i64 ((q:Int)),.int .i64 (y2)] true true]).length 0 1 1) 1 (([[106]] :List (By)).map an):=jL [[106]];refine WF.res T.c69 (gg T (J2.ok.sl.ext Xx) (by have:=J2.ln;omega) [116,105,108,101] n1 (v1.ext Xx)) ?_
 rintro _ g5 ⟨x,rfl,hx,ox⟩;refine Rs (A8 t0 t2 t7 t9 t10 t11 t73 t74) ?_;refine WF.res T.c50 (r50 T (J2.ok.ext Xx) (by have:=J2.ln;omega) ox) ?_;rintro w2 g6 p2;have dg2:=rF J2.dg (k:=2) (q:=q) (v:=y2) (by simp;omega) ⟨ht,De,De⟩ Om Om ng2 b2;rw[Tu]at dg2;have J4:=J2.add p2 (ja hx Si Si) ((show x.ev=yw C2.length 2 q y2 from hx)▸dg2) Om;refine Rs (A9 t0 t2 t7 t9 t10 t11 t73 t74 e5) ?_;have s1:=o1.add hlt;have s2:=o2.add hqm;rw[<-PI,<-List.range_succ]at s1;have hft:F.take (i+1)=F.take i++[q]:=by rw[T9,Tk Om,hq];rfl
 rw[<-hy2,<-hft]at s2;exact⟨_,Om,i+1,C3,C2++[x],w1,w2,_,_,2,Om,rfl,(e2.trans e24).trans Xx,J3.ext Xx,Rg,J4,by simp;omega,De,s1,s2,rfl,rfl,rfl⟩
end
section
variable {P:Program}(T:dB P) {h:af}
include T
def r12(ha:∀k,Ext h k->ao P 15 [] k (λv _=>v=.bool true))(gl:Gl h){M:List Int}{sM:AV}(hM:aA h sM 1 (M.map aB))(hMl:M.length<2^63){y z:Int}(hy:0<=y/\y<=65535)(hz:0<=z/\z<=255):ao P 12 [sM,.int .u16 y,.int .u8 z] h (λv _=>v=.bool true):=by
 refine .of T.mix (Eq.trans T.c12 (TO some LB)) ?_;obtain⟨ts,NK⟩:∃ts,ts=aM 257 [sM,.int .u16 y,.int .u8 z]:=⟨_,rfl⟩;have hlen:ts.length=257:=by rw[NK];rfl
 have t0:slot ts 0=sM:=by rw[NK];rfl
 have t1:slot ts 1=.int .u16 y:=by rw[NK];rfl
 have t2:slot ts 2=.int .u8 z:=by rw[NK];rfl
 show WC P bS (mV 0) [] (aM 257 [sM,.int .u16 y,.int .u8 z]) h (FQ [(6,none)] (Ea h));rw[<-NK];clear NK;rw[je 0 De,je 1 De,je 2 De,je 3 De,je 4 De,je 5 De];generalize hR:mV 6=R;unfold mV fn12;simp only[aj.j,aj.s,aj.r,aj.dr,aj.tl,aj.hd,aj.uS];by_cases h1:M.length<1
 ·have q1:decide ((M.length:Int)<1)=true:=Tq Om;refine Rs (A5 t0 t1 t2 hM.bh q1) ?_;exact JV
 have q1:decide ((M.length:Int)<1)=false:=Tm Om;by_cases h8:8<M.length
 ·have q2:decide ((8:Int)<(M.length:Int))=true:=Tq Om;refine Rs (A6 t0 t1 t2 hM.bh q1 q2) ?_;exact JV
 have q2:decide ((8:Int)<(M.length:Int))=false:=Tm Om;refine Rs (A6 t0 t1 t2 hM.bh q1 q2) ?_;refine WF.ce T.c29 (r29 T hM Om) λg1=>?_
 by_cases hc:Ch M=0
 case neg=>
  have q3:decide (Ch M≠0)=true:=Tq hc;refine Rs (A4 t0 t1 t2 q3) ?_;exact JV
 have q3:decide (Ch M≠0)=false:=Tm λz=>z hc
 have hm:∀s∈M,0<=s/\s<=999999999:=by
  unfold Ch at hc;split at hc
  ·cases hc
  split at hc
  ·cases hc
  split at hc
  ·cases hc
  rename_i h3
  exactλs hs=>fI λz=>h3 (UR.2 ⟨s,hs,Tq z⟩)
 have w1:IntKind.i64.wrap y=y:=aR Om Om;have w2:IntKind.i64.wrap (1+y)=1+y:=aR Om Om;refine Rs (A7 t0 t1 t2 hM.bh q3 @w1 @w2) ?_;obtain⟨W,hW⟩:∃W,W=GA (h++g1) M.length:=⟨_,rfl⟩;have eW:Ext h W:=by rw[hW];exact(show Ext h (h++g1)from⟨_,rfl⟩).trans ((ob (n:=(M.length:Int)) 0 12).trans ⟨_,rfl⟩)
 have JB:=FO (W:=h++g1) (n:=M.length) Om Om;rw[<-hW]at JB;have hBl:(D4 (h++g1) M.length).length=6:=rfl;generalize D4 (h++g1) M.length=B at JB hBl;show WF P bS _ _ _ _ _ _ _ (GA (h++g1) M.length) _;rw[<-hW];refine WF.res T.c68 (r68 T Om Om) ?_;rintro sO g2 ⟨O,hO,hv⟩;obtain⟨F,rfl,hF⟩:=zC hO;refine Rs (A3 t0 t1 t2) ?_;refine WR.AE (N:=(W++g2).length) (w:=88) (ys:=B.map EV.row) bF (Ts _) (aA.ext JB.ok.sl Xx) (by simp only[Tu,hBl];decide) λv1 g3 f1=>?_
 refine Rs (A3 t0 t1 t2) ?_;refine WR.AE (N:=(W++g2++[ai.cells [] true false]++g3).length) (w:=88) (ys:=B.map EV.row) bF (Ts _) (aA.ext JB.ok.sl Xx) (by simp only[Tu,hBl];decide) λv2 g4 f2=>?_
 refine Rs (A3 t0 t1 t2) ?_;rw[<-hR];have mk:∀{K:af}{v:AV},Ext W K->aA K v 5 (B.map EV.row)->Jn K B v 1 (List.replicate M.length (-1)) []:=λ{K v} e hs=>⟨⟨hs,λx hx=>(JB.ok.all x hx).ext e⟩,JB.sh,JB.dg,JB.ln⟩
 exact LA T ha gl hM Om Om hm (eW.trans Xx) hF (hv.ext Xx) hz (mk Xx (f1.aN.ext Xx)) hBl (mk Xx f2.aN) hBl Sn (Sq t0) (Sq t2) Sw Sw Sw Sw
end
end Go.Abs
