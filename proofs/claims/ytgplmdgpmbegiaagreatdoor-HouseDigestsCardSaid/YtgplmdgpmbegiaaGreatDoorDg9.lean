/- A part of the proof that HouseDigests holds. No condition. -/
import Derived.Test.YtgplmdgpmbegiaaGreatDoorDg8
import Derived.Test.YtgplmdgpmbegiaaGreatDoorDg7
import Derived.Laws.Externs
import Derived.Shelf.Strconv.Itoa3
import Derived.Shelf.Strconv.Atoi
import Derived.Lib.AtoiErrMem
import Derived.Test.YtgplmdgpmbegiaaGreatDoorDg1
import Derived.Test.YtgplmdgpmbegiaaGreatDoorDg2
import Derived.Test.YtgplmdgpmbegiaaGreatDoorDg5
import Derived.Test.YtgplmdgpmbegiaaGreatDoorDg6
import Derived.ChangeArms
import Derived.Deep.Slices
import Derived.WideShapes
import Derived.ChangeShapes
import Derived.ChangeMaps5
import Derived.OpenShut
import Derived.Carry
import Derived.ChangeSame
import Derived.RowKit
import Derived.ProofKit
import Derived.LaidMore
import Derived.Lay
import Derived.SevenTiedAt
import Derived.Stop.Joined
import Derived.Test.YtgplmdgpmbegiaaGreatDoorRows
import Derived.Test.YtgplmdgpmbegiaaGreatDoorTie
import Derived.Test.YtgplmdgpmbegiaaGreatDoorCards
import Derived.Test.YtgplmdgpmbegiaaGreatDoorDg0
set_option maxHeartbeats 4000000
set_option linter.all false
open Nat (reduceAdd reduceMul reduceLeDiff reduceEqDiff)
namespace Go.Abs
theorem qO{c}:∀{s},(dN c s).2.2=true->s=(dN c s).1++c:: (dN c s).2.1
 |[],h=>by cases h
 |x::r,h=>by
  rw[dN]at h ⊢;split
  ·rename_i e;rw[e];rfl
  ·rename_i e;rw[Tt e]at h;exact TO (x::·) (qO (s:=r) h)
set_option maxRecDepth 10000
attribute [local irreducible] WP WC WE WB WR WF WL WG eD WQ
section
variable {P:Program}(T:dB P) {h:af}
include T
def r37(X:AM P)(Z:nY P)(w:Pw h)(s:By)(hsl:s.length<=2^37):ao P 37 [.str s] h (λv k=>∃(L':List EV) (s':AV),L'.map EV.ev=(jC s).1/\v=.dh [s',.i (jC s).2.1,.i (jC s).2.2]/\Fr h.length k s' 5 (L'.map EV.row)/\∀x∈L',yC h.length k s' x):=by
 refine .mG 55 T.mix T.c37 ?_;intro ts hlen t0;unfold fn37 gA;by_cases h6:1000000<s.length
 ·have d1:decide ((1000000:Int)<s.length)=true:=Tq Om;refine Rs (A2 t0 @d1) ?_;exact⟨[],.ah,by rw[jC,Ty h6];rfl,by rw[jC,Ty h6],.nil,λx hx=>(by cases hx)⟩
 have d1:decide ((1000000:Int)<s.length)=false:=Tm Om;have hrs:jC s=oZ (s.length+1) s [] 0:=Tt h6;refine Rs (A2 t0 @d1) ?_;refine WL.inv T.mix (λn ts h'=>∃(a f:Nat) (out:AV) (L':List EV) (g:af),a<=s.length/\n=s.length-a/\h' =h++g/\L'.length<=a/\jC s=oZ (f+1) (s.drop a) (L'.map EV.ev) a/\s.length-a<=f/\Fr h.length (h++g) out 5 (L'.map EV.row)/\(∀x∈L',yC h.length (h++g) out x)/\
   ts.length=55/\slot ts 0=.str s/\slot ts 5=out/\slot ts 6=.i a) s.length
  ⟨0,s.length,.ah,[],[],Om,rfl,Si,Ts _,hrs,Om,.nil,(λx hx=>by cases hx),Sn,(Sq t0),Sw,my⟩ ?_
 rintro _ ts _ ⟨a,f,out,L',g,ha,rfl,rfl,hLa,N4,hf,hfr,hin,hlen,t0,t5,t6⟩;by_cases hlt:a<s.length
 ·have e3:decide ((a:Int)<s.length)=true:=Tq Om;have hne:s.drop a≠[]:=λe=>by have:=TO List.length e;rw[Vy]at this;simp at this;omega
  obtain⟨f',rfl⟩:∃f',f=f'+1:=⟨f-1,Om⟩;rw[oZ,Tt hne]at N4;have hdl:(s.drop a).length=s.length-a:=Vy;have hcl:=pF (c:=10) (s:=s.drop a)
  repeat (first|simp (config:={maxSteps:=1000000}) only[bx,bo,bL,bM,reduceAdd,reduceMul,reduceLeDiff,reduceEqDiff,bP,hlen,TT,TQ,t0,t5,t6,e3,iQ (show a<=s.length by omega)]|simp (config:={maxSteps:=1000000}) (disch:=first|(simp only[Tg,Tl,Tr]<;>omega)|rfl|omega|fail) only[gL,bx,bo,bL,bM,reduceAdd,reduceMul,reduceLeDiff,reduceEqDiff,bP,hlen,TT,TQ,t0,t5,t6,e3,iQ (show a<=s.length by omega)])
  refine WF.ce T.c98 (r98 T X (s.drop a) 10 Om) λg1=>?_
  have Rc:=qO (c:=10) (s:=s.drop a);generalize (dN 10 (s.drop a)).1=ln at N4 hcl Rc ⊢;generalize (dN 10 (s.drop a)).2.1=rest at N4 hcl Rc ⊢;cases hwh:(dN 10 (s.drop a)).2.2 with
  |false=>
   rw[hwh]at N4;refine Rs (A4 t0 t5 t6 @TW) ?_;rw[N4];exact⟨L',_,rfl,rfl,hfr.app g1,λx hx=>(hin x hx).app g1⟩
  |true=>
  rw[hwh]at N4;have Rc:=Rc hwh;have QQ:(s.drop a).length=ln.length+(rest.length+1):=by rw[Rc];simp
  have Oz:rest=s.drop (a+ln.length+1):=by
   have:(s.drop a).drop (ln.length+1)=rest:=by rw[Rc,<-UL];simp
   rw[<-this,UL];congr 1
  have w1:IntKind.i64.wrap (((L'.map EV.row).length:Int)+1)=(L'.length:Int)+1:=by rw[Tu];exact aR Om Om
  have w1':IntKind.i64.wrap ((L'.length:Int)+1)=(L'.length:Int)+1:=aR Om Om;refine Rs (A7 t0 t5 t6 @TU hfr.aN.bh @w1 @w1') ?_;refine WF.res T.c99 (r99 T X Z (w.ext Xx) ln Om _) ?_;rintro _ g2 ⟨x,hx,rfl,fn,fv⟩;have hml:(L'.map EV.ev).length=L'.length:=Tu _;have N4:jC s=if(eQ ln ((L'.length:Int)+1)).2≠0 then(L'.map EV.ev,(a:Int),(eQ ln ((L'.length:Int)+1)).2)else oZ (f'+1) rest (L'.map EV.ev++[(eQ ln ((L'.length:Int)+1)).1]) (a+ln.length+1):=by rw[N4,hml];rfl
  rw[<-hx]at N4;generalize (eQ ln ((L'.length:Int)+1)).2=er at N4 ⊢;have ox:a8 (h++g++g1++g2) x:=⟨fn.aN,fv.aN⟩;have st:∀{b':Nat}{a0 a1 a2 a3 a4:AV},iP 5 0 (.agg x.row) b' (.b [a0,a1,a2,a3,a4])=some (ar,.set b' (.b x.row)):=λ{_ _ _ _ _ _}=>ox.st
  by_cases he:er=0
  case neg=>
   have d2:decide (er≠0)=true:=Tq he;rw[Ty he]at N4;refine Rs (A5 t0 t5 t6 @st @d2) ?_;rw[N4];exact⟨L',_,rfl,rfl,((hfr.app g1).app g2).app _,λx hx=>(((hin x hx).app g1).app g2).app _⟩
  have d2:decide (er≠0)=false:=Tm (λz=>z he);rw[Tt (λz=>z he)]at N4;have ox2:a8 (h++g++g1++g2++[ai.b x.row]) x:=ox.ext ⟨_,rfl⟩;have bs:=@a8.FU _ _ ox2;refine Rs (A7 t0 t5 t6 @st @d2 @cA @bs) ?_;refine WR.fN (h0:=h) (cs:=L'.map EV.row) (ys:=[x.row]) ((((hfr.app _).app _).app _).app _) (Fr.push (N:=0) (TJ _) [x.row] (by intro y hy;rw[TD]at hy;rw[hy];rfl)).aN De Si (by simp only[Tu,Tl,Tr];omega) Xx ?_;intro g' N1 hff hkp;have hrow:L'.map EV.row++[x.row]=(L'++[x]).map EV.row:=by rw[Tx];rfl
  rw[hrow]at hff;rw[hrow];obtain⟨sn,Oe⟩:∃sn,sn=AV.slice (h++g++g1++g2++[ai.b x.row]++[ai.cells x.row true true]).length 0 ((L'++[x]).map EV.row).length 5:=⟨_,rfl⟩;rw[<-Oe]at hff ⊢;have PU:∀i,sB sn=some i->(h++g++g1++g2).length+2=i:=λi hi=>by rw[Oe]at hi;cases hi;simp only[Tg,TC]<;>omega
  have hout:∀b,sB out=some b->b<(h++g).length:=λb hb=>(hfr.bN hb).2
  have kp:∀i,i<(h++g++g1++g2).length->sB out≠some i->(h++g')[i]? =(h++g++g1++g2)[i]? :=λi hi hne=>by
   rw[hkp i (by simp only[Tg,TC]at hi ⊢;omega) (λb0 o n e he zz=>hne (by rw[he,zz];rfl)),Ti (h++g++g1++g2),Tj hi]
  have w2:IntKind.i64.wrap ((ln.length:Int)+1)=((ln.length+1:Nat):Int):=wrapN Om;have w3:IntKind.i64.wrap ((a:Int)+((ln.length+1:Nat):Int))=((a+ln.length+1:Nat):Int):=by rw[aR Om Om];omega
  refine Rs (A5 t0 t5 t6 @w2 @w3) ?_;refine⟨s.length-(a+ln.length+1),Om,a+ln.length+1,f',sn,L'++[x],g',Om,rfl,rfl,by simp;omega,?_,Om,hff,λy hy=>?_,rfl,rfl⟩
  ·rw[N4,Oz,Tx];rfl
  ·have lg:∀{i},i<(h++g).length->i<(h++g++g1++g2).length:=λ{i} hi=>by simp only[Tg]at hi ⊢;omega
   rcases Tn.1 hy with hy|hy
   ·have oy:=hin y hy;have ln:=λj (hj:sB y.sn=some j)=>(oy.n.bN hj).2
    have lv:=λj (hj:sB y.sv=some j)=>(oy.v.bN hj).2
    refine⟨((oy.n.app g1).app g2).ay λj hj=>kp j (lg (ln j hj)) (oy.dn j hj),((oy.v.app g1).app g2).ay λj hj=>kp j (lg (lv j hj)) (oy.dv j hj),λj hj e=>?_,λj hj e=>?_⟩
    ·have h1:=lg (ln j hj);have h2:=PU j e;omega
    ·have h1:=lg (lv j hj);have h2:=PU j e;omega
   ·rw[TD]at hy;subst hy;have ln:=λj (hj:sB y.sn=some j)=>fn.bN hj
    have lv:=λj (hj:sB y.sv=some j)=>fv.bN hj
    have en:(h++g++g1).length=(h++g).length+g1.length:=Tg;exact MV
 ·have e3:decide ((a:Int)<s.length)=false:=Tm Om;have e4:a=s.length:=Om
  have hnil:s.drop a=[]:=List.drop_eq_nil_of_le Om;rw[oZ,Ty hnil]at N4;refine Rs (A4 t0 t5 t6 e3) ?_;rw[N4];exact⟨L',_,rfl,rfl,hfr,hin⟩
end
def qF:Nat->Nat
 | 0=>198
 | 1=>126
 | 2=>200
 | 3=>201
 | 4=>202
 | 5=>203
 |_=>204
def gI(q:Nat×Bool×Nat):AV:=.agg [.bool q.2.1,.i (q.2.2:Nat),.func (.func (qF q.1)) [] []]
def zx:List (AV×AV):=[(.str [108,101,102,116],gI (0,true,4)),(.str [102,114,111,109],gI (1,true,5)),(.str [108,105,110,101,115],gI (2,true,3)),(.str [117,110,115,97,102,101],gI (3,false,2)),(.str [116,97,112,101,115],gI (4,true,2)),(.str [114,101,108,101,97,115,101,100],gI (5,false,5)),(.str [119,97,110,116],gI (6,true,0))]
def Ft(k:By):gF .s (.str k) zx=some ((jt k).map gI):=by
 unfold jt zx;by_cases h0:k=[108,101,102,116]
 ·subst h0;rfl
 have b0:(k==[108,101,102,116])=false:=by simp[h0]
 by_cases h1:k=[102,114,111,109]
 ·subst h1;rfl
 have b1:(k==[102,114,111,109])=false:=by simp[h1]
 by_cases h2:k=[108,105,110,101,115]
 ·subst h2;rfl
 have b2:(k==[108,105,110,101,115])=false:=by simp[h2]
 by_cases h3:k=[117,110,115,97,102,101]
 ·subst h3;rfl
 have b3:(k==[117,110,115,97,102,101])=false:=by simp[h3]
 by_cases h4:k=[116,97,112,101,115]
 ·subst h4;rfl
 have b4:(k==[116,97,112,101,115])=false:=by simp[h4]
 by_cases h5:k=[114,101,108,101,97,115,101,100]
 ·subst h5;rfl
 have b5:(k==[114,101,108,101,97,115,101,100])=false:=by simp[h5]
 by_cases h6:k=[119,97,110,116]
 ·subst h6;rfl
 have b6:(k==[119,97,110,116])=false:=by simp[h6]
 simp only[gF,cJ,b0,b1,b2,b3,b4,b5,b6,Tt h0,Tt h1,Tt h2,Tt h3,Tt h4,Tt h5,Tt h6];rfl
def zM{h:af}{r:Nat}(hb:h[r]? =some (.aK zx)){z:AV}{ok:Bool}{k:By}:fJ .s z ok (.map r) (.str k) (λb=>h[b]?)=jH z ok ((jt k).map gI):=ph hb (Ft k)
theorem pn:∀{l}{i:Nat},∀y∈bR l i,(i:Int)<=y/\y<(i:Int)+l.length
 |[],i,y,h=>by simp[bR]at h
 |x::r,i,y,h=>by
  rw[bR]at h;have key:y∈bR r (i+1)->(i:Int)<=y/\y<(i:Int)+(x::r).length:=λh=>by
   have:=pn y h;rw[Tl];omega
  split at h
  ·rcases TP.1 h with rfl|h
   ·rw[Tl];omega
   ·exact key h
  ·exact key h
section
variable {P:Program}(T:dB P) {h:af}
include T
theorem po{h ks ts Q g es a l z ps k v es'}(ha:a+1<=ts.length)(h1:(a=1)=False)(t1:slot ts 1=.map h.length)
  (hv:pG (dA z (ps.map λp=>(p.1,p.2.1,val ts p.2.2)))=some v) (hu:mI .s (.str k) v es=some es')
  (K:∀ts',ts'.length=ts.length->slot ts' 1=slot ts 1->WP P bS l ks ts' (h++[.aK es']++g) Q):
  WP P bS (.o a (.build z ps):: .x (.eO .s (.t 1) (.c (.str k)) (.t a))::l) ks ts (h++[.aK es]++g) Q:=by
 have e1:ru .s (.map h.length) (.str k) v (λb=>(h++[ai.aK es]++g)[b]?)=some (ar,.set h.length (.aK es')):=rr rJ hu;unfold aZ.o aZ.x;rw[pN,hv,rN,rS];have e2:val (put ts (some a) v) (.t 1)=.map h.length:=by
  simp only[nD,sf,bP,h1,t1]
 have e3:val (put ts (some a) v) (.t a)=v:=by simp only[nD,sf,bP,ha]
 rw[gy,e2,e3,vI,e1,pM,zy,nD];have e4:(h++[ai.aK es]++g).set h.length (.aK es')=h++[.aK es']++g:=vS;rw[e4];exact K _ (by simp only[bP]) (by simp only[bP,h1])
def r109:ao P 109 [] h (λv h'=>v=.map h.length/\h' =h++[.aK zx]):=by
 refine .of T.mix T.c109 ?_;obtain⟨ts,NK⟩:∃ts,ts=aM 10 []:=⟨_,rfl⟩;have hlen:ts.length=10:=by rw[NK];rfl
 unfold fn109;show WC P bS _ [] (aM 10 []) h _;rw[<-NK];clear NK;have m0:slot ((ts.set 0 AV.cH).set 1 (.map h.length)) 1=.map h.length:=by simp only[bP,hlen,reduceAdd,reduceLeDiff]
 have l0:((ts.set 0 AV.cH).set 1 (.map h.length)).length=10:=by simp only[bP,hlen]
 dsimp only[aj.j,aj.s,aj.r];rw[pO,pP,IA T,rV,pO,pP,IB T];rw[<-TH (h++[ai.aK []])];generalize (ts.set 0 AV.cH).set 1 (.map h.length)=ts0 at *;clear hlen;refine po T (v:=gI (0,true,4)) (es':=[(.str [108,101,102,116],gI (0,true,4))]) (by rw[l0];decide) (UI De) m0 rfl rfl ?_;intro O3 lx mx;have l1:=lx.trans l0;have m1:=mx.trans m0;clear lx mx l0 m0;refine po T (v:=gI (1,true,5)) (es':=[(.str [108,101,102,116],gI (0,true,4)),(.str [102,114,111,109],gI (1,true,5))]) (by rw[l1];decide) (UI De) m1 rfl rfl ?_;intro Qp lx mx;have l2:=lx.trans l1;have m2:=mx.trans m1;clear lx mx l1 m1;refine po T (v:=gI (2,true,3)) (es':=[(.str [108,101,102,116],gI (0,true,4)),(.str [102,114,111,109],gI (1,true,5)),(.str [108,105,110,101,115],gI (2,true,3))]) (by rw[l2];decide) (UI De) m2 rfl rfl ?_
 intro ts3 lx mx;have l3:=lx.trans l2;have m3:=mx.trans m2;clear lx mx l2 m2;refine po T (v:=gI (3,false,2)) (es':=[(.str [108,101,102,116],gI (0,true,4)),(.str [102,114,111,109],gI (1,true,5)),(.str [108,105,110,101,115],gI (2,true,3)),(.str [117,110,115,97,102,101],gI (3,false,2))]) (by rw[l3];decide) (UI De) m3 rfl rfl ?_;intro ts4 lx mx;have l4:=lx.trans l3;have m4:=mx.trans m3;clear lx mx l3 m3;refine po T (v:=gI (4,true,2)) (es':=[(.str [108,101,102,116],gI (0,true,4)),(.str [102,114,111,109],gI (1,true,5)),(.str [108,105,110,101,115],gI (2,true,3)),(.str [117,110,115,97,102,101],gI (3,false,2)),(.str [116,97,112,101,115],gI (4,true,2))]) (by rw[l4];decide) (UI De) m4 rfl rfl ?_
 intro ts5 lx mx;have l5:=lx.trans l4;have m5:=mx.trans m4;clear lx mx l4 m4;refine po T (v:=gI (5,false,5)) (es':=[(.str [108,101,102,116],gI (0,true,4)),(.str [102,114,111,109],gI (1,true,5)),(.str [108,105,110,101,115],gI (2,true,3)),(.str [117,110,115,97,102,101],gI (3,false,2)),(.str [116,97,112,101,115],gI (4,true,2)),(.str [114,101,108,101,97,115,101,100],gI (5,false,5))]) (by rw[l5];decide) (UI De) m5 rfl rfl ?_;intro ts6 lx mx;have l6:=lx.trans l5;have m6:=mx.trans m5;clear lx mx l5 m5;refine po T (v:=gI (6,true,0)) (es':=[(.str [108,101,102,116],gI (0,true,4)),(.str [102,114,111,109],gI (1,true,5)),(.str [108,105,110,101,115],gI (2,true,3)),(.str [117,110,115,97,102,101],gI (3,false,2)),(.str [116,97,112,101,115],gI (4,true,2)),(.str [114,101,108,101,97,115,101,100],gI (5,false,5)),(.str [119,97,110,116],gI (6,true,0))]) (by rw[l6];decide) (UI De) m6 rfl rfl ?_
 intro ts7 lx mx;have l7:=lx.trans l6;have m7:=mx.trans m6;clear lx mx l6 m6;have hlen:=l7;rw[TH];refine Rs @m7 ?_;rfl
section
variable {V:RV}(o:aE h V) (w:jl V.aC)
include o w
def r198(Z:nY P)(pw:Pw h){n}(hn:n∈hC V.aC):ao P 198 [.agg V.row,.str n] h (λv k=>aA k v 1 ((jj V.aC n 0).map an)):=by
 refine .dU 10 T.mix T.c198 ?_;intro ts hlen t0 t1;unfold fn198 gA;have NJ:=@aE.box _ _ o;have l:=w.len;refine Rs (A4 t0 t1 @NJ @bu) ?_;refine WF.res T.c124 (r124 T (o.ext Xx) l hn) ?_;rintro _ g1 ⟨x,hx,PO,rfl⟩;have hj:=w.jb x.1 (TR hx);refine Rs (A2 t0 t1) ?_;refine WF.res T.c125 (r125 T ((o.e4 x hx).ext Xx) Om (λs hs=>(hj.2.2.2 s hs).1)) ?_;intro v g2 hv;have QQ:=jZ (l:=x.1.bQ) (i:=0);refine Rs (A2 t0 t1) ?_;refine WF.res T.c199 (r199 T hv Om gW (λy hy k ek=>by
  have:=pn y hy;exact vG T Z Om Om (pw.ext (Ext.trans Xx ek)))) ?_
 intro v3 g3 hv3;have hr:=hv3.aN;refine Rs t0 ?_;rw[PO]at hr;exact hr
def r200(n:By):ao P 200 [.agg V.row,.str n] h (λv k=>aA k v 1 ((jj V.aC n 2).map an)):=by
 refine .dU 9 T.mix T.c200 ?_;intro ts hlen t0 t1;unfold fn200 gA;have NJ:=@aE.box _ _ o;have l:=w.len;have hin:∀x∈V.aI,x.1.bt.length<2^30:=λx hx=>by have:=(w.md x.1 (TR hx)).2.1;omega
 refine Rs (A4 t0 t1 @NJ @bu) ?_;refine WF.res T.c122 (r122 T (o.ext Xx) l hin _) ?_;rintro v3 g3 h3;have hsl:(jA V.aC n).length<2^30:=by
  have h1:(jA V.aC n).length<=V.aC.lines.length:=by unfold jA;exact Uc _ _
  have:=w.l0;omega
 refine Rs (A2 t0 t1) ?_;refine WF.res T.c121 (r121 T h3 Om (λx=>x.name) (λx _ k _=>aQ.of (a:=[]) (c:=[]) T.c123 (r123 T x))) ?_;intro v4 g4 h4;have hr:=h4.aN;refine Rs t0 ?_;exact hr
def r201(n:By):ao P 201 [.agg V.row,.str n] h (λv k=>aA k v 1 ((jj V.aC n 3).map an)):=by
 refine .dU 9 T.mix T.c201 ?_;intro ts hlen t0 t1;unfold fn201 gA;have NJ:=@aE.box _ _ o;have l:=w.len;refine Rs (A5 t0 t1 @NJ @bu @vV) ?_;refine WF.res T.c80 (r80 T (o.ext Xx) l w.zX _) ?_;intro v4 g4 h4;refine Rs t0 ?_;exact h4
def r202{n}(hn:n∈oM V.aC):ao P 202 [.agg V.row,.str n] h (λv k=>aA k v 1 ((jj V.aC n 4).map an)):=by
 refine .dU 9 T.mix T.c202 ?_;intro ts hlen t0 t1;unfold fn202 gA;have NJ:=@aE.box _ _ o;have l:=w.len;refine Rs (A4 t0 t1 @NJ @bu) ?_;refine WF.res T.c77 (r77 T (o.ext Xx) l hn) ?_;rintro _ g1 ⟨x,hx,PO,rfl⟩;have hr:=(o.e2 x hx);unfold aW;refine Rs (A2 t0 t1) ?_;rw[PO]at hr;exact hr.ext Xx
end
end
def xI{l x}:pW (l++[x])=pW l++(if x.rel then [x.name,gW x.kZ]else []):=by
 unfold pW;simp only[Tx,UT,Un,List.map_nil,Ul,List.flatten_nil,TH]
theorem oT:∀{l},(pW l).length<=2*l.length
 |[]=>by simp[pW]
 |x::r=>by
  have:=oT (l:=r);unfold pW at this ⊢;rw[Un,Ul,Tg,Tl];split
  ·simp only[Tl,Tr];omega
  ·simp only[Tr];omega
section
variable {P:Program}(T:dB P) {h:af}
include T
section
variable {V:RV}(o:aE h V) (w:jl V.aC)
include o w
def r203(Z:nY P)(pw:Pw h)(n:By):ao P 203 [.agg V.row,.str n] h (λv k=>aA k v 1 ((jj V.aC n 5).map an)):=by
 refine .dU 27 T.mix T.c203 ?_;intro ts hlen t0 t1;unfold fn203 gA;have NJ:=@aE.box _ _ o;have l5:V.aO.length<=16:=w.l5;refine Rs (A5 t0 t1 @NJ @kv o.i5.bh) ?_;refine WL.inv T.mix (λn ts h'=>∃(k:Nat) (out:AV) (g:af),k<=V.aO.length/\n=V.aO.length-k/\h' =h++g/\Fr h.length (h++g) out 1 ((pW (V.aO.take k)).map an)/\
   ts.length=27/\slot ts 5=out/\slot ts 9=V.s5/\slot ts 10=.i V.aO.length/\slot ts 11=.i k) V.aO.length
  ⟨0,.ah,_,Om,rfl,rfl,.nil,Sn,(Sq t1),Sw,(Sq t0),my⟩ ?_
 rintro _ ts _ ⟨k,out,g,hk,rfl,rfl,hfr,hlen,t5,t9,t10,t11⟩;by_cases hlt:k<V.aO.length
 ·have e3:=hX hlt;have e5:=wrapN (n:=k) Om;have ix:=o.i5.eX (kk:=.i64) hlt;have ld:∀{k'},Ext (h++g) k'->au (some 4) (dG V.s5 4 k) (λb=>k'[b]?)=some (.agg (cS V.aO[k]),.aq):=λ{k'} e=>o.i5.lO hlt (Ext.trans Xx e)
  obtain⟨x,hx⟩:∃x,x=V.aO[k]:=⟨_,rfl⟩;have Qu:x∈V.aO:=by rw[hx];exact TE _
  have hpc:=w.pc x Qu;have Oy:V.aO.take (k+1)=V.aO.take k++[x]:=by rw[hx,T9,Tk hlt];rfl
  have PR:=oT (l:=V.aO.take k);have htl:(V.aO.take k).length<=16:=by rw[UB];omega
  have Oe:=xI (l:=V.aO.take k) (x:=x);rw[<-hx]at ld;unfold cS at ld;cases hrel:x.rel with
  |false=>
   rw[hrel]at ld Oe;rw[Tt Si,TH,<-Oy]at Oe;rw[<-Oe]at hfr;refine Rs (A8 t5 t9 t10 t11 e3 e5 ix @ld) ?_;exact⟨V.aO.length-(k+1),Om,k+1,out,_,Om,rfl,Ti _ _ _,by rw[<-Ti];exact hfr.app _,rfl,rfl⟩
  |true=>
   rw[hrel]at ld Oe;rw[Ty rfl,<-Oy]at Oe;refine Rs (A7 t5 t9 t10 t11 e3 ix @ld) ?_;refine WF.ce T.c113 (Z.itoa Om Om (pw.ext Xx)) λg1=>?_
   rw[fo hpc.2.1];refine Rs (A4 t5 t9 t10 t11) ?_;refine WR.F5 (h0:=h) (cs:=(pW (V.aO.take k)).map an) (ys:=([x.name,gW x.kZ] :List (By)).map an) (((hfr.app _).app _).app _) (Fr.push (N:=0) (TJ _) (([x.name,gW x.kZ] :List (By)).map an) (by simp[an])).aN De (by simp;omega) Xx ?_;intro s' g' hff hkp hle;rw[<-Tx,<-Oe]at hff;refine Rs (A5 t5 t9 t10 t11 e5) ?_;exact⟨V.aO.length-(k+1),Om,k+1,s',g',Om,rfl,rfl,hff,rfl,rfl⟩
 ·have e3:=jf hlt;have e4:k=V.aO.length:=Om
  refine Rs (A5 t5 t9 t10 t11 e3) ?_;rw[e4,T7]at hfr;exact hfr.aN
def r204(Z:nY P)(pw:Pw h){n}(hn:n∈jy V.aC):ao P 204 [.agg V.row,.str n] h (λv k=>aA k v 1 ((jj V.aC n 6).map an)):=by
 refine .dU 22 T.mix T.c204 ?_;intro ts hlen t0 t1;unfold fn204 gA;have NJ:=@aE.box _ _ o;have l:=w.len;have QD:=w.ln _ (fK (f:=jx.name) (l:=V.aC.lines) (n:=n) (d:=BG) hn);have QQ:(V.al.filter λx=>decide (x.1.line=n)).length<=V.al.length:=Uc _ _;have hl2:=l.l2;have hof:(BE V.aC n).length=(V.al.filter λx=>decide (x.1.line=n)).length:=by
  unfold BE;simp only[RV.aC,Vq,Tu];rfl
 refine Rs (A4 t0 t1 @NJ @bu) ?_;refine WF.ce T.c205 (r205 T (o.ext Xx) l hn) λg1=>?_
 have Qm:jj V.aC n 6=[gW (BE V.aC n).length,gW (fk V.aC n).want,if(fk V.aC n).acc then [97,99,99,101,112,116,101,100]else [111,112,101,110]]:=rfl;have QD:1<=(fk V.aC n).want/\(fk V.aC n).want<=64:=QD;generalize fk V.aC n=y at Qm QD ⊢;unfold bX;rw[hof]at Qm;cases RK:y.acc with
 |true=>
  rw[RK]at Qm;refine Rs (A4 t0 t1 @bu @RK) ?_;refine WF.res T.c206 (r206 T (o.ext Xx) l n) ?_;intro v2 g2 h2;refine Rs (A3 t0 t1 h2.bh) ?_;refine WF.ce T.c113 (Z.itoa Om Om (pw.ext Xx)) λg3=>?_
  rw[fo Om];refine Rs (A2 t0 t1) ?_;refine WF.ce T.c113 (Z.itoa Om Om (pw.ext Xx)) λg4=>?_
  rw[fo Om];refine Rs (A2 t0 t1) ?_;rw[Qm];exact(Fr.push (es:=1) (N:=0) (TJ _) (([gW ((V.al.filter λx=>decide (x.1.line=n)).length:Nat),gW y.want,[97,99,99,101,112,116,101,100]] :List (By)).map an) (by simp[an])).aN
 |false=>
  rw[RK]at Qm;refine Rs (A4 t0 t1 @bu @RK) ?_;refine WF.res T.c206 (r206 T (o.ext Xx) l n) ?_;intro v2 g2 h2;refine Rs (A3 t0 t1 h2.bh) ?_;refine WF.ce T.c113 (Z.itoa Om Om (pw.ext Xx)) λg3=>?_
  rw[fo Om];refine Rs (A2 t0 t1) ?_;refine WF.ce T.c113 (Z.itoa Om Om (pw.ext Xx)) λg4=>?_
  rw[fo Om];refine Rs (A2 t0 t1) ?_;rw[Qm];exact(Fr.push (es:=1) (N:=0) (TJ _) (([gW ((V.al.filter λx=>decide (x.1.line=n)).length:Nat),gW y.want,[111,112,101,110]] :List (By)).map an) (by simp[an])).aN
end
end
def tf{n}(h:ff n=true):n.length<=24:=by
 cases n with
 |nil=>cases h
 |cons c r=>
  unfold ff at h;simp only[TL,T3]at h;rw[Tl];omega
def rq{l}(h:nq l){n}(hn:n∈l):n.length<=24:=tf (h.nm n hn)
theorem mT{c}:∀{l},(∀x∈l,x.length<=64)->(gE c l).length<=65*l.length
 |[],_=>TJ _
 |x::r,h=>by
  have ih:=mT (c:=c) (l:=r) λy hy=>h y (TK _ hy)
  have hx:=h x Si;by_cases hr:r=[]
  ·subst hr;simp only[gE,Tl,Tr];omega
  ·rw[kW hr,Tg,Tl,Tl];omega
theorem qv:∀{l m:List (By)},l.Nodup->(∀x∈l,x∈m)->l.length<=m.length
 |[],_,_,_=>TJ _
 |x::r,m,hd,hs=>by
  rw[VH]at hd;have hm:=hs x Si;have:=qv (l:=r) (m:=m.erase x) hd.2 λy hy=>(List.mem_erase_of_ne (λe=>hd.1 (by rw[<-e];exact hy))).2 (hs y (TK _ hy))
  rw[List.length_erase_of_mem hm]at this;have:=List.length_pos_of_mem hm;rw[Tl];omega
def F7{R:fy}(w:jl R){n k:By}{q:Nat×Bool×Nat}(hq:jt k=some q)(hn:q.2.1=true->ez R q.2.2 n=true):(∀x∈jj R n q.1,x.length<=64)/\(jj R n q.1).length<=64:=by
 have dl:∀{y:Int},0<=y->y<99999999->(gW y).length<=64:=λ{y} h0 h1=>by have:=j8 (k:=7) (u:=y.toNat) Om;rw[jh];omega
 unfold jt at hq
 repeat' split at hq
 all_goals cases hq
 ·have hm:n∈hC R:=UH (hn rfl);have hj:=w.jb _ (fK (f:=mE.name) (l:=R.aH) (n:=n) (d:=zH) hm);have QQ:=jZ (l:=(fQ R n).bQ) (i:=0);have hj:(fQ R n).bQ.length<=32:=hj.2.2.1;refine⟨λx hx=>?_,?_⟩
  ·obtain⟨y,hy,rfl⟩:=TI.1 hx;have:=pn y hy;exact z141
  ·show((bR _ _).map gW).length<=64;rw[Tu];omega
 ·refine⟨λx hx=>?_,?_⟩
  ·exact Mw
  ·show(lF R n).length<=64;unfold lF;exact z138
 ·refine⟨λx hx=>?_,?_⟩
  ·obtain⟨y,hy,rfl⟩:=TI.1 hx;have:=rq w.n0 (TR (f:=jx.name) (UK.1 hy).1);omega
  ·show((jA R n).map jx.name).length<=64;unfold jA;rw[Tu];have:=Uc (λl:jx=>decide (l.name∈(te R n).map jo.line)) R.lines;have:=w.l0;omega
 ·refine⟨λx hx=>?_,?_⟩
  ·exact Mw
  ·show(iO R R.tick).length<=64;unfold iO;exact z138
 ·have hm:n∈oM R:=UH (hn rfl);have hs:=w.sh _ (fK (f:=km.name) (l:=R.al) (n:=n) (d:=ET) hm);refine⟨λx hx=>?_,?_⟩
  ·have:=rq w.n1 (hs.2.2.2 x hx);omega
  ·have:=qv hs.2.2.1 hs.2.2.2;have h1:(kJ R).length<=16:=by unfold kJ;rw[Tu];exact w.l1
   exact Ur this Om
 ·refine⟨λx hx=>?_,?_⟩
  ·obtain⟨l,hl,hx⟩:=List.mem_flatten.1 hx;obtain⟨p,hp,rfl⟩:=TI.1 hl;have hpc:=w.pc p hp;split at hx
   ·simp only[TP,Ui,UO]at hx;rcases hx with rfl|rfl
    ·have:=rq w.n5 (TR (f:=mA.name) hp);omega
    ·exact dl hpc.2.1 Om
   ·cases hx
  ·have:=oT (l:=R.aO);have:=w.l5;show(pW R.aO).length<=64;omega
 ·have hm:n∈jy R:=UH (hn rfl);have hw:=w.ln _ (fK (f:=jx.name) (l:=R.lines) (n:=n) (d:=BG) hm);have hw:1<=(fk R n).want/\(fk R n).want<=64:=hw;have ho:(BE R n).length<=64:=Ur (Uc _ _) w.l2;refine⟨λx hx=>?_,by show(3:Nat)<=64;omega⟩;have hx:x∈[gW (BE R n).length,gW (fk R n).want,if(fk R n).acc then [97,99,99,101,112,116,101,100]else [111,112,101,110]]:=hx;simp only[TP,Ui,UO]at hx;rcases hx with rfl|rfl|rfl
  ·exact z141
  ·exact z141
  ·split<;>decide
section
variable {P:Program}(T:dB P) {h:af}
include T
def Ng{V}(o:aE h V)(w:jl V.aC)(Z:nY P)(pw:Pw h){n k q}(hq:jt k=some q)(hn:q.2.1=true->ez V.aC q.2.2 n=true):
  aQ P (.func (.func (qF q.1)) [] []) [.agg V.row,.str n] h (λv k'=>aA k' v 1 ((jj V.aC n q.1).map an)):=by
 unfold jt at hq
 repeat' split at hq
 all_goals cases hq
 ·exact aQ.of (a:=[]) (c:=[]) T.c198 (r198 T o w Z pw (UH (hn rfl)))
 ·exact aQ.of (a:=[]) (c:=[]) T.c126 (r126 T o w (UH (hn rfl)))
 ·exact aQ.of (a:=[]) (c:=[]) T.c200 (r200 T o w n)
 ·exact aQ.of (a:=[]) (c:=[]) T.c201 (r201 T o w n)
 ·exact aQ.of (a:=[]) (c:=[]) T.c202 (r202 T o w (UH (hn rfl)))
 ·exact aQ.of (a:=[]) (c:=[]) T.c203 (r203 T o w Z pw n)
 ·exact aQ.of (a:=[]) (c:=[]) T.c204 (r204 T o w Z pw (UH (hn rfl)))
end
def AI(k:Nat):aj:=(fn110).body.dr k
def CO(k:Nat):aj:=(AI k).hd
def Ma:fn110=⟨69,2,[(4,none),(5,none)],.seq (CO 0) (.seq (CO 1) (.seq (CO 2) (.seq (CO 3) (.seq (CO 4) (AI 5)))))⟩:=rfl
def L9:AI 5=.seq (CO 5) (.seq (CO 6) (AI 7)):=rfl
def KF{k q}(hq:jt k=some q):q.2.2<6:=by
 unfold jt at hq
 repeat' split at hq
 all_goals cases hq
 all_goals decide
section
variable {P:Program}(T:dB P) {h W:af}{ts:TS}
include T
def D7{VN n k i wt b6 b8 nm}(oV:aE W VN)(wV:jl VN.aC)(Z:nY P)(pw:Pw W)(hq:jt k=some (i,nm,wt))(hn:nm=true->ez VN.aC wt n=true)
  (m6:W[b6]? =some (.b [.bool nm,.i (wt:Nat),.func (.func (qF i)) [] []])) (m8:W[b8]? =some (.b VN.row)) (hlen:ts.length=69) (t6:slot ts 6=.ptr b6 0) (t7:slot ts 7=.str n) (t8:slot ts 8=.ptr b8 0) (he:Ext h W):
  WC P bS (AI 7) [] ts W (FQ [(4,none),(5,none)] λv k=>Ext h k/\v=.dh [.str (vz (jj VN.aC n i)),.i 0]):=by
 have l6:∀{k:af}{n':Option Nat}{a:Nat},Ext W k->au n' (.ptr b6 a) (λz=>k[z]?)=dy n' a (.b [.bool nm,.i (wt:Nat),.func (.func (qF i)) [] []]):=λe=>az (e.some m6)
 have l8:∀{k:af}{n':Option Nat}{a:Nat},Ext W k->au n' (.ptr b8 a) (λz=>k[z]?)=dy n' a (.b VN.row):=λe=>az (e.some m8)
 have hbd:=F7 wV hq hn;have hv0:=Ng T oV wV Z pw hq hn;unfold AI fn110 gA;simp only[aj.j,aj.s,aj.r,aj.dr,aj.tl,aj.hd];refine Rs (A6 t6 t7 t8 @l6 @l8 @bu) ?_;refine WF.val hv0 ?_;intro v g hv;have hbd:(∀x∈jj VN.aC n i,x.length<=64)/\(jj VN.aC n i).length<=64:=hbd;have hv:aA (W++g) v 1 ((jj VN.aC n i).map an):=hv;generalize jj VN.aC n i=L at hbd hv ⊢;by_cases hL:L=[]
 ·have d0:decide ((L.length:Int)=0)=true:=Tq (by rw[hL];rfl);refine Rs (A5 t6 t7 t8 hv.bh @d0) ?_;exact⟨he.trans Xx,by rw[vz,Ty hL]⟩
 ·have Sm:0<L.length:=Vj.2 hL;have d0:decide ((L.length:Int)=0)=false:=Tm Om;have hj:=mT (c:=32) hbd.1;refine Rs (A5 t6 t7 t8 hv.bh @d0) ?_;refine WF.ce T.c114 (Z.join hv ⟨by rw[pq];omega,Om⟩) λg2=>?_
  refine Rs t6 ?_;exact⟨he.trans Xx,by rw[vz,Tt hL,pq]⟩
def D6{V b n k i wt b6 nm}(o:w9 h b V)(w:kH V.bp)(hl:V.cp.length<=1000)(Z:nY P)(pw:Pw h)(hq:jt k=some (i,nm,wt))(he:Ext h W)
  (m6:W[b6]? =some (.b [.bool nm,.i (wt:Nat),.func (.func (qF i)) [] []])) (hlen:ts.length=69) (t0:slot ts 0=.ptr b 0) (t6:slot ts 6=.ptr b6 0) (t7:slot ts 7=.str n) {R}
  (hR:R=if nm=true/\ez V.bp.now wt n=false then([],10)else(vz (jj V.bp.now n i),0)):
  WC P bS (AI 5) [] ts W (FQ [(4,none),(5,none)] λv k=>Ext h k/\v=.dh [.str R.1,.i R.2]):=by
 have l6:∀{k:af}{n':Option Nat}{a:Nat},Ext W k->au n' (.ptr b6 a) (λz=>k[z]?)=dy n' a (.b [.bool nm,.i (wt:Nat),.func (.func (qF i)) [] []]):=λe=>az (e.some m6)
 have hwt:wt<6:=KF hq;obtain⟨RR,Ou⟩:∃RR,RR=AI 7:=⟨_,rfl⟩;have o2:=o.ext he;have oV:=o2.now;have wV:jl V.now.aC:=by rw[V.gR];exact w.now
 rw[<-V.gR]at hR;have st:=λ{b':Nat}{a0 a1 a2 a3 a4 a5 a6:AV}=>@aE.st _ _ oV b' a0 a1 a2 a3 a4 a5 a6 false
 rw[L9,<-Ou];unfold CO AI fn110 gA;simp only[aj.j,aj.s,aj.r,aj.dr,aj.tl,aj.hd];refine Rs (A3 t0 t6 t7) ?_;refine WF.ce T.c79 (r79 T o2 hl) λg1=>?_
 cases nm with
 |false=>
  rw[Tt Si]at hR;refine Rs (A6 t0 t6 t7 @st @l6 @bu) ?_;rw[hR,Ou];exact D7 T (VN:=V.now) (b6:=b6) (b8:=(W++g1).length) (oV.ext Xx) wV Z (pw.ext (he.trans Xx)) hq (λe=>by cases e) (Ext.some Xx m6) (by rw[To (Ts _),Uf];rfl) (Sq t0) (Sq t6) (Sq t7) (Sq t0) (he.trans Xx)
 |true=>
  refine Rs (A6 t0 t6 t7 @st @l6 @bu) ?_;refine WF.ce T.c86 (r86 T (oV.ext Xx) wV.len hwt n) λg2=>?_
  cases hhs:ez V.now.aC wt n with
  |false=>
   rw[Ty ⟨rfl,hhs⟩]at hR;refine Rs (A5 t0 t6 t7 @hhs @TW) ?_;exact⟨he.trans Xx,by rw[hR]⟩
  |true=>
   rw[Tt (by rw[hhs];simp)]at hR;refine Rs (A5 t0 t6 t7 @hhs @TU) ?_;rw[hR,Ou];exact D7 T (VN:=V.now) (b6:=b6) (b8:=(W++g1).length) (oV.ext Xx) wV Z (pw.ext (he.trans Xx)) hq (λ_=>hhs) (Ext.some Xx m6) (Ext.some (h:=W++g1++[ai.b V.now.row]) Xx (by rw[To (Ts _),Uf];rfl)) (Sq t0) (Sq t6) (Sq t7) (Sq t0) (he.trans Xx)
end
def yh:((false:Bool)==false)=true:=rfl
def ye:((true:Bool)==true)=true:=rfl
def yf:((true:Bool)==false)=false:=rfl
def yg:((false:Bool)==true)=false:=rfl
section
variable {P:Program}(T:dB P) {h:af}
include T
def r110{V b}(o:w9 h b V)(w:kH V.bp)(hl:V.cp.length<=1000)(Z:nY P)(pw:Pw h){s ws}(hs:aA h s 1 (ws.map an))(hne:0<ws.length)(hwl:ws.length<2^62){q}(hq:jt (ws.headD [])=some q):
  ao P 110 [.ptr b 0,s] h (λv _=>v=.dh [.str (k8 V.bp.now ws q).1,.i (k8 V.bp.now ws q).2]):=by
 refine .of T.mix (Eq.trans T.c110 (TO some Ma)) ?_;obtain⟨ts,NK⟩:∃ts,ts=aM 69 [.ptr b 0,s]:=⟨_,rfl⟩;have hlen:ts.length=69:=by rw[NK];rfl
 have t0:slot ts 0=.ptr b 0:=by rw[NK];rfl
 have t1:slot ts 1=s:=by rw[NK];rfl
 obtain⟨RR,Ou⟩:∃RR,RR=AI 5:=⟨_,rfl⟩;obtain⟨i,nm,wt⟩:=q;show WC P bS _ [] (aM 69 [.ptr b 0,s]) h (FQ _ (λv k=>Ext h k/\v=.dh [.str (k8 V.bp.now ws (i,nm,wt)).1,.i (k8 V.bp.now ws (i,nm,wt)).2]));rw[<-NK,<-Ou];clear NK;have SG:ws[0]=ws.headD []:=by cases ws with|nil=>simp at hne|cons a r=>rfl
 have n8:=hs.n8 (kk:=.i64) hne;have ld0:∀{k:af},Ext h k->au none (dG s 1 0) (λb=>k[b]?)=some (.str (ws.headD []),.aq):=λ{k} e=>by rw[<-SG];exact hs.kV (i:=0) hne rfl e
 unfold CO AI fn110 gA;simp only[aj.j,aj.s,aj.r,aj.dr,aj.tl,aj.hd];refine Rs (A2 t0 t1) ?_;refine WF.res T.c109 (r109 T) ?_;rintro _ g1 ⟨rfl,hg⟩;have hg:g1=[.aK zx]:=UZ hg;subst hg;have lk:∀{z:AV},fJ .s z false (.map h.length) (.str (ws.headD [])) (λb=>(h++[ai.aK zx])[b]?)=jH z false ((jt (ws.headD [])).map gI):=zM (by rw[To (Ts _),Uf];rfl);rw[hq]at lk;have N8:∀{z:AV},_=some (AV.agg [.bool nm,.i (wt:Nat),.func (.func (qF i)) [] []],fR.aq):=@lk;have m6:∀{k:af},Ext (h++[ai.aK zx]++[ai.b [.bool nm,.i (wt:Nat),.func (.func (qF i)) [] []]]) k->k[(h++[ai.aK zx]).length]? =some (ai.b [.bool nm,.i (wt:Nat),.func (.func (qF i)) [] []]):=λe=>e.some (by rw[To (Ts _),Uf];rfl)
 have hsyn:∀{x:By×Int},x=([],25)->k8 V.bp.now ws (i,nm,wt)=([],25)->∀{k:af},Ext h k->(Ext h k/\AV.dh [.str [],.i 25]=.dh [.str (k8 V.bp.now ws (i,nm,wt)).1,.i (k8 V.bp.now ws (i,nm,wt)).2]):=λ_ he k e=>⟨e,by rw[he]⟩
 cases nm with
 |false=>
  have OP:k8 V.bp.now ws (i,false,wt)=if ws.length≠1 then([],25)else(vz (jj V.bp.now [] i),0):=by
   unfold k8;simp
  by_cases e1:ws.length=1
  ·have d1:decide ((ws.length:Int)≠1)=false:=Tm (λz=>z Om);have d2:decide ((ws.length:Int)=2)=false:=Tm Om;refine Rs (JP t0 t1 @n8 @ld0 @bn @N8 @fP @yh @ye @yf @yg hs.bh @d1 @d2 @TW @TU) ?_;rw[Ou];exact D6 T (n:=[]) o w hl Z pw hq Xx (m6 Xx) (Sq t0) (Sq t0) (Sq t0) (Sq t0) (by rw[OP,Tt (by simpa using e1),Tt Si])
  ·have d1:decide ((ws.length:Int)≠1)=true:=Tq Om;rw[Ty e1]at OP;by_cases e2:ws.length=2
   ·have d2:decide ((ws.length:Int)=2)=true:=Tq Om;have d3:decide (([] :By)≠[])=false:=rfl;refine Rs (JO t0 t1 @n8 @ld0 @bn @N8 @fP @yh @ye @yf @yg hs.bh @d1 @d2 @d3 @TW @TU) ?_;rw[OP]
   ·have d2:decide ((ws.length:Int)=2)=false:=Tm Om;refine Rs (JP t0 t1 @n8 @ld0 @bn @N8 @fP @yh @ye @yf @yg hs.bh @d1 @d2 @TW @TU) ?_;rw[OP]
 |true=>
  by_cases e2:ws.length=2
  ·have d2:decide ((ws.length:Int)=2)=true:=Tq Om;have hw1:ws[1]=ws.getD 1 []:=by rw[TF,Tk Om];rfl
   have ix1:aV 1 s (.i 1)=some (dG s 1 1,.aq):=hs.eX (kk:=.i64) (i:=1) Om;have Ro:∀{k:af},Ext h k->au none (dG s 1 1) (λb=>k[b]?)=some (.str (ws.getD 1 []),.aq):=λ{k} e=>by rw[<-hw1];exact hs.kV (i:=1) Om rfl e
   have OP:k8 V.bp.now ws (i,true,wt)=if ws.getD 1 []=[]then([],25)else if ez V.bp.now wt (ws.getD 1 [])=false then([],10)else(vz (jj V.bp.now (ws.getD 1 []) i),0):=by
    unfold k8;simp only[e2,and_true,TQ,VJ,ne_eq,Bool.true_eq_false,false_and,UO,U1]
   generalize ws.getD 1 []=n at Ro OP;by_cases hn:n=[]
   ·have d3:decide (n≠[])=false:=Tm (λz=>z hn);rw[Ty hn]at OP;refine Rs (Mn t0 t1 @n8 @ld0 @ix1 @Ro @bn @N8 @fP @yh @ye @yf @yg hs.bh @d2 @d3 @TW @TU) ?_;rw[OP]
   ·have d3:decide (n≠[])=true:=Tq hn;rw[Tt hn]at OP;refine Rs (Mn t0 t1 @n8 @ld0 @ix1 @Ro @bn @N8 @fP @yh @ye @yf @yg hs.bh @d2 @d3 @TW @TU) ?_;rw[Ou];exact D6 T (n:=n) o w hl Z pw hq Xx (m6 Xx) (Sq t0) (Sq t0) (Sq t0) (Sq t0) (by rw[OP];simp)
  ·have d2:decide ((ws.length:Int)=2)=false:=Tm Om;have OP:k8 V.bp.now ws (i,true,wt)=([],25):=by
    unfold k8;simp[e2]
   refine Rs (Nc t0 t1 @n8 @ld0 @bn @N8 @fP @yh @ye @yf @yg hs.bh @d2 @TW @TU) ?_;rw[OP]
end
def ko(B h0:af)(b:Nat)(V:HV)(R:gM×By×Int)(v:AV)(k:af):Prop:=∃g' V',k=B++g'/\v=.dh [.str R.2.1,.i R.2.2]/\bT B.length (B++g') b V'/\V'.bp=R.1/\
 (∀i,i<h0.length->some i∉V.ex b->(B++g')[i]? =h0[i]?)/\∀j,some j∈V'.ex b->some j∈V.ex b\/h0.length<=j
def ko.same{B W k b V m c}(o:bT B.length W b V)(e:Ext B W)(e2:Ext W k){R}(hR:R=(V.bp,m,c)):ko B W b V R (.dh [.str m,.i c]) k:=by
 obtain⟨z,rfl⟩:=e;obtain⟨y,rfl⟩:=e2;exact⟨z++y,V,by rw[Ti],by rw[hR],by rw[<-Ti];exact o.app y,by rw[hR],λi hi _=>by rw[<-Ti,Tj hi],λj hj=>.inl hj⟩
def ko.low{B h0 W k b V R v}(s:ko B W b V R v k)(e:Ext h0 W):ko B h0 b V R v k:=by
 obtain⟨g',V',h1,h2,h3,h4,h5,h6⟩:=s;obtain⟨z,rfl⟩:=e;refine⟨g',V',h1,h2,h3,h4,λi hi hn=>?_,λj hj=>?_⟩
 ·rw[h5 i (by rw[Tg];omega) hn,Tj hi]
 ·rcases h6 j hj with h|h
  ·exact .inl h
  ·exact .inr (by rw[Tg]at h;omega)
def oR(H:gM)(ws:List (By)):gM×By×Int:=
 if(du ws).2=false then(H,[],25)else
 if 1000<=H.cI.length then(H,[],5)else
 if dV H { (du ws).1 with num:=(H.cI.length:Int)+1}≠0 then(H,[],dV H { (du ws).1 with num:=(H.cI.length:Int)+1})
 else(jQ H { (du ws).1 with num:=(H.cI.length:Int)+1},[100,111,110,101,32]++gW ((H.cI.length:Int)+1),0)
def Aj{H s}:x6 H s=if 4096<s.length then(H,[],26)else if s=[]then(H,[],25)else
  match jt ((aY 32 s).headD [])with
  |some q=>(H,k8 H.now (aY 32 s) q)
  |none=>
   match gb ((aY 32 s).headD [])with
   |none=>(H,[],13)
   |some _=>oR H (aY 32 s):=by
 unfold x6;by_cases h1:4096<s.length
 ·rw[Ty h1,Ty h1]
 rw[Tt h1,Tt h1];by_cases h2:s=[]
 ·rw[Ty h2,Ty h2]
 rw[Tt h2,Tt h2];cases jt ((aY 32 s).headD [])with
 |some q=>rfl
 |none=>
  cases gb ((aY 32 s).headD [])with
  |none=>rfl
  |some d=>
   simp only;unfold oR;cases (du (aY 32 s)).2<;>rfl
def Gz(k:Nat):aj:=(fn43).body.dr k
def FM(k:Nat):aj:=(Gz k).hd
def L1:fn43=⟨97,2,[(4,none),(5,none)],.seq (FM 0) (.seq (FM 1) (.seq (FM 2) (.seq (FM 3) (.seq (FM 4) (.seq (FM 5) (Gz 6))))))⟩:=rfl
section
variable {P:Program}(T:dB P) {B W:af}{ts:TS}
include T
def Jq{V b x}(he:Ext B W)(o:bT B.length W b V)(w:kH V.bp)(hl:V.cI.length<1000)(ox:a8 W x)(hxl:x.ev.names.length<=2^40/\x.ev.cK.length<=2^40)(gl:Gl B):
  cT P 112 [.ptr b 0,.agg x.row] W (λv k=>GF B W b V x.ev v k):=by
 obtain⟨g,rfl⟩:=he;exact IP T o w hl ox hxl gl
def L0{V b}(he:Ext B W)(o:bT B.length W b V)(w:kH V.bp)(hl:V.cI.length<=1000)(gl:Gl B)(pw:Pw B)(Z:nY P){sv ws}(hs:aA W sv 1 (ws.map an))(hwl:∀x∈ws,x.length<=2^40)
  (hlen:ts.length=97) (t0:slot ts 0=.ptr b 0) (t7:slot ts 7=sv):WC P bS (Gz 6) [] ts W (FQ [(4,none),(5,none)] λv k=>ko B W b V (oR V.bp ws) v k):=by
 have PR:=sV ws;have Q2:V.bp.cI.length=V.cI.length:=by simp[HV.bp]
 have lb:=@iL _ _ _ o.hb;have QP:=o.rd.ie.bh;unfold Gz fn43;simp only[aj.j,aj.s,aj.r,aj.dr,aj.tl,aj.hd];refine Rs (A2 t0 t7) ?_;refine WF.res T.c111 (r111 T Z hs hwl) ?_;rintro _ g1 ⟨x,hx,rfl,fn,fv⟩;have ox:a8 (W++g1) x:=⟨fn.aN,fv.aN⟩;obtain⟨x',NL⟩:∃x':EV,x' =⟨{x.ev with num:=(V.cI.length:Int)+1},x.sn,x.sv⟩:=⟨_,rfl⟩;have hrow:x'.row=x.row.set 0 (.i ((V.cI.length:Int)+1)):=by rw[NL];rfl
 have O4:x'.ev.num=(V.cI.length:Int)+1:=by rw[NL]
 have hev:({ (du ws).1 with num:=(V.bp.cI.length:Int)+1}:db)=x'.ev:=by rw[NL,hx,Q2]
 have RS:a8 (W++g1) x':=by rw[NL];exact⟨ox.n,ox.v⟩
 have NM:oR V.bp ws=if(du ws).2=false then(V.bp,[],25)else if 1000<=V.cI.length then(V.bp,[],5)else if dV V.bp x'.ev≠0 then(V.bp,[],dV V.bp x'.ev)else(jQ V.bp x'.ev,[100,111,110,101,32]++gW ((V.cI.length:Int)+1),0):=by
  unfold oR;rw[hev,Q2]
 have st:∀{b':Nat}{a0 a1 a2 a3 a4:AV},iP 5 0 (.agg x.row) b' (.b [a0,a1,a2,a3,a4])=some (ar,.set b' (.b x.row)):=λ{_ _ _ _ _ _}=>ox.st
 have mG:∀{b':Nat},iP 1 0 (.i ((V.cI.length:Int)+1)) b' (.b x.row)=some (ar,.set b' (.b x'.row)):=λ{b'}=>by
  rw[hrow];exact dR rfl (by show 0+1<=5;omega)
 have hpost:oR V.bp ws=oR V.bp ws:=rfl;generalize hfm:(du ws).2=fm at NM ⊢;cases fm with
 |false=>
  refine Rs (A4 t0 t7 @st @TW) ?_;refine WF.ce T.c85 (r85 T _ _) λg2=>?_
  refine Rs (A4 t0 t7 @lb @QP) ?_;refine WF.ce T.c85 (r85 T _ _) λg3=>?_
  refine Rs (A2 t0 t7) ?_;refine WF.ce T.c74 (r74 T (bG [_,_]) Si) λg4=>?_
  have e0:∀c,aG [bz true 25,bz c 5]=25:=λc=>by cases c<;>rfl
  have d0:decide ((25:Int)≠0)=true:=rfl;refine Rs (A3 t0 e0 @d0) ?_;exact ko.same o he Xx (by rw[NM];rfl)
 |true=>
  rw[Tt Si]at NM;refine Rs (A4 t0 t7 @st @TU) ?_;refine WF.ce T.c85 (r85 T _ _) λg2=>?_
  refine Rs (A4 t0 t7 @lb @QP) ?_;refine WF.ce T.c85 (r85 T _ _) λg3=>?_
  refine Rs (A2 t0 t7) ?_;refine WF.ce T.c74 (r74 T (bG [_,_]) Si) λg4=>?_
  by_cases hk:1000<=V.cI.length
  ·have dk:decide ((1000:Int)<=(V.cI.length:Int))=true:=Tq Om;have e0:aG [bz false 25,bz true 5]=5:=rfl;have d0:decide ((5:Int)≠0)=true:=rfl;rw[Ty hk]at NM;refine Rs (A4 t0 @dk e0 @d0) ?_;exact ko.same o he Xx NM
  ·have dk:decide ((1000:Int)<=(V.cI.length:Int))=false:=Tm Om;have e0:aG [bz false 25,bz false 5]=0:=rfl;have d0:decide ((0:Int)≠0)=false:=rfl;rw[Tt hk]at NM;have w1:IntKind.i64.wrap ((V.cI.length:Int)+1)=(V.cI.length:Int)+1:=aR Om Om;refine Rs (A9 t0 @dk e0 @d0 @lb @QP @w1 @mG @cA) ?_;obtain⟨Y,hY⟩:∃Y,Y=W++g1++[ai.b x'.row]++g2++g3++[ai.cells [.i (bz false 25),.i (bz false 5)] true true]++g4:=⟨_,rfl⟩;rw[<-hY];have Rj:Ext W Y:=by rw[hY];exact Xx
   have oY:bT B.length Y b V:=by obtain⟨z,hz⟩:=Rj;rw[hz];exact o.app z
   have oxY:a8 Y x':=by rw[hY];exact RS.ext Xx
   have m12:Y[(W++g1).length]? =some (.b x'.row):=by rw[hY];exact Ext.some (h:=W++g1++[ai.b x'.row]) Xx (by rw[To (Ts _),Uf];rfl)
   refine WF.gen T.c112 (Jq T (he.trans Rj) oY w Om oxY ⟨by rw[NL];show x.ev.names.length<=_;rw[hx];omega,by rw[NL];show x.ev.cK.length<=_;rw[hx];omega⟩ gl) ?_;rintro _ _ ⟨g',V',rfl,rfl,oV',S9,hkp,hexn⟩;have hYl:W.length<=Y.length:=by obtain⟨z,hz⟩:=Rj;rw[hz,Tg];omega
   have hkW:∀i,i<W.length->some i∉V.ex b->(B++g')[i]? =W[i]? :=λi hi hn=>by
    rw[hkp i Om hn];obtain⟨z,hz⟩:=Rj;rw[hz,Tj hi]
   have hexW:∀j,some j∈V'.ex b->some j∈V.ex b\/W.length<=j:=λj hj=>(hexn j hj).imp id λh=>by omega
   by_cases Po:dV V.bp x'.ev=0
   ·have d:decide (dV V.bp x'.ev≠0)=false:=Tm (λz=>z Po);rw[Ty Po]at S9;rw[Tt (λz=>z Po)]at NM;have m12':(B++g')[(W++g1).length]? =some (.b x'.row):=by
     rw[hkp _ (Th.1 m12).1 (λhj=>by have:=o.Ae hj;simp only[Tg]at this;omega)];exact m12
    have l12:au none (.ptr (W++g1).length 0) (λz=>(B++g')[z]?)=some (.i ((V.cI.length:Int)+1),.aq):=by rw[az m12',<-O4];rfl
    refine Rs (A3 t0 @d @l12) ?_;refine WF.ce T.c113 (Z.itoa Om Om (pw.ext ⟨_,rfl⟩)) λg5=>?_
    have hdl:=j8 (k:=7) (u:=((V.cI.length:Int)+1).toNat) Om;rw[fo Om];have hdl:(gW ((V.cI.length:Int)+1)).length<=8:=by rw[jh];exact hdl
    have hbc:([100,111,110,101,32] :By).length+(gW ((V.cI.length:Int)+1)).length<2^62:=by
     simp only[Tl,Tr];omega
    have bc:=gX hbc;refine Rs (A2 t0 @bc) ?_;exact⟨g'++g5,V',by rw[Ti],by rw[NM],by rw[<-Ti];exact oV'.app g5,by rw[NM,S9],λi hi hn=>by
     rw[<-Ti,<-hkW i hi hn];have hil:i<(B++g').length:=by
      have e:=hkW i hi hn;rw[Tk hi]at e;exact(Th.1 e).1
     exact Tj hil,hexW⟩
   ·have d:decide (dV V.bp x'.ev≠0)=true:=Tq Po;rw[Tt Po]at S9;rw[Ty Po]at NM;refine Rs (A2 t0 @d) ?_;exact⟨g',V',rfl,by rw[NM],oV',by rw[NM,S9],hkW,hexW⟩
end
def bT.ext{N h k b V}(o:bT N h b V)(e:Ext h k):bT N k b V:=by obtain⟨z,rfl⟩:=e;exact o.app z
def rC{b o}:kY Mm.BJ (.ptr b o) .nilPtr=some false:=rfl
section
variable {P:Program}(T:dB P) {B g:af}
include T
def Nv{V b}(o:bT B.length (B++g) b V)(w:kH V.bp)(hl:V.cI.length<=1000)(gl:Gl B)(pw:Pw B)(X:AM P)(Z:nY P)(s:By)(hs:s.length<=2^36):
  cT P 43 [.ptr b 0,.str s] (B++g) (λv k=>ko B (B++g) b V (x6 V.bp s) v k):=by
 refine .of T.mix (Eq.trans T.c43 (TO some L1)) ?_;obtain⟨ts,NK⟩:∃ts,ts=aM 97 [.ptr b 0,.str s]:=⟨_,rfl⟩;have hlen:ts.length=97:=by rw[NK];rfl
 have t0:slot ts 0=.ptr b 0:=by rw[NK];rfl
 have t1:slot ts 1=.str s:=by rw[NK];rfl
 obtain⟨RR,Ou⟩:∃RR,RR=Gz 6:=⟨_,rfl⟩;show WC P bS _ [] (aM 97 [.ptr b 0,.str s]) (B++g) (FQ _ (λv k=>ko B (B++g) b V (x6 V.bp s) v k));rw[<-NK,<-Ou];clear NK;have he:Ext B (B++g):=⟨g,rfl⟩;obtain⟨W,hW⟩:∃W,W=B++g:=⟨_,rfl⟩;rw[<-hW]at o he ⊢;have eW:Ext W W:=Ext.refl W;have hregs:V.cp.length<=1000:=by
  have e1:=w.ln;have e2:=w.le;exact Mu
 have O6:=Aj (H:=V.bp) (s:=s);unfold FM Gz fn43;simp only[aj.j,aj.s,aj.r,aj.dr,aj.tl,aj.hd];refine Rs (A3 t0 t1 @rC) ?_;refine WF.ce T.c85 (r85 T _ _) λg1=>?_
 refine Rs (A2 t0 t1) ?_;refine WF.ce T.c85 (r85 T _ _) λg2=>?_
 refine Rs (A2 t0 t1) ?_;refine WF.ce T.c74 (r74 T (bG [_,_]) Si) λg3=>?_
 by_cases h1:4096<s.length
 ·have d1:decide ((4096:Int)<(s.length:Int))=true:=Tq Om;have e0:∀c,aG [bz true 26,bz c 25]=26:=λc=>by cases c<;>rfl
  have d0:decide ((26:Int)≠0)=true:=rfl;rw[Ty h1]at O6;refine Rs (A5 t0 t1 @d1 e0 @d0) ?_;exact ko.same o he Xx O6
 have d1:decide ((4096:Int)<(s.length:Int))=false:=Tm Om;rw[Tt h1]at O6;by_cases h2:s=[]
 ·have d2:decide (s=[])=true:=Tq h2;have e0:aG [bz false 26,bz true 25]=25:=rfl;have d0:decide ((25:Int)≠0)=true:=rfl;rw[Ty h2]at O6;refine Rs (A6 t0 t1 @d1 @d2 e0 @d0) ?_;exact ko.same o he Xx O6
 have d2:decide (s=[])=false:=Tm h2;rw[Tt h2]at O6;have e0:aG [bz false 26,bz false 25]=0:=rfl;have d0:decide ((0:Int)≠0)=false:=rfl;refine Rs (A6 t0 t1 @d1 @d2 e0 @d0) ?_;refine WF.res T.c64 (r64 T X s 32 Om) ?_;intro sv g4 hv;have hwl:=qi (c:=32) (s:=s) (n:=2^40) Om;have hwn:(aY 32 s).length<=s.length+1:=by
  rw[oI];have:=List.count_le_length (a:=(32:UInt8)) (l:=s);omega
 have hne:0<(aY 32 s).length:=Vj.2 iz;obtain⟨ws,hws⟩:∃ws,ws=aY 32 s:=⟨_,rfl⟩;rw[<-hws]at hv hwl hwn hne O6;have SG:ws[0]=ws.headD []:=by
  clear hv hwl hwn O6 hws;cases ws with|nil=>simp at hne|cons a r=>rfl
 obtain⟨Y,hY⟩:∃Y,Y=W++g1++g2++[ai.cells [.i (bz false 26),.i (bz false 25)] true true]++g3++g4:=⟨_,rfl⟩;rw[<-hY]at hv ⊢;have Rj:Ext W Y:=by rw[hY];exact Xx
 have oY:bT B.length Y b V:=o.ext Rj;have eB:=he.trans Rj;have n8:=hv.n8 (kk:=.i64) hne;have ld0:∀{k:af},Ext Y k->au none (dG sv 1 0) (λb=>k[b]?)=some (.str (ws.headD []),.aq):=λ{k} e=>by rw[<-SG];exact hv.kV (i:=0) hne rfl e
 clear o he;refine Rs (A2 t0 t1) ?_;refine WF.res T.c109 (r109 T) ?_;rintro _ g5 ⟨rfl,hg⟩;have hg:g5=[.aK zx]:=UZ hg;subst hg;have lk:∀{z:AV},fJ .s z true (.map Y.length) (.str (ws.headD [])) (λb=>(Y++[ai.aK zx])[b]?)=jH z true ((jt (ws.headD [])).map gI):=zM (by rw[To (Ts _),Uf];rfl);cases hq:jt (ws.headD [])with
 |some q=>
  obtain⟨i,nm,wt⟩:=q;rw[hq]at lk O6;have N8:∀{z:AV},_=some (AV.dh [.agg [.bool nm,.i (wt:Nat),.func (.func (qF i)) [] []],.bool true],fR.aq):=@lk;refine Rs (A7 t0 t1 @n8 @ld0 @bn @N8 @fP) ?_;refine WF.ce T.c110 (r110 T (oY.rd.ext Xx) w hregs Z (pw.ext (eB.trans Xx)) (hv.ext Xx) hne Om hq) λg6=>?_
  refine Rs t0 ?_;exact(ko.same oY eB Xx O6).low Rj
 |none=>
  rw[hq]at lk O6;have N8:∀{z:AV},_=some (AV.dh [z,.bool false],fR.aq):=@lk;refine Rs (A7 t0 t1 @n8 @ld0 @bn @N8 @fP) ?_;clear lk N8;refine WF.res T.c90 (r90 T) ?_;rintro _ g6 ⟨vf,rfl,hk⟩;obtain⟨Y2,hY2⟩:∃Y2,Y2=Y++[ai.aK zx]++[ai.b [.bool false,.i 0,.nilFunc]]:=⟨_,rfl⟩;rw[<-hY2]at hk ⊢;have eY2:Ext Y Y2:=by rw[hY2];exact Xx
  have ld2:∀{k:af},Ext Y2 k->au none (dG sv 1 0) (λb=>k[b]?)=some (.str (ws.headD []),.aq):=λ{k} e=>ld0 (eY2.trans e)
  have lk:∀{z:AV},fJ .s z true (.map Y2.length) (.str (ws.headD [])) (λb=>(Y2++g6)[b]?)=jH z true ((gb (ws.headD [])).map vf):=hk.look;cases hd:gb (ws.headD [])with
  |none=>
   rw[hd]at lk O6;have N8:∀{z:AV},_=some (AV.dh [z,.bool false],fR.aq):=@lk;refine Rs (A8 t0 t1 @n8 @ld2 @bn @N8 @fP @TW) ?_;exact(ko.same oY eB (eY2.trans Xx) O6).low Rj
  |some d=>
   rw[hd]at lk O6;have N8:∀{z:AV},_=some (AV.dh [vf d,.bool true],fR.aq):=@lk;obtain⟨rs,a,hvf,hr,ha,hab⟩:=(hk.k d).ex;rw[hvf]at N8;have c1:=j6 d;have c2:=jJ d;have c3:=hr.one;refine Rs (AZ t0 t1 @n8 @ld2 @bn @N8 @TU @c1 @c2 @c3 @ha) ?_;have O6:x6 V.bp s=oR V.bp ws:=O6;rw[Ou,O6];refine WC.DG (L0 T (eB.trans (eY2.trans Xx)) (oY.ext (eY2.trans Xx)) w hl gl pw Z (hv.ext (eY2.trans Xx)) hwl (Sq t0) (Sq t0) (Sq t0)) ?_;rintro e ts' h' ⟨q1,v,q2,q3⟩;exact⟨q1,v,q2,ko.low q3 (Rj.trans (eY2.trans Xx))⟩
end
def V0:HV:=⟨[],[],[],.ah,.ah,.ah⟩
def Jy{h}:bT h.length (h++[.b [.ah,.ah,.ah]]) h.length V0:=
 ⟨Ts _,by rw[To (Ts _),Uf];rfl,.nil,.nil,.nil,pA.2 ⟨λ_ _=>⟨by simp[sB,V0],by simp[sB,V0],by simp[sB,V0]⟩,λ_ z=>by simp[sB,V0]at z,λ_ z=>by simp[sB,V0]at z⟩,
  λx hx=>(by cases hx),λx hx=>(by cases hx),λx hx=>(by cases hx),λx hx=>(by cases hx)⟩
def Jz{b}:∀j,some j∈V0.ex b->j=b:=λj hj=>by
 simp only[HV.ex,V0,sB,TP,Ui,UO,TG,reduceCtorEq]at hj;exact hj
def Ek{H ws}(w:kH H):kH (oR H ws).1/\(oR H ws).1.cI.length<=H.cI.length+1:=by
 unfold oR;split
 ·exact⟨w,VI _⟩
 split
 ·exact⟨w,VI _⟩
 split
 ·exact⟨w,VI _⟩
 ·rename_i h;exact⟨w.add (U1.1 h),by rw[tZ];omega⟩
def Hi{H s}(w:kH H):kH (x6 H s).1/\(x6 H s).1.cI.length<=H.cI.length+1:=by
 rw[Aj];split
 ·exact⟨w,VI _⟩
 split
 ·exact⟨w,VI _⟩
 split
 ·exact⟨w,VI _⟩
 split
 ·exact⟨w,VI _⟩
 exact Ek w
def qq(x:By×By×Int):List AV:=[.str x.1,.str x.2.1,.i x.2.2]
def kG:gM->List (By×By×Int)->Option gM
 |H,[]=>some H
 |H,x::r=>if(x6 H x.1).2.1=x.2.1/\(x6 H x.1).2.2=x.2.2 then kG (x6 H x.1).1 r else none
section
variable {P:Program}(T:dB P) {h:af}
include T
def r70:ao P 70 [] h (λv h'=>v=.ptr h.length 0/\h' =h++[.b [.ah,.ah,.ah]]):=by
 refine .of T.mix T.c70 ?_;unfold fn70 gA;exact Wn Tv
def r44{V b}(o:w9 h b V)(w:kH V.bp)(hl:V.cI.length<=1000):
  ao P 44 [.ptr b 0] h (λv h'=>∃L':List EV,L'.map EV.ev=V.bp.cI/\eA h' L' v):=by
 refine .mG 11 T.mix T.c44 ?_;intro ts hlen t0;unfold fn44 gA;have lb:=@iL _ _ _ o.hb;refine Rs (A3 t0 @rC @lb) ?_;refine WF.res T.c87 (r87 T ⟨o.ie,o.ae⟩ Om (λx hx=>by
  obtain⟨d,we⟩:=w.ev x.ev (TR hx);have h3:(bV d).length<=3/\cO d<=3:=by cases d<;>decide
  have:=we.nl;have:=we.vl;exact⟨Om,Om⟩)) ?_
 rintro v g ⟨L',hL,hf,hx⟩;refine Rs t0 ?_;exact⟨L',hL,hf.aN,λx NL=>(hx x NL).ok⟩
end
def Fk(d:Kd):(bJ d).length<=16:=by cases d<;>decide
def Af{e d}(we:r9 e d):Ml e/\(fU e).length<=520:=by
 have h3:(bV d).length<=3/\cO d<=3:=by cases d<;>decide
 have h1:=we.nl;have h2:=we.vl;have h4:=we.nu;have dl:∀{y:Int},0<=y->y<=999999999->(gW y).length<=64:=λ{y} h0 h1=>by have:=j8 (k:=9) (u:=y.toNat) Om;rw[jh];omega
 have hb:(fU e).length<=520:=by
  have hj:=mT (c:=32) (l:=tW e) λx hx=>by
   unfold tW at hx;simp only[Tn,TP,Ui,UO,TI]at hx;rcases hx with((rfl|rfl)|hx)|⟨y,hy,rfl⟩
   ·exact z141
   ·have:=Fk d;rw[iC we.kd];omega
   ·have:=tf (we.nm x hx);omega
   ·have:=we.vr y hy;exact dl Om Om
  have hl:(tW e).length<=8:=by
   unfold tW;simp only[Tg,Tl,Tr,Tu];omega
  unfold fU;omega
 exact⟨⟨Om,λx hx=>by have:=we.vr x hx;omega,Om,Om,Om⟩,hb⟩
section
variable {P:Program}(T:dB P) {h:af}
include T
def r45(Z:nY P)(pw:Pw h){V b}(o:w9 h b V)(w:kH V.bp)(hl:V.cI.length<=1000):
  ao P 45 [.ptr b 0] h (λv _=>v=.str (tt V.bp.cI)):=by
 refine .mG 12 T.mix T.c45 ?_;intro ts hlen t0;unfold fn45 gA;have lb:=@iL _ _ _ o.hb;refine Rs (A3 t0 @rC @lb) ?_;refine WF.res T.c115 (r115 T o.ie (λx hx=>⟨(o.ae x hx).n.one,(o.ae x hx).v.one⟩) Om (λx=>sU x.ev) (λx hx k e=>by
  obtain⟨d,we⟩:=w.ev x.ev (TR hx);exact aQ.of (a:=[]) (c:=[]) T.c97 (r97 T Z ((o.ae x hx).ext e) (Af we).1 (pw.ext e)))) ?_
 rintro v g hf;refine Rs t0 ?_;have Of:(V.cI.map λx=>sU x.ev).flatten.length<=V.cI.length*529:=by
  have:∀L:List EV,(∀x∈L,(sU x.ev).length<=529)->(L.map λx=>sU x.ev).flatten.length<=L.length*529:=by
   intro L
   induction L with
   |nil=>intro _;simp
   |cons x r ih=>
    intro hx;have h1:=ih λy hy=>hx y (TK _ hy)
    have h2:=hx x Si;rw[Un,Ul,Tg,Tl,Uw];omega
  refine this _ λx hx=>?_
  obtain⟨d,we⟩:=w.ev x.ev (TR hx);have:=(Af we).2;rw[zu T Z];omega
 refine WF.ce T.c114 (Z.join hf.aN ⟨by rw[zT];omega,by rw[Tu];omega⟩) λg2=>?_
 refine Rs t0 ?_;rw[zT,tt,HV.bp,U7];rfl
end
section
variable {P:Program}(T:dB P) {B:af}
include T
def LZ{W V b}(he:Ext B W)(o:bT B.length W b V)(w:kH V.bp)(hl:V.cI.length<=1000)(gl:Gl B)(pw:Pw B)(X:AM P)(Z:nY P)(s:By)(hs:s.length<=2^36):
  cT P 43 [.ptr b 0,.str s] W (λv k=>ko B W b V (x6 V.bp s) v k):=by
 obtain⟨g,rfl⟩:=he;exact Nv T o w hl gl pw X Z s hs
omit T in
theorem Bg{h k s es cs}(hs:aA h s es cs)(hk:∀j,sB s=some j->j<h.length->k[j]? =h[j]?):aA k s es cs:=by
 cases hs with
 |nil=>exact .nil
 |mk hb hf ho he=>
  have:=hk _ rfl (Th.1 hb).1;exact .mk (this.trans hb) hf ho he
omit T in
theorem HD{h s es cs}(hs:aA h s es cs){j}(hj:sB s=some j):j<h.length:=by
 cases hs with
 |nil=>cases hj
 |mk hb _ _ _=>cases hj;exact(Th.1 hb).1
def Nu{g V b}(o:bT B.length (B++g) b V)(w:kH V.bp)(gl:Gl B)(pw:Pw B)(X:AM P)(Z:nY P){s L}(hs:aA (B++g) s 3 (L.map qq))(hns:∀j,sB s=some j->some j∉V.ex b)
  (hlL:V.cI.length+L.length<=1000) (bp:∀x∈L,x.1.length<=2^36) {H'}(ha:kG V.bp L=some H'):
  cT P 71 [.ptr b 0,s] (B++g) (λv k=>v=.bool true/\∃g' V',k=B++g'/\bT B.length (B++g') b V'/\V'.bp=H'/\kH V'.bp/\V'.cI.length<=1000):=by
 refine .dU 35 T.mix T.c71 ?_;intro ts hlen t0 t1;unfold fn71 gA;refine Rs (A4 t0 t1 @rC hs.bh) ?_;refine WL.inv T.mix (λn ts h'=>∃(k:Nat) (V':HV) (g':af),k<=L.length/\n=L.length-k/\h' =B++g'/\bT B.length (B++g') b V'/\kH V'.bp/\V'.cI.length<=V.cI.length+k/\kG V'.bp (L.drop k)=some H'/\aA (B++g') s 3 (L.map qq)/\(∀j,sB s=some j->some j∉V'.ex b)/\
   ts.length=35/\slot ts 0=.ptr b 0/\slot ts 11=s/\slot ts 12=.i L.length/\slot ts 13=.i k) L.length
  ⟨0,V,g,Om,rfl,rfl,o,w,Om,ha,hs,hns,Sn,(Sq t0),(Sq t1),(Sq t0),my⟩ ?_
 clear t0 t1 hlen o w hs hns ha;clear ts;rintro _ ts _ ⟨k,V',g',hk,rfl,rfl,o,w,hVl,ha,hs,hns,hlen,t0,t11,t12,t13⟩;by_cases hlt:k<L.length
 ·have e3:=hX hlt;have e5:=wrapN (n:=k) Om;have ix:=hs.eX (kk:=.i64) hlt;have ld:∀{k'},Ext (B++g') k'->au (some 3) (dG s 3 k) (λb=>k'[b]?)=some (.agg (qq L[k]),.aq):=λ{k'} e=>hs.lO hlt e
  obtain⟨⟨a,m,c⟩,hx⟩:∃x,x=L[k]:=⟨_,rfl⟩;have hm:(a,m,c)∈L:=by rw[hx];exact TE _
  have hd:L.drop k=(a,m,c)::L.drop (k+1):=by rw[hx];simp
  rw[<-hx]at ld;unfold qq at ld;rw[hd,kG]at ha;split at ha
  case isFalse=>cases ha
  case isTrue hc=>
  have hc1:(x6 V'.bp a).2.1=m:=hc.1;have S7:(x6 V'.bp a).2.2=c:=hc.2;have hwd:=Hi (s:=a) w;obtain⟨W,hW⟩:∃W,W=B++g'++[ai.b [.str a,.str m,.i c]]:=⟨_,rfl⟩;have eW:Ext (B++g') W:=by rw[hW];exact Xx
  have mW:W[(B++g').length]? =some (.b [.str a,.str m,.i c]):=by rw[hW,To (Ts _),Uf];rfl
  have lW:∀{kk:af}{n':Option Nat}{q:Nat},kk[(B++g').length]? =some (.b [.str a,.str m,.i c])->au n' (.ptr (B++g').length q) (λz=>kk[z]?)=dy n' q (.b [.str a,.str m,.i c]):=λe=>az e
  refine Rs (A7 t0 t11 t12 t13 e3 ix @ld) ?_;rw[<-hW];have lW1:=λ{n':Option Nat}{q:Nat}=>@lW W n' q mW
  refine Rs (A5 t0 t11 t12 t13 @lW1) ?_;refine WF.gen T.c43 (LZ T ((Ext.app _ (Ext.refl _):Ext B (B++g')).trans eW) (o.ext eW) w Om gl pw X Z a (bp _ hm)) ?_;rintro _ _ ⟨g2,V2,rfl,rfl,o2,Sj,hkp,hex⟩;have hWl:W.length=(B++g').length+1:=by rw[hW,Tg];rfl
  have m2:(B++g2)[(B++g').length]? =some (.b [.str a,.str m,.i c]):=by
   rw[hkp _ Om (λhj=>by have:=o.Ae hj;omega)];exact mW
  have lW2:=λ{n':Option Nat}{q:Nat}=>@lW (B++g2) n' q m2
  have d1:decide (m≠m)=false:=Tm (λz=>z rfl);have d2:decide (c≠c)=false:=Tm (λz=>z rfl);rw[hc1,S7];refine Rs (A8 t0 t11 t12 t13 @lW2 @d1 @d2 e5) ?_;have hsW:=hs.ext eW;refine⟨L.length-(k+1),Om,k+1,V2,g2,Om,rfl,rfl,o2,by rw[Sj];exact hwd.1,?_,by rw[Sj];exact ha,Bg hsW λj hj hl=>hkp j hl (hns j hj),λj hj hx=>?_,rfl⟩
  ·have e1:V2.cI.length=V2.bp.cI.length:=by simp[HV.bp]
   have e2:V'.cI.length=V'.bp.cI.length:=by simp[HV.bp]
   have:=hwd.2;rw[<-Sj]at this;omega
  ·rcases hex j hx with hx|hx
   ·exact hns j hj hx
   ·have:=HD hs hj;omega
 ·have e3:=jf hlt;have e4:k=L.length:=Om
  rw[e4,UQ,kG]at ha;cases ha;refine Rs (A5 t0 t11 t12 t13 e3) ?_;exact⟨g',V',rfl,o,rfl,w,Om⟩
end
def GC:List (By×By×Int):=[
 ([116,97,112,101,32,97,32,49,32,49,48],[100,111,110,101,32,49],0),
 ([116,97,112,101,32,98,32,53,32,49,48,48],[100,111,110,101,32,50],0),
 ([108,105,110,101,32,108,49,32,53,32,50],[100,111,110,101,32,51],0),
 ([115,104,111,116,32,115,49,32,108,49,32,97,32,54],[100,111,110,101,32,52],0),
 ([115,104,111,116,32,115,50,32,108,49,32,98,32,55],[100,111,110,101,32,53],0),
 ([99,111,112,121,32,97,32,98,32,56],[100,111,110,101,32,54],0),
 ([116,97,112,101,115,32,115,49],[97,32,98],0),
 ([99,111,112,121,32,97,32,98,32,49,50],[],30),
 ([119,97,110,116,32,108,49],[50,32,50,32,111,112,101,110],0),
 ([97,99,99,101,112,116,32,108,49,32,57],[100,111,110,101,32,55],0),
 ([115,104,111,116,32,115,51,32,108,49,32,98,32,57],[],23),
 ([115,111,117,114,99,101,32,109,49,32,108,49,32,57],[100,111,110,101,32,56],0),
 ([109,111,100,117,108,101,32,109,50,32,109,49,32,57,32,50],[100,111,110,101,32,57],0),
 ([109,111,100,117,108,101,32,109,51,32,109,50,32,57,32,51],[100,111,110,101,32,49,48],0),
 ([109,111,100,117,108,101,32,109,52,32,109,49,32,57,32,51],[],2),
 ([109,101,114,103,101,32,109,52,32,109,49,32,109,50,32,57],[],2),
 ([114,117,110,32,106,49,32,109,51,32,49,48,32,51],[100,111,110,101,32,49,49],0),
 ([116,105,108,101,32,106,49,32,49,48,32,50,32,55],[100,111,110,101,32,49,50],0),
 ([116,105,108,101,32,106,49,32,49,48,32,48,32,53],[100,111,110,101,32,49,51],0),
 ([108,101,102,116,32,106,49],[49],0),
 ([102,97,105,108,32,106,49,32,49,49,32,50],[100,111,110,101,32,49,52],0),
 ([108,101,102,116,32,106,49],[49,32,50],0),
 ([112,105,99,116,117,114,101,32,112,49,32,106,49,32,49,49],[],32),
 ([116,105,108,101,32,106,49,32,49,49,32,49,32,54],[100,111,110,101,32,49,53],0),
 ([116,105,108,101,32,106,49,32,49,49,32,50,32,55],[100,111,110,101,32,49,54],0),
 ([112,105,99,116,117,114,101,32,112,49,32,106,49,32,49,50],[100,111,110,101,32,49,55],0),
 ([102,114,111,109,32,112,49],[115,49,32,115,50],0),
 ([108,105,110,101,115,32,109,51],[108,49],0),
 ([117,110,115,97,102,101],[110,111,110,101],0),
 ([114,101,108,101,97,115,101,32,112,49,32,49,50],[100,111,110,101,32,49,56],0),
 ([117,110,100,111],[],21),
 ([114,101,108,101,97,115,101,100],[112,49,32,53,50,57,49,55,52],0)]
def r0:gM:=(kG gM.zero GC).getD gM.zero
set_option maxRecDepth 100000 in
def Ji:(kG gM.zero GC).isSome=true:=by decide+kernel
set_option maxRecDepth 100000 in
def F0:r0.cI.length=18:=by decide+kernel
set_option maxRecDepth 100000 in
def Ay:sK (r0.cI.take 5) [115,49] 12=(false,0):=by decide+kernel
set_option maxRecDepth 100000 in
def Ax:sK r0.cI [115,49] 105=(true,0):=by decide+kernel
set_option maxRecDepth 100000 in
def FW:nZ r0.cI 106=([[115,49],[115,50]],0):=by decide+kernel
set_option maxRecDepth 100000 in
def CE:wg r0.cI [109,51]=([[109,49],[109,50],[109,51]],0):=by decide+kernel
set_option maxRecDepth 100000 in
def F1:x8 [5,6,7]=(529174,0):=by decide+kernel
set_option maxRecDepth 100000 in
def tX:(kL r0.cI [108,49]).1.length=8/\(kL r0.cI [108,49]).2=0:=by decide+kernel
set_option maxRecDepth 100000 in
def FZ:(tt r0.cI).length<=100000:=by decide+kernel
set_option maxRecDepth 100000 in
def FY:(jC (tt r0.cI++[49])).2.2=28/\(jC (tt r0.cI++[49])).1.length=18/\(jC (tt r0.cI++[49])).2.1=(tt r0.cI).length:=by decide+kernel
set_option maxRecDepth 100000 in
def FX:lh [49,49]=[48,49,51,49,53,56,49]:=by decide+kernel
def wM{h c N}:kF .JM (.slice h.length 0 1 1) (λb=>(h++[ai.cells [.int .u8 c] true true])[b]?) N=some (.str [UInt8.ofNat c.toNat],.aq):=by
 simp only[kF,dO,TQ,bF];rfl
def wD{n}(h0:0<=n)(h1:n<10):UInt8.ofNat (IntKind.u8.wrap (IntKind.i64.wrap (48+n))).toNat=UInt8.ofNat (48+n.toNat):=by
 rw[aR Om Om,Ej Om Om];congr 1;omega
section
variable {P:Program}(T:dB P)
include T
set_option maxRecDepth 10000 in
def r197:∀{k}{n}{h},0<=n->n<10^(k+1)->k<=15->ao P 197 [.i n] h (λv _=>v=.str (gW n)):=by
 intro k
 induction k with
 |zero=>
  intro n h h0 h1 _;refine .of T.mix T.c197 ?_;unfold fn197 gA;have h10:n<10:=by simpa using h1
  have d0:decide (n<0)=false:=Tm Om;exact z72
 |succ k ih=>
  intro n h h0 h1 hk;refine .of T.mix T.c197 ?_;unfold fn197 gA;have d0:decide (n<0)=false:=Tm Om;by_cases h10:n<10
  ·exact z72
  ·have d1:decide (n<10)=false:=Tm h10;have hb:n<=10^17:=by
    have:(10:Int)^(k+1+1)<=10^17:=by
     have:=Nat.pow_le_pow_right (n:=10) De (show k+1+1<=17 by omega)
     exact_mod_cast this
    omega
   have eq:n.tdiv 10=n / 10:=Int.tdiv_eq_ediv_of_nonneg h0;have em:n.tmod 10=n%10:=Int.tmod_eq_emod_of_nonneg h0;have w1:IntKind.i64.wrap (n / 10)=n / 10:=aR Om Om;have bq:dm .quo (.i n) (.i 10)=some (.i (n / 10)):=by rw[Cs De,eq,w1]
   have bm:dm .rem (.i n) (.i 10)=some (.i (n%10)):=by rw[ji De,em]
   refine Ws (A4 @d0 @d1 @bq @bm) ?_;refine WF.ce T.c197 (ih Om (by rw[Int.pow_succ]at h1;omega) Om) λg1=>?_
   have hd:=j8 (k:=k) (u:=(n / 10).toNat) (by
    have h2:n / 10<10^(k+1):=by rw[Int.pow_succ]at h1;omega
    have h3:(((n / 10).toNat:Nat):Int)<((10^(k+1):Nat):Int):=by rw[Int.toNat_of_nonneg Om];exact_mod_cast h2
    exact_mod_cast h3)
   have bc:∀{c:UInt8},dm .add (.str (gW (n / 10))) (.str [c])=some (.str (gW (n / 10)++[c])):=gX (by rw[jh];simp;omega);refine Ws (A5 @bq @bm @rT @wM @bc) ?_;rw[wD Om Om,jh,jh,Lib.decDigits.eq_def n.toNat,dif_neg Om];congr 3
   ·omega
   ·congr 2;omega
def r108{k n h}(h0:0<=n)(h1:n<10^(k+1))(hk:k<=15):ao P 108 [.i n] h (λv _=>v=.str (gW n)):=by
 refine .of T.mix T.c108 ?_;unfold fn108 gA;refine Wn ?_;refine WF.ce T.c197 (r197 T h0 h1 hk) λg=>?_
 exact Wn Tv
set_option maxRecDepth 10000 in
def r72{h}(s:By)(hs:s.length<=2^40):ao P 72 [.str s] h (λv _=>v=.str (lh s)):=by
 refine .mG 28 T.mix T.c72 ?_;intro ts hlen t0;unfold fn72 gA;refine Rs t0 ?_;refine WL.inv T.mix (λn ts' h'=>∃k:Nat,k<=s.length/\n=s.length-k/\h' =h/\ts'.length=28/\slot ts' 0=.str s/\slot ts' 3=.i (fO (s.take k))/\slot ts' 4=.i k) s.length
  ⟨0,Om,rfl,rfl,(Sq t0),(Sq t0),my,my⟩ ?_
 rintro _ ts' hz ⟨k,hk,rfl,hh,OK,u0,u3,u4⟩;rw[hh];clear hh hz;clear hlen t0;have hlen:=OK;clear OK;by_cases hlt:k<s.length
 ·have e3:=hX hlt;have hb:=lj (s.take k);have hcn:=UInt8.toNat_lt s[k];have w1:IntKind.i64.wrap (339*fO (s.take k))=339*fO (s.take k):=aR Om Om;have w2:IntKind.i64.wrap (s[k].toNat:Int)=(s[k].toNat:Int):=aR Om Om;have w3:IntKind.i64.wrap (339*fO (s.take k)+(s[k].toNat:Int))=339*fO (s.take k)+(s[k].toNat:Int):=aR Om Om;have er:=ji (k:=.i64) (a:=339*fO (s.take k)+(s[k].toNat:Int)) (b:=9999749) De;rw[<-sj,<-kK hlt]at er
  repeat (first|simp (config:={maxSteps:=1000000}) only[bx,bo,bL,bM,reduceAdd,reduceMul,reduceLeDiff,reduceEqDiff,bP,hlen,TT,TQ,u0,u3,u4,e3,jK hlt,w1,w2,w3,er,wrapN (show k+1<2^63 by omega)]|simp (config:={maxSteps:=1000000}) (disch:=first|(simp only[Tg,Tl,Tr]<;>omega)|rfl|omega|fail) only[gL,bx,bo,bL,bM,reduceAdd,reduceMul,reduceLeDiff,reduceEqDiff,bP,hlen,TT,TQ,u0,u3,u4,e3,jK hlt,w1,w2,w3,er,wrapN (show k+1<2^63 by omega)])
  exact GU
 ·have e3:=jf hlt;have ek:k=s.length:=Om
  rw[ek,T7]at u3;have hb:=lj s;have hl:=rh s;refine Rs (A4 @u0 @u3 @u4 e3) ?_;refine WF.ce T.c108 (r108 T (k:=7) hb.1 Om Om) λg=>?_
  refine Rs @u0 ?_;generalize hd:gW (fO s)=d at hl;have hT:lh s=List.replicate (7-d.length) 48++d:=by unfold lh;rw[hd]
  refine WL.inv T.mix (λn ts' h'=>∃j:Nat,d.length+j<=7/\n=7-(d.length+j)/\Ext h h'/\ts'.length=28/\slot ts' 5=.str (List.replicate j 48++d)) (7-d.length)
   ⟨0,Om,rfl,Xx,(Sq @u0),my⟩ ?_
  rintro _ Qp _ ⟨j,hj,rfl,⟨g2,rfl⟩,QS,v5⟩;clear hlen;have hlen:=QS;by_cases h7:d.length+j<7
  ·have e7:decide (((List.replicate j (48:UInt8)++d).length:Int)<7)=true:=Tq (by rw[Tg,Up];omega);have hbc:([48] :By).length+(List.replicate j (48:UInt8)++d).length<2^62:=by rw[Tg,Up];simp only[Tl,Tr];omega
   have bc:=gX hbc;refine Rs (A3 @v5 e7 @bc) ?_;exact⟨7-(d.length+(j+1)),Om,j+1,Om,rfl,rfl⟩
  ·have e7:decide (((List.replicate j (48:UInt8)++d).length:Int)<7)=false:=Tm (by rw[Tg,Up];omega);have ej:j=7-d.length:=Om
   refine Rs (A2 @v5 e7) ?_;rw[hT,ej]
end
def GB(k:Nat):aj:=(fn15).body.dr k
def CC(k:Nat):aj:=(GB k).hd
def Jh:fn15=⟨158,0,[(0,none)],.seq (CC 0) (.seq (CC 1) (.seq (CC 2) (GB 3)))⟩:=rfl
def tD{h:af}{M:List (By)}:aA (h++[ai.cells (M.map an).flatten true true]) (.slice h.length 0 (M.map an).length 1) 1 (M.map an):=(Fr.push (es:=1) (N:=0) (TJ _) (M.map an) (by simp[an])).aN
section
variable {P:Program}(T:dB P) {h:af}
include T
omit T in
theorem CD:kG gM.zero GC=some r0:=by
 have:=Ji;unfold r0;generalize kG gM.zero GC=o at this ⊢;cases o with
 |none=>cases this
 |some x=>rfl
def Jm{B W V b}(he:Ext B W)(o:bT B.length W b V)(w:kH V.bp)(gl:Gl B)(pw:Pw B)(X:AM P)(Z:nY P){s L}(hs:aA W s 3 (L.map qq))(hns:∀j,sB s=some j->some j∉V.ex b)
  (hlL:V.cI.length+L.length<=1000) (bp:∀x∈L,x.1.length<=2^36) {H'}(ha:kG V.bp L=some H'):
  cT P 71 [.ptr b 0,s] W (λv k=>v=.bool true/\∃g' V',k=B++g'/\bT B.length (B++g') b V'/\V'.bp=H'/\kH V'.bp/\V'.cI.length<=1000):=by
 obtain⟨g,rfl⟩:=he;exact Nu T o w gl pw X Z hs hns hlL bp ha
def L7(X:AM P)(Z:nY P){W:af}(gl:Gl W)(pw:Pw W){V:HV}{b:Nat}(o:w9 W b V)(w:kH V.bp)(hl:V.cI.length<=1000)(hV:V.bp=r0){ts:TS}(hlen:ts.length=158)(t1:slot ts 1=.ptr b 0)(he:Ext h W):
  WC P bS (GB 3) [] ts W (FQ [(0,none)] λv k=>Ext h k/\v=.bool true):=by
 unfold GB fn15 gA;simp only[aj.j,aj.s,aj.r,aj.dr,aj.tl,aj.hd];refine Rs t1 ?_;refine WF.res T.c44 (r44 T o w hl) ?_;rintro sv g1 ⟨L,hL,oL⟩;rw[hV]at hL;have Sm:L.length=18:=by have:=TO List.length hL;rw[Tu,F0]at this;exact this
 have hsh:∀x∈L,x.ev.names.length<=2^30/\x.ev.cK.length<=2^30:=λx hx=>by
  obtain⟨d,we⟩:=w.ev x.ev (by rw[hV,<-hL];exact TR hx);have h3:(bV d).length<=3/\cO d<=3:=by cases d<;>decide
  have:=we.nl;have:=we.vl;exact⟨Om,Om⟩
 have sh:uj L:=⟨Om,hsh⟩;have d18:decide ((L.length:Int)≠18)=false:=Tm (λz=>z Om);obtain⟨s5,e5,h5⟩:=oL.sl.HC (lo:=none) (hi:=some (.i 5)) (l:=0) (u:=5) (kf (k:=5) Om);have h5':aA (W++g1) s5 5 ((L.take 5).map EV.row):=h5;have o5:eA (W++g1) (L.take 5) s5:=⟨h5',λx hx=>oL.all x (Ut hx)⟩;have sh5:uj (L.take 5):=⟨by rw[UB];omega,λx hx=>hsh x (Ut hx)⟩;have m5:(L.take 5).map EV.ev=r0.cI.take 5:=by rw[List.map_take,hL]
 refine Rs (A4 t1 oL.sl.bh @d18 e5) ?_;refine WF.ce T.c16 (r16 T o5 sh5 (gl.ext Xx) [115,49] 12) λg2=>?_
 rw[m5,Ay];refine Rs t1 ?_;refine WF.ce T.c16 (r16 T (oL.ext Xx) sh (gl.ext Xx) [115,49] 105) λg3=>?_
 rw[hL,Ax];refine Rs t1 ?_;refine WF.res T.c17 (r17 T (oL.ext Xx) sh (gl.ext Xx) 106) ?_;rintro _ g4 ⟨su,rfl,hu⟩;rw[hL,FW]at hu ⊢;refine Rs t1 ?_;refine WF.res T.c51 (r51 T (oL.ext Xx) sh (gl.ext Xx) [109,51]) ?_;rintro _ g5 ⟨sn,rfl,hn⟩;rw[hL,CE]at hn ⊢;refine Rs t1 ?_;refine WF.ce T.c27 (r27 T (bG [5,6,7]) De) λg6=>?_
 rw[F1];refine Rs t1 ?_;refine WF.res T.c26 (r26 T (oL.ext Xx) sh (gl.ext Xx) [108,49]) ?_;rintro _ g7 ⟨ss,Ls,rfl,os,hLs⟩;rw[hL]at hLs ⊢;have hLsl:Ls.length=8:=by have:=TO List.length hLs;rw[Tu,tX.1]at this;exact this
 rw[tX.2];refine Rs t1 ?_;refine WF.ce T.c45 (r45 T Z (pw.ext Xx) (o.ext Xx) w hl) λg8=>?_
 rw[hV];have hlg:=FZ;have hrc:=FY;generalize tt r0.cI=lg at hlg hrc ⊢;have bc:=gX (show lg.length+([49] :By).length<2^62 by simp only[Tl,Tr];omega);refine Rs (A2 t1 @bc) ?_;refine WF.res T.c37 (r37 T X Z (pw.ext Xx) (lg++[49]) (by rw[Tg];simp only[Tl,Tr];omega)) ?_;rintro _ g9 ⟨Lr,sr,hLr,rfl,fr,-⟩;have hLrl:Lr.length=18:=by have:=TO List.length hLr;rw[Tu,hrc.2.1]at this;exact this
 rw[hrc.1,hrc.2.2];have d8:decide ((Ls.length:Int)=8)=true:=Tq Om;have d19:decide ((Lr.length:Int)=18)=true:=Tq Om;have wz:IntKind.i64.wrap ((0:Int)+0)=0:=rfl;have z0:decide ((0:Int)=0)=true:=rfl;refine Rs (A5 t1 @wz @z0 @TW @T5) ?_;refine WF.res T.c25 (r25 T (L:=[[115,49],[115,50]]) (M:=[[115,49],[115,50]]) ?hu (tD (M:=[[115,49],[115,50]])) De De) ?_
 case hu=>exact hu.ext Xx
 rintro _ k1 rfl;have q1:decide (([[115,49],[115,50]] :List (By))=[[115,49],[115,50]])=true:=rfl;have q2:decide (([[109,49],[109,50],[109,51]] :List (By))=[[109,49],[109,50],[109,51]])=true:=rfl;rw[q1];refine Rs (A2 t1 @T5) ?_;refine WF.res T.c25 (r25 T (L:=[[109,49],[109,50],[109,51]]) (M:=[[109,49],[109,50],[109,51]]) ?hn (tD (M:=[[109,49],[109,50],[109,51]])) De De) ?_
 case hn=>exact hn.ext Xx
 rintro _ k2 rfl;rw[q2];have q3:decide ((529174:Int)=529174)=true:=rfl;have q4:decide ((28:Int)=28)=true:=rfl;have q5:decide ((lg.length:Int)=(lg.length:Int))=true:=Tq rfl;refine Rs (A9 t1 q3 q4 q5 @d8 @d19 os.sl.bh fr.aN.bh @T5) ?_;refine WF.ce T.c72 (r72 T [49,49] De) λk3=>?_
 have q6:decide (([48,49,51,49,53,56,49] :By)=[48,49,51,49,53,56,49])=true:=Tq rfl;rw[FX];refine Rs (A3 t1 q6 @T5) ?_;exact⟨he.trans Xx,trivial⟩
def r15(X:AM P)(Z:nY P)(gl:Gl h)(pw:Pw h):ao P 15 [] h (λv _=>v=.bool true):=by
 refine .of T.mix (Eq.trans T.c15 (TO some Jh)) ?_;obtain⟨ts,NK⟩:∃ts,ts=aM 158 []:=⟨_,rfl⟩;have hlen:ts.length=158:=by rw[NK];rfl
 obtain⟨RR,Ou⟩:∃RR,RR=GB 3:=⟨_,rfl⟩;show WC P bS _ [] (aM 158 []) h (FQ _ _);rw[<-NK,<-Ou];clear NK;unfold CC GB fn15 gA;simp only[aj.j,aj.s,aj.r,aj.dr,aj.tl,aj.hd];refine Rs @hlen ?_;refine WF.res T.c70 (r70 T) ?_;rintro _ g0 ⟨rfl,hg⟩;have hg:g0=[.b [.ah,.ah,.ah]]:=UZ hg;subst hg;refine Rs @hlen ?_;refine WF.gen T.c71 (Jm T (B:=h) (V:=V0) (b:=h.length) (L:=GC) (H':=r0) Xx (Jy.app _) kH.zero gl pw X Z (Fr.push (N:=0) (h:=h++[ai.b [.ah,.ah,.ah]]) (es:=3) (TJ _) (GC.map qq) (λx hx=>by obtain⟨y,_,rfl⟩:=TI.1 hx;rfl)).aN (λj hj hx=>by
  have:=Jz j hx;have e:(h++[ai.b [.ah,.ah,.ah]]).length=j:=Ug hj;rw[Tg]at e;simp at e;omega) De De CD) ?_
 rintro _ _ ⟨rfl,g',V',rfl,oV,hV,wV,hVl⟩;refine Rs (A2 @hlen @TU) ?_;rw[Ou];exact L7 T X Z (gl.ext ⟨_,rfl⟩) (pw.ext ⟨_,rfl⟩) oV.rd wV hVl hV (Sq @hlen) (Sq @hlen) ⟨_,rfl⟩
end
def uP:Go.Proofs.Tryz.prog.globals.size=9:=by kernel_rfl
def B4:B5 Go.Proofs.Tryz.prog 2=20:=by kernel_rfl
open Go.RowKit in
def BZ{h:af}{n:Int}(h0:-9223372036854775808<=n)(h1:n<=9223372036854775807){mu tl:Bool}(hb:h[2]? =some (.cells (Lib.pow10Tab.map (AV.int .u64)) mu tl)):
  jR Go.Proofs.Tryz.prog 113 [.int .i64 n] h (.str (Lib.itoa n)) h:=by
 intro m w vs hr ha;obtain⟨v,vs1,rfl,hv,hr1⟩:=aF.1 ha;rw[aP]at hr1;subst hr1;rw[VR]at hv;subst hv;obtain⟨e,he,hcb,hd,-,dq⟩:=hr.eZ 2 (by rw[uP];omega);obtain⟨cc,el,fz,hw,⟨hle,PW,hsz2⟩,NO,-,-⟩:=hr.dx 2 e _ he hb;have htab:Lib.TabIs Go.Proofs.Tryz.prog w "internal/strconv.uint64pow10" .u64 Lib.pow10Tab:=by
  unfold Lib.TabIs World.var?;rw[Go.Proofs.Tryz.wk.m17];show(match w.heap[2]? with|some (.cells cs _ _)=>some cs|_=>none)=_;rw[hcb]at hw;rw[hw];have h20:cc.size=20:=by rw[hsz2,dq,B4]
  refine TO some (Array.ext_getElem? λi=>?_);by_cases hi:i<20
  ·have hl:i<Lib.pow10Tab.length:=by rw[Lib.pow10Tab_length];exact hi
   obtain⟨_,cv,Pk,NH⟩:=NO i (.int .u64 Lib.pow10Tab[i]) (by rw[UG,Tk hl];rfl);rw[VR]at NH;rw[hd,TZ]at Pk;rw[Pk,NH,UE,UG,Tk hl];rfl
  ·rw[UJ Om,UJ (by rw[List.size_toArray,Tu,Lib.pow10Tab_length];omega)]
 refine(Go.Proofs.Any.strconv_Itoa Go.Proofs.Tryz.wk n h0 h1 w htab).mono ?_;rintro e' w' ⟨rfl,k,os,rfl⟩;have hh:∀i,i<w.heap.size->(Go.Sort.grow (w.drewN k) os).heap[i]? =w.heap[i]? :=λi hi=>by
  show(w.heap++os)[i]? =_;rw[Array.getElem?_append_left hi]
 have hs:w.heap.size<=(Go.Sort.grow (w.drewN k) os).heap.size:=by
  show w.heap.size<=(w.heap++os).size;simp
 exact⟨_,m,rfl,rfl,⟨hr.bZ,λb' e' k' a1 a2=>(hr.dx b' e' k' a1 a2).heap (hh _ (hr.lt b' e' a1)),hr.sep,hr.eZ,λb' e' a1=>Uh (hr.lt b' e' a1) hs⟩,
  ⟨λ_ _=>rfl,Ts _,λb' e' a1 a2=>absurd (hr.bZ b' e' a2) Om,λ_ _ x=>x,hs,rfl,rfl,rfl,λi hi _=>hh i hi⟩⟩
theorem qg:∀xs:List (By),(xs.map λx=>[AV.str x]).flatten=xs.map AV.str
 |[]=>rfl
 |x::xs=>by rw[Un,Ul,qg xs];rfl
def aA.inv{h:af}{b o n e es:Nat}{cs:List (List AV)}(hs:aA h (.slice b o n e) es cs):n=cs.length/\∃c mu tl,h[b]? =some (.cells c mu tl)/\(c.drop o).take (cs.length*es)=cs.flatten:=by
 generalize hx:AV.slice b o n e=x at hs;cases hs with
 |nil=>cases hx
 |mk hb hf ho he=>cases hx;exact⟨rfl,_,_,_,hb,hf⟩
open Go.RowKit in
def BY{h:af}{s:AV}{sep:By}{xs:List (By)}(hs:aA h s 1 (xs.map λx=>[AV.str x]))(hl:(Lib.join xs sep).length<=140737488355328/\xs.length<=140737488355328):jR Go.Proofs.Tryz.prog 114 [s,.str sep] h (.str (Lib.join xs sep)) h:=by
 intro m w vs hr hargs;obtain⟨v1,vs1,rfl,Rb,hr1⟩:=aF.1 hargs;obtain⟨v2,vs2,rfl,QE,Pd⟩:=aF.1 hr1;rw[aP]at Pd;subst Pd;rw[VR]at QE;subst QE;have fin:∀e w',(e=.returned (.string ⟨(Lib.join xs sep).toArray⟩)/\Below w.heap.size w w')->Rel Go.Proofs.Tryz.prog m h w (.str (Lib.join xs sep)) h e w':=by
  rintro e w' ⟨rfl,hb⟩;exact⟨_,m,rfl,rfl,⟨hr.bZ,λb e k h1 h2=>(hr.dx b e k h1 h2).heap (hb.block _ (hr.lt b e h1)),hr.sep,hr.eZ,λb e h1=>Uh (hr.lt b e h1) hb.size⟩,
   ⟨λ_ _=>rfl,Ts _,λb e h1 h2=>absurd (hr.bZ b e h2) Om,λ_ _ h=>h,hb.size,hb.os,hb.output,hb.tape,λi hi _=>hb.block i hi⟩⟩
 have zero:xs=[]->∀(a:Option Addr) (c:Nat),Calls Go.Proofs.Tryz.prog 114 #[.slice a 0 c,.string ⟨⟨sep⟩⟩] w (Rel Go.Proofs.Tryz.prog m h w (.str (Lib.join xs sep)) h):=λhx a c=>by
  refine(Go.Proofs.Tryz.strings_Join_none a c ⟨⟨sep⟩⟩ w).mono λe w' ⟨he,hw⟩=>fin e w' ⟨?_,hw▸Below.refl _ _⟩
  rw[he,hx];rfl
 have hlen:=hs.bh (λ_=>none);cases s with
 |ah=>
  rw[VR]at Rb;subst Rb;simp only[Go.Abs.gZ,TQ,TG]at hlen;exact zero (Uk.1 hlen.symm) none 0
 |slice b o n es=>
  simp only[Go.Abs.gZ,TQ,TG]at hlen;subst hlen;rw[VR]at Rb;obtain⟨ent,ca,cap,he,rfl,hcap,Oa,dq⟩:=Rb;by_cases hz:xs.length=0
  ·have hz':=Uk.1 hz;have:=zero hz' (some ca) cap;rw[hz];exact this
  ·have hca':=Oa Om;subst hca';generalize PK:xs.map (λx=>[AV.str x])=cs at hs;have hcl:cs.length=xs.length:=by rw[<-PK];simp
   obtain⟨_,c,mu,tl,hb,hf⟩:=hs.inv
   ·obtain⟨cc,el,fz,hheap,_,Ok,_⟩:=hr.dx b ent _ he hb;have key:=Go.Proofs.Tryz.strings_Join ent.cb (o+ent.d) cap (xs.map λl=>⟨⟨l⟩⟩) ⟨⟨sep⟩⟩ w ?_ (hr.lt b ent he) (by rw[Tu];exact hl.2) (by rw[Tu];omega) ?_
    ·rw[Tu]at key;refine key.mono λe w' ⟨he,hw⟩=>fin e w' ⟨?_,hw⟩
     rw[he,U7];simp[Vw]
    ·intro j x hx;rw[UG,TB]at hx;obtain⟨l,N1,rfl⟩:=hx;have hj:j<xs.length:=(Th.1 N1).1;have Se:cs.flatten[j]? =some (.str l):=by
      rw[<-PK];have:=qg xs;rw[this,UG,N1];rfl
     rw[<-hf,List.getElem?_take,Ty Om,Vm]at Se;obtain⟨_,cv,Pk,NH⟩:=Ok _ _ Se;rw[VR]at NH;subst NH;simp only[World.cell?,hheap,Option.isSome_none,T8,TT];rw[show o+ent.d+j=ent.d+(o+j) by omega];exact Pk
    ·rw[U7]
     simpa [Vw]using hl.1
 |_=>cases hs
open Go.RowKit in
def qo{P:Program}{m:bA}{h:af}{w:World}(hr:HR P m h w){a:AV}{v:Value}{e:Ending}{w':World}(hv:VR m a v)(he:e=.returned v)(hb:Below w.heap.size w w'):Rel P m h w a h e w':=
 ⟨v,m,he,hv,⟨hr.bZ,λb e k h1 h2=>(hr.dx b e k h1 h2).heap (hb.block _ (hr.lt b e h1)),hr.sep,hr.eZ,λb e h1=>Uh (hr.lt b e h1) hb.size⟩,
  ⟨λ_ _=>rfl,Ts _,λb e h1 h2=>absurd (hr.bZ b e h2) Om,λ_ _ h=>h,hb.size,hb.os,hb.output,hb.tape,λi hi _=>hb.block i hi⟩⟩
theorem nR:∀{s:By}{a:Nat},s.all fa=true->∃n,Lib.decFrom a s=some n/\(n:Int)=s.foldl (λn c=>10*n+((c.toNat:Int)-48)) (a:Int)
 |[],a,_=>⟨a,rfl,rfl⟩
 |c::s,a,h=>by
  simp only[Vu,TL]at h;have hc:=jg.1 h.1;have hd:Lib.digitVal c=some (c.toNat-48):=by unfold Lib.digitVal;rw[Ty hc]
  obtain⟨n,h1,h2⟩:=nR (s:=s) (a:=a*10+(c.toNat-48)) h.2;refine⟨n,by rw[Lib.decFrom,hd];exact h1,?_⟩;rw[h2,List.foldl_cons];congr 1;omega
def AA{s:By}(h:s.all fa=true)(hn:s≠[]):Lib.atoi s=some (Ak s):=by
 obtain⟨n,h1,h2⟩:=nR (a:=0) h;cases s with
 |nil=>exact absurd rfl hn
 |cons c r=>
  have hc:=jg.1 (by simp only[Vu,TL]at h;exact h.1);have n1:(c==45)=false:=by
   exact GP
  have n2:(c==43)=false:=by
   exact GP
  rw[Lib.atoi,n1,n2,Tt De,Tt De,Lib.decNat,Tt Si,h1,U4,h2];rfl
open Go.RowKit in
def CF{h:af}{s:By}(hd:s.all fa=true)(hn:s≠[])(hl:s.length<=9):jR Go.Proofs.Tryz.prog 254 [.str s] h (.dh [.int .i64 (Ak s),.iU]) h:=by
 intro m w vs hr ha;obtain⟨v,vs1,rfl,hv,hr1⟩:=aF.1 ha;rw[aP]at hr1;subst hr1;rw[VR]at hv;subst hv;refine(Go.Proofs.Any.strconv_Atoi Go.Proofs.Tryz.BO ⟨⟨s⟩⟩ (Ak s) (by show s.length<=18;omega) (AA hd hn) w).mono ?_;rintro e' w' ⟨rfl,t,rfl⟩;exact qo hr ⟨_,rfl,aF.2 ⟨_,_,rfl,rfl,aF.2 ⟨_,_,rfl,rfl,rfl⟩⟩⟩ rfl (Lib.bytesWorld_below _ _ _)
open Go.RowKit in
def EI{h:af}{n:Nat}(hn:n<=7):jR Go.Proofs.Tryz.prog 252 [.str [48],.int .i64 (n:Nat)] h (.str (List.replicate n 48)) h:=by
 intro m w vs hr ha;obtain⟨v1,vs1,rfl,Rb,hr1⟩:=aF.1 ha;obtain⟨v2,vs2,rfl,QE,Pd⟩:=aF.1 hr1;rw[aP]at Pd;subst Pd;have Rb:v1=.string ⟨⟨[48]⟩⟩:=Rb;have QE:v2=.int .i64 (n:Int):=QE;subst Rb;subst QE;have hs:(⟨⟨[48]⟩⟩:ByteArray).size=1:=rfl;refine(Go.Proofs.Any.strings_Repeat Go.Proofs.Tryz.BP Go.Proofs.Tryz.mF ⟨⟨[48]⟩⟩ n w Om (by rw[hs];omega)).mono ?_;rintro e' w' ⟨rfl,hb⟩;have er:Lib.repeatL [48] n=List.replicate n 48:=by
  have:=Lib.repeatL_replicate 48 1 n;rw[Vg]at this;exact this
 refine qo (v:=.string ⟨(Lib.repeatL [48] n).toArray⟩) hr ?_ rfl hb;show Value.string ⟨(Lib.repeatL [48] n).toArray⟩=.string ⟨⟨List.replicate n 48⟩⟩;rw[er]
def Nt:nY Go.Proofs.Tryz.prog:=by
 refine⟨λh0 h1 w=>?_,λhs hl=>⟨_,[],by rw[TH];exact BY hs hl,rfl⟩,λh1 h2 h3=>⟨_,[],by rw[TH];exact CF h1 h2 h3,rfl⟩,λh1=>⟨_,[],by rw[TH];exact EI h1,rfl⟩⟩;obtain⟨mu,tl,hb⟩:=w;exact⟨_,[],by rw[TH];exact BZ h0 h1 hb,rfl⟩
def Nf:AM Go.Proofs.Tryz.prog:=
 ⟨run_callFunc_extern Go.Proofs.Tryz.func288 (by kernel_rfl) (by kernel_rfl) (by kernel_rfl) (by kernel_rfl),run_callFunc_extern Go.Proofs.Tryz.func262 (by kernel_rfl) (by kernel_rfl) (by kernel_rfl) (by kernel_rfl)⟩
open Go.ChangeShapes Go.WideShapes Go.Deep
inductive CT where
 |int (k:IntKind)
 |bool
 |str
 |sl (row:List CT)
def jO(P:Program)(f:TypeId->Option (List CT)):List Field->Nat->Option (List CT)
 |[],_=>some []
 |x::r,o=>
  match f x.type with
  |some a=>
   if x.offset=o/\a.length=P.cellsOf x.type then
    match jO P f r (o+a.length)with
    |some b=>some (a++b)
    |none=>none
   else none
  |none=>none
def yb(P:Program):Nat->TypeId->Option (List CT)
 | 0,_=>none
 |n+1,t=>
  match P.underlying t with
  |some (.int k)=>some [.int k]
  |some .bool=>some [.bool]
  |some .string=>some [.str]
  |some (.slice e)=>
   match yb P n e with
   |some r=>if r.length=P.cellsOf e/\0<r.length then some [.sl r]else none
   |none=>none
  |some (.struct fs)=>
   match jO P (yb P n) fs.toList 0 with
   |some r=>if r.length=P.cellsOf t then some r else none
   |none=>none
  |_=>none
mutual
def TY(h:af):CT->AV->Prop
 |.int k,a=>∃z,a=.int k z/\(Lit.int k z).wf=true
 |.bool,a=>∃b,a=.bool b
 |.str,a=>∃s:By,a=.str s/\s.length<=maxLen
 |.sl r,a=>∃cs:List (List AV),aA h a r.length cs/\cs.length<=maxLen/\∀c∈cs,gx h r c
def gx(h:af):List CT->List AV->Prop
 |[],l=>l=[]
 |t::ts,l=>∃a l',l=a::l'/\TY h t a/\gx h ts l'
end
mutual
theorem TY.ext{h k}(e:Ext h k):∀{t}{a},TY h t a->TY k t a
 |.int _,a,x=>x
 |.bool,a,x=>x
 |.str,a,x=>x
 |.sl r,a,x=>by
  rw[TY]at x ⊢;obtain⟨cs,h1,h2,h3⟩:=x;exact⟨cs,h1.ext e,h2,λc hc=>gx.ext e (h3 c hc)⟩
theorem gx.ext{h k}(e:Ext h k):∀{ts}{l},gx h ts l->gx k ts l
 |[],l,x=>x
 |t::ts,l,x=>by
  rw[gx]at x ⊢;obtain⟨a,l',h1,h2,h3⟩:=x;exact⟨a,l',h1,TY.ext e h2,gx.ext e h3⟩
end
theorem TY.one{h}:∀{t}{a},TY h t a->a.one=true
 |.int _,a,x=>by rw[TY]at x;obtain⟨z,rfl,_⟩:=x;rfl
 |.bool,a,x=>by rw[TY]at x;obtain⟨z,rfl⟩:=x;rfl
 |.str,a,x=>by rw[TY]at x;obtain⟨z,rfl,_⟩:=x;rfl
 |.sl r,a,x=>by rw[TY]at x;obtain⟨z,h1,_⟩:=x;exact h1.one
theorem gx.one{h}:∀{ts}{l},gx h ts l->l.all AV.one=true
 |[],l,x=>by rw[gx]at x;subst x;rfl
 |t::ts,l,x=>by
  rw[gx]at x;obtain⟨a,l',rfl,h1,h2⟩:=x;rw[Vu,h1.one,gx.one h2];rfl
theorem gx.length{h}:∀{ts}{l},gx h ts l->l.length=ts.length
 |[],l,x=>by rw[gx]at x;subst x;rfl
 |t::ts,l,x=>by
  rw[gx]at x;obtain⟨a,l',rfl,h1,h2⟩:=x;rw[Tl,Tl,gx.length h2]
theorem gx.append{h}:∀{ts us}{l m},gx h ts l->gx h us m->gx h (ts++us) (l++m)
 |[],us,l,m,x,y=>by rw[gx]at x;subst x;exact y
 |t::ts,us,l,m,x,y=>by
  rw[gx]at x;obtain⟨a,l',rfl,h1,h2⟩:=x;show gx h (t:: (ts++us)) (a:: (l'++m));rw[gx];exact⟨a,_,rfl,h1,gx.append h2 y⟩
def fq(E:List qc):bA:=λb=>E[b]?
def iG(E F:List qc):(fq E).le (fq (E++F)):=λb e hb=>by
 unfold fq at hb ⊢;rw[Tj (Th.1 hb).1];exact hb
structure AW(P:Program)(w:World)(E:List qc)(B:af):Prop where
 len:E.length=B.length
 own:∀(b:Nat) e,E[b]? =some e->e.own=false/\e.cb<w.heap.size
 dx:∀(b:Nat) e k,E[b]? =some e->B[b]? =some k->BR P (fq E) w e k/\(k=.dead\/∃c,k=.cells c false false)
 eZ:∀g,g<P.globals.size->∃e,E[g]? =some e/\e.cb=g/\e.d=0/\e.own=false/\e.sz=B5 P g
variable {P:Program}{w:World}{E:List qc}{B:af}
def AW.hr(a:AW P w E B):HR P (fq E) B w where
 bZ:=λb e hb=>by rw[<-a.len];exact(Th.1 hb).1
 dx:=λb e k hb hk=>(a.dx b e k hb hk).1
 sep:=λb1 b2 e1 e2 k1 k2 _ h1 h2 hk1 NG _=>by
  rcases(a.dx b1 e1 k1 h1 hk1).2 with rfl|⟨c1,rfl⟩
  ·cases k2<;>trivial
  ·rcases(a.dx b2 e2 k2 h2 NG).2 with rfl|⟨c2,rfl⟩
   ·trivial
   ·exact⟨rfl,rfl,λx=>by cases x⟩
 eZ:=a.eZ
 lt:=λb e hb=>(a.own b e hb).2
def AW.push(a:AW P w E B){e k}(ho:e.own=false)(hlt:e.cb<w.heap.size)(hb:BR P (fq E) w e k)(hk:k=.dead\/∃c,k=.cells c false false):AW P w (E++[e]) (B++[k]) where
 len:=by simp[a.len]
 own:=λb e' h=>by
  by_cases hlb:b<E.length
  ·rw[Tj hlb]at h;exact a.own b e' h
  ·have:=(Th.1 h).1;simp at this;have:b=E.length:=Om
   subst this;simp at h;subst h;exact⟨ho,hlt⟩
 dx:=λb e' k' h h'=>by
  by_cases hlb:b<E.length
  ·rw[Tj hlb]at h;rw[Tj (by rw[<-a.len];exact hlb)]at h';exact⟨(a.dx b e' k' h h').1.mono (iG E [e]),(a.dx b e' k' h h').2⟩
  ·have:=(Th.1 h).1;simp at this;have OS:b=E.length:=Om
   have hbb:b=B.length:=by rw[OS,a.len]
   rw[OS]at h;rw[hbb]at h';simp at h h';subst h;subst h';exact⟨hb.mono (iG E [e]),hk⟩
 eZ:=λg hg=>by
  obtain⟨e',h1,h2⟩:=a.eZ g hg;exact⟨e',iG E [e] g e' h1,h2⟩
def Laid(P:Program)(w:World)(E:List qc)(B:af)(row:List CT)(cs:List Value):Prop:=
 ∃F C ax,AW P w (E++F) (B++C)/\bY (fq (E++F)) ax cs/\gx (B++C) row ax
def Laid.app{row row2 cs Qa}(h1:Laid P w E B row cs)(h2:∀F C,AW P w (E++F) (B++C)->Laid P w (E++F) (B++C) row2 Qa):Laid P w E B (row++row2) (cs++Qa):=by
 obtain⟨F,C,ax,a1,a2,a3⟩:=h1;obtain⟨F',C',ax',b1,b2,b3⟩:=h2 F C a1;refine⟨F++F',C++C',ax++ax',by rw[<-Ti,<-Ti];exact b1,?_,?_⟩
 ·rw[<-Ti];exact(bY.mono (iG _ _) _ _ a2).append b2
 ·rw[<-Ti];exact gx.append (a3.ext ⟨C',rfl⟩) b3
def zQ(a:AW P w E B):Laid P w E B [] []:=⟨[],[],[],by simpa using a,by rw[aP],rfl⟩
def lP(a:AW P w E B){t x v}(hv:VR (fq E) x v)(ht:TY B t x):Laid P w E B [t] [v]:=
 ⟨[],[],[x],by simpa using a,by simpa using aF.2 ⟨v,[],rfl,hv,by rw[aP]⟩,by
  rw[TH,gx];exact⟨x,[],rfl,ht,rfl⟩⟩
section
variable {H:Type}{enc:TypeId×Value->H}{base:Nat}{held:Bool}
theorem qD{es:Nat}{r:List CT}{a:Addr}{m:Nat}(row:∀i,i<m->∃cs,w.cells? base (a.add (i*es)) es=some cs/\∀E B,AW P w E B->Laid P w E B r cs):∀(k:Nat) {E:List qc}{B:af},k<=m->AW P w E B->
  ∃(F:List qc) (C:af) (rows:List (List AV)) (VL:List Value),AW P w (E++F) (B++C)/\rows.length=k/\bY (fq (E++F)) rows.flatten VL/\(∀c∈rows,gx (B++C) r c)/\VL.length=k*es/\∀i,i<k*es->w.cell? (a.add i)=VL[i]?
 | 0,E,B,_,aw=>⟨[],[],[],[],by rw[TH,TH];exact aw,rfl,rfl,λc hc=>by(cases hc),by rw[Vd];rfl,λi hi=>by rw[Vd]at hi;exact absurd hi (Nat.not_lt_zero _)⟩
 |k+1,E,B,hkm,aw=>by
  obtain⟨F,C,rows,VL,h1,h2,h3,h4,h5,h6⟩:=qD row k Om aw;obtain⟨cs,PK,hl⟩:=row k Om;obtain⟨F',C',ax,a1,a2,a3⟩:=hl _ _ h1;obtain⟨_,hlen,Ok⟩:=World.cells?_some PK;refine⟨F++F',C++C',rows++[ax],VL++cs,by rw[<-Ti,<-Ti];exact a1,by rw[Tg,h2];rfl,?_,?_,by rw[Tg,h5,hlen,Uw],?_⟩
  ·rw[<-Ti,UT];refine(bY.mono (iG _ _) _ _ h3).append ?_;have:[ax].flatten=ax:=Si
   rw[this];exact a2
  ·intro c hcm;rw[<-Ti];rcases Tn.1 hcm with hm|hm
   ·exact(h4 c hm).ext ⟨C',rfl⟩
   ·rw[TD]at hm;subst hm;exact a3
  ·intro i hi;rw[Uw]at hi;by_cases hlt:i<k*es
   ·rw[h6 i hlt,Tj Om]
   ·rw[To Om,h5,<-Ok (i-k*es) Om,add_add,show k*es+(i-k*es)=i by omega]
theorem nL{f:TypeId->Option (List CT)}{cs:List Value}:∀(l:List Field) (o:Nat) {row:List CT},jO P f l o=some row->
  (∀x∈l,∀a,f x.type=some a->∀E B,AW P w E B->Laid P w E B a ((cs.drop x.offset).take (P.cellsOf x.type)))->∀E B,AW P w E B->Laid P w E B row ((cs.drop o).take row.length)
 |[],o,row,h,_,E,B,aw=>by
  unfold jO at h;cases h;rw[Tr,List.take_zero];exact zQ aw
 |x::l,o,row,h,hf,E,B,aw=>by
  unfold jO at h;split at h
  case h_2=>cases h
  rename_i a ha;split at h
  case isFalse=>cases h
  rename_i hc;split at h
  case h_2=>cases h
  rename_i b hb;cases h;have h1:=hf x (T0 ..) a ha E B aw;rw[hc.1,<-hc.2]at h1;rw[Tg,List.take_add,UL];exact h1.app λF C aw'=>nL l _ hb (λy hy=>hf y (TK _ hy)) _ _ aw'
theorem ga(hz:∃(z:Nat) (cc:Array Value) (el:TypeId) (fz:Nat×Nat),w.heap[z]? =some (Obj.cells cc el fz)):∀(n:Nat) (t:TypeId) (row:List CT),yb P n t=some row->∀(fuel:Nat) (cs:List Value) (x:DataW H×List MemPlace),
  DataW.trod enc P w base (λ_=>true) held fuel t cs=some x->∀E B,AW P w E B->Laid P w E B row cs
 | 0,t,row,h,_,_,_,_,_,_,_=>by cases h
 |n+1,t,row,h,fuel,cs,x,ht,E,B,aw=>by
  unfold yb at h;split at h
  ·rename_i k hu;cases h;obtain⟨z,rfl,_,hwf⟩:=DataW.trod_int hu ht;exact lP aw (x:=.int k z) (by rw[VR]) (by rw[TY];exact⟨z,rfl,hwf⟩)
  ·rename_i hu;cases h;obtain⟨b,rfl,_⟩:=DataW.trod_bool hu ht;exact lP aw (x:=.bool b) (by rw[VR]) (by rw[TY];exact⟨b,rfl⟩)
  ·rename_i hu;cases h;obtain⟨s,rfl,_,hs⟩:=DataW.trod_string hu ht;refine lP aw (x:=.str s.data.toList) (by rw[VR]) (by rw[TY];exact⟨_,rfl,by simpa using hs⟩)
  ·rename_i e hu;split at h
   case h_2=>cases h
   rename_i r hr;split at h
   case isFalse=>cases h
   rename_i hc;cases h;obtain⟨PR,hpos⟩:=hc;rcases open_slice hu ht with⟨rfl,_⟩|⟨a,len,cap,m,n',D,Pl,rfl,hb,hl,hm,Rz,_,hx⟩
   ·exact lP aw (x:=.ah) (by rw[VR]) (by rw[TY];exact⟨[],.nil,TJ _,λc hc=>by cases hc⟩)
   simp only[TQ]at Rz;subst Rz;rw[<-PR]at hx;by_cases hcap:m=0
   ·have NW:len=0:=Om
    subst NW;subst hcap;obtain⟨z,cc,el,fz,SF⟩:=hz;have h0lt:z<w.heap.size:=(Tw.1 SF).1;have hbr:BR P (fq E) w ⟨z,0,cc.size,false⟩ (.cells [] false false):=
     ⟨cc,el,fz,SF,⟨TJ _,TJ _,rfl⟩,λi x hx=>by(rw[List.getElem?_nil]at hx;cases hx),⟨λx=>absurd x U8,λx=>by rcases x with x|x<;>exact absurd x U8⟩⟩
    have aw2:=aw.push (e:=⟨z,0,cc.size,false⟩) (k:=.cells [] false false) rfl h0lt hbr (.inr ⟨[],rfl⟩);refine⟨[⟨z,0,cc.size,false⟩],[.cells [] false false],[.slice B.length 0 0 r.length],aw2,?_,?_⟩
    ·refine aF.2 ⟨_,[],rfl,?_,by rw[aP]⟩;rw[VR];exact⟨⟨z,0,cc.size,false⟩,a,0,by unfold fq;rw[<-aw.len];simp,rfl,Ts _,λx=>absurd x Om,by rw[Vd];exact TJ _⟩
    ·rw[gx];refine⟨_,[],rfl,?_,by rw[gx]⟩;rw[TY];refine⟨[],?_,TJ _,λc hc=>by cases hc⟩;exact aA.mk (cs:=[]) (b:=B.length) (o:=0) (c:=[]) (mu:=false) (tl:=false) Si Si Si (λx hx=>by cases hx)
   ·obtain⟨cs0,h00,_⟩:=hx 0 Om;obtain⟨csl,QQ,_⟩:=hx (m-1) Om;obtain⟨_,NW,hc0⟩:=World.cells?_some h00;obtain⟨_,hlenl,hcl⟩:=World.cells?_some QQ;have Ot:=hc0 0 hpos;have hlast:=hcl (r.length-1) Om;rw[add_add]at hlast;rw[add_add,Vd,VE]at Ot;have ha0:a.add 0=a:=by unfold Addr.add;simp
    rw[ha0,Tk Om]at Ot;unfold World.cell? at Ot;split at Ot
    case h_2=>cases Ot
    rename_i cc el fz PF;split at Ot
    ·cases Ot
    rename_i hspot;have Q1:a=⟨a.block,a.off,none⟩:=by
     cases a with
     |mk b o s=>cases s with
      |none=>rfl
      |some s=>exact absurd rfl hspot
    have hadd:∀i,a.add i=⟨a.block,a.off+i,none⟩:=λi=>by
     unfold Addr.add;by_cases hi:i=0
     ·subst hi;rw[Ty rfl];exact Q1
     ·rw[Tt hi]
    have P9:∀i,w.cell? (a.add i)=cc[a.off+i]? :=λi=>by
     rw[hadd];unfold World.cell?;simp only[PF,Option.isSome_none,T8,TT]
    have hmr:(m-1)*r.length+(r.length-1)+1=m*r.length:=by
     obtain⟨m',rfl⟩:∃m',m=m'+1:=⟨m-1,Om⟩;rw[Uw];simp only[Nat.add_sub_cancel];omega
    have dq:a.off+m*r.length<=cc.size:=by
     rw[P9,Tk Om]at hlast;have:=(Tw.1 hlast).1;omega
    obtain⟨F,C,rows,VL,h1,h2,h3,h4,h5,h6⟩:=qD (P:=P) (w:=w) (base:=base) (es:=r.length) (r:=r) (a:=a) (m:=m)
     (λi hi=>by
      obtain⟨cs',q1,q2⟩:=hx i hi;exact⟨cs',q1,λE B aw=>ga hz n e r hr _ _ _ q2 E B aw⟩) len hl aw
    have Of:rows.flatten.length=len*r.length:=by rw[<-h5,h3.length]
    have hmul:len*r.length<=m*r.length:=Uj _ hl;have Pa:∀c∈rows,c.length=r.length:=λc hc=>(h4 c hc).length
    have hone:∀x∈rows.flatten,x.one=true:=λx hx=>by
     obtain⟨c,hc,Ra⟩:=List.mem_flatten.1 hx;exact TM.1 (h4 c hc).one x Ra
    have hlt:a.block<w.heap.size:=(Tw.1 PF).1;have hbr:BR P (fq (E++F)) w ⟨a.block,a.off,cc.size,false⟩ (.cells rows.flatten false false):=
     ⟨cc,el,fz,PF,⟨by rw[Of];show a.off+_<=_;omega,by rw[Of];show a.off+_<=cc.size;omega,rfl⟩,λi x hx=>by
       refine⟨hone x (T6 hx),?_⟩;obtain⟨v,hv,NH⟩:=h3.get hx;have hi:i<len*r.length:=by rw[<-Of];exact(Th.1 hx).1
       refine⟨v,?_,NH⟩;show cc[a.off+i]? =some v;rw[<-P9,h6 i hi,hv],⟨λx=>absurd x U8,λx=>by rcases x with x|x<;>exact absurd x U8⟩⟩
    have aw2:=h1.push (e:=⟨a.block,a.off,cc.size,false⟩) (k:=.cells rows.flatten false false) rfl hlt hbr (.inr ⟨_,rfl⟩);rw[Ti,Ti]at aw2;refine⟨F++[⟨a.block,a.off,cc.size,false⟩],C++[.cells rows.flatten false false],[.slice (B++C).length 0 len r.length],aw2,?_,?_⟩
    ·refine aF.2 ⟨_,[],rfl,?_,by rw[aP]⟩;rw[VR];refine⟨⟨a.block,a.off,cc.size,false⟩,a,m,?_,rfl,hl,λ_=>?_,?_⟩
     ·unfold fq;rw[<-h1.len,<-Ti,To (Ts _),Uf];rfl
     ·show a=⟨a.block,0+a.off,none⟩;rw[TZ];exact Q1
     ·show 0+a.off+m*r.length<=cc.size;omega
    ·rw[gx];refine⟨_,[],rfl,?_,by rw[gx]⟩;rw[TY];refine⟨rows,?_,Om,λc hc=>?_⟩
     ·rw[<-h2];refine aA.mk (c:=rows.flatten) (mu:=false) (tl:=false) ?_ ?_ ?_ Pa
      ·rw[<-Ti,To (Ts _),Uf];rfl
      ·rw[UF,h2,<-Of,T7]
      ·rw[h2,Of];omega
     ·rw[<-Ti];exact(h4 c hc).ext ⟨_,rfl⟩
  ·rename_i fs hu;split at h
   case h_2=>cases h
   rename_i r hr;split at h
   case isFalse=>cases h
   rename_i hc;cases h;obtain⟨xs,n',rfl,rfl,hlen,hxl,hf⟩:=DataW.trod_struct hu ht;have:=nL (P:=P) (w:=w) (cs:=cs) fs.toList 0 hr (λx hx a ha E B aw=>by
    obtain⟨i,hi⟩:=List.getElem?_of_mem hx;have hi':fs[i]? =some x:=by rw[<-UD];exact hi
    have hlt:i<xs.length:=by rw[hxl];exact(Tw.1 hi').1
    have h1:=hf i x hi';rw[Tk hlt]at h1;exact ga hz n x.type a ha _ _ _ h1 E B aw) E B aw
   rw[UF,hc,<-hlen,T7]at this;exact this
  ·cases h
inductive AT where
 |one (t:CT)
 |agg (r:List CT)
def D5(P:Program)(e:TypeId):Option CT:=
 match P.underlying e with
 |some (.int k)=>some (.int k)
 |some .string=>some .str
 |_=>none
def F3(P:Program)(n:Nat)(t:TypeId):Option AT:=
 match P.underlying t with
 |some (.struct _)=>
  match yb P n t with
  |some r=>some (.agg r)
  |none=>none
 |some (.int k)=>some (.one (.int k))
 |some .bool=>some (.one .bool)
 |some .string=>some (.one .str)
 |some (.slice _)=>
  match yb P n t with
  |some [c]=>some (.one c)
  |_=>none
 |some (.array m e)=>
  match D5 P e with
  |some c=>if P.cellsOf e=1/\P.cellsOf t=m then some (.agg (List.replicate m c))else none
  |none=>none
 |_=>none
def rp{w r b0}{t e:TypeId}{m v}(ht:P.underlying t=some (.array m e))(h:Value.okWide P w r b0 t v):∃cs,v=.agg cs/\cs.size=P.cellsOf t:=by
 simp only[Value.okWide,ht]at h;obtain⟨cs,h1,h2,_⟩:=h;exact⟨cs,h1,h2⟩
theorem qu{M B c}:∀(L:List Value),(∀i (hi:i<L.length),∃a,VR M a L[i]/\TY B c a)->∃l:List AV,bY M l L/\gx B (List.replicate L.length c) l
 |[],_=>⟨[],by rw[aP],by rw[Tr,VB,gx]⟩
 |v::L,h=>by
  obtain⟨a,e,hz⟩:=h 0 Si;obtain⟨l,h1,h2⟩:=qu L λi hi=>h (i+1) (by simpa using hi)
  simp only[List.getElem_cons_zero]at e;refine⟨a::l,aF.2 ⟨_,_,rfl,e,h1⟩,?_⟩;rw[Tl,UN,gx];exact⟨_,_,rfl,hz,h2⟩
def qS(P:Program)(n:Nat):List TypeId->Option (List AT)
 |[]=>some []
 |t::ts=>
  match F3 P n t,qS P n ts with
  |some a,some l=>some (a::l)
  |_,_=>none
def D9(h:af):AT->AV->Prop
 |.one t,a=>TY h t a
 |.agg r,a=>∃l,a=.agg l/\gx h r l
theorem D9.ext{h k}(e:Ext h k):∀{t}{a},D9 h t a->D9 k t a
 |.one _,_,x=>TY.ext e x
 |.agg _,_,⟨l,e1,x⟩=>⟨l,e1,gx.ext e x⟩
def qa(h:af):List AT->List AV->Prop
 |[],l=>l=[]
 |t::ts,l=>∃a l',l=a::l'/\D9 h t a/\qa h ts l'
def zR(hz:∃(z:Nat) (cc:Array Value) (el:TypeId) (fz:Nat×Nat),w.heap[z]? =some (Obj.cells cc el fz)){n}{t:TypeId}{at'}(h:F3 P n t=some at'){v d ps}(ht:DataW.Trod enc P w base (λ_=>true) held t v d ps)
  {r}{b0}(ho:Value.okWide P w r b0 t v) (aw:AW P w E B):∃(F:List qc) (C:af) (a:AV),AW P w (E++F) (B++C)/\VR (fq (E++F)) a v/\D9 (B++C) at' a:=by
 obtain⟨fuel,ht⟩:=ht;unfold F3 at h;split at h
 ·rename_i fs hu;split at h
  case h_2=>cases h
  rename_i r hr;cases h;obtain⟨cs,rfl,_⟩:=okWide_struct hu ho;obtain⟨F,C,ax,h1,h2,h3⟩:=ga hz n t r hr fuel _ _ ht E B aw;refine⟨F,C,.agg ax,h1,?_,ax,rfl,h3⟩;rw[VR];exact⟨_,rfl,h2⟩
 ·rename_i k hu;cases h;obtain⟨z,rfl⟩:=okWide_int hu ho;obtain⟨z',e,_,hwf⟩:=DataW.trod_int hu ht;cases e;exact⟨[],[],.int k z,by rw[TH,TH];exact aw,by rw[VR],by show TY _ _ _;rw[TY];exact⟨z,rfl,hwf⟩⟩
 ·rename_i hu;cases h;obtain⟨z,rfl⟩:=okWide_bool hu ho;exact⟨[],[],.bool z,by rw[TH,TH];exact aw,by rw[VR],by show TY _ _ _;rw[TY];exact⟨z,rfl⟩⟩
 ·rename_i hu;cases h;obtain⟨s,rfl⟩:=okWide_string hu ho;obtain⟨s',e,_,hs⟩:=DataW.trod_string hu ht;cases e;exact⟨[],[],.str s.data.toList,by rw[TH,TH];exact aw,by rw[VR],by show TY _ _ _;rw[TY];exact⟨_,rfl,by simpa using hs⟩⟩
 ·rename_i e hu;split at h
  case h_2=>cases h
  rename_i c hc;cases h;obtain⟨a,len,cap,rfl⟩:=okWide_slice hu ho;obtain⟨F,C,ax,h1,h2,h3⟩:=ga hz n t _ hc fuel _ _ ht E B aw;rw[gx]at h3;obtain⟨x,l',rfl,h4,h5⟩:=h3;rw[gx]at h5;subst h5;obtain⟨y,ys,e,h6,_⟩:=aF.1 h2;cases e;exact⟨F,C,x,h1,h6,h4⟩
 ·rename_i m e hu;split at h
  case h_2=>cases h
  rename_i c hk;split at h
  case isFalse=>cases h
  rename_i hc;cases h;obtain⟨cs,rfl,PK⟩:=rp hu ho;obtain⟨xs,n',rfl,_,hlen,hxl,hf⟩:=DataW.trod_array hu ht;have hcl:(Value.agg cs).cells.toList=cs.toList:=rfl;rw[hcl]at hlen hf;rw[hc.2]at hlen;obtain⟨l,h1,h2⟩:=qu (M:=fq E) (B:=B) (c:=c) cs.toList λi hi=>by
   have hi':i<xs.length:=Om
   have h3:=hf i Om;rw[hc.1,Vg,Tk hi',U9 hi,Vf,List.take_zero]at h3;unfold D5 at hk;split at hk
   ·rename_i k hk';cases hk;obtain⟨z,e1,_,hwf⟩:=DataW.trod_int hk' h3;exact⟨.int k z,by rw[(List.cons.inj e1).1,VR],by rw[TY];exact⟨z,rfl,hwf⟩⟩
   ·rename_i hk';cases hk;obtain⟨s',e1,_,hs⟩:=DataW.trod_string hk' h3;exact⟨.str s'.data.toList,by rw[(List.cons.inj e1).1,VR],by rw[TY];exact⟨_,rfl,by simpa using hs⟩⟩
   ·cases hk
  rw[hlen]at h2;exact⟨[],[],.agg l,by rw[TH,TH];exact aw,by rw[VR,TH];exact⟨_,rfl,h1⟩,l,rfl,by rw[TH];exact h2⟩
 ·cases h
theorem qE(hz:∃(z:Nat) (cc:Array Value) (el:TypeId) (fz:Nat×Nat),w.heap[z]? =some (Obj.cells cc el fz)){n r b0}:∀(tys:List TypeId) {ats},qS P n tys=some ats->∀(vs:List Value) (ds:List (DataW H)) (ps:List MemPlace),
  DataW.TrodAll enc P w base (λ_=>true) held tys vs ds ps->(∀(j:Nat) t v,tys[j]? =some t->vs[j]? =some v->Value.okWide P w r b0 t v)->∀{E}{B},AW P w E B->
  ∃(F:List qc) (C:af) (ax:List AV),AW P w (E++F) (B++C)/\bY (fq (E++F)) ax vs/\qa (B++C) ats ax
 |[],ats,h,vs,ds,ps,ht,_,E,B,aw=>by
  unfold qS at h;cases h;cases vs with
  |cons v vs=>cases ds<;>exact ht.elim
  |nil=>exact⟨[],[],[],by rw[TH,TH];exact aw,by rw[aP],by rw[qa]⟩
 |t::tys,ats,h,vs,ds,ps,ht,ho,E,B,aw=>by
  unfold qS at h;split at h
  case h_2=>cases h
  rename_i a l ha hl;cases h;cases vs with
  |nil=>cases ds<;>exact ht.elim
  |cons v vs=>
   cases ds with
   |nil=>exact ht.elim
   |cons d ds=>
    obtain⟨p,q,h1,h2,_⟩:=ht;obtain⟨F,C,x,a1,a2,a3⟩:=zR hz ha h1 (ho 0 t v rfl rfl) aw;obtain⟨F',C',xs,b1,b2,b3⟩:=qE hz tys hl vs ds q h2 (λj t v h h'=>ho (j+1) t v h h') a1;refine⟨F++F',C++C',x::xs,by rw[<-Ti,<-Ti];exact b1,?_,?_⟩
    ·rw[<-Ti];exact aF.2 ⟨v,vs,rfl,VR.mono (iG _ _) _ _ a2,b2⟩
    ·rw[<-Ti,qa];exact⟨x,xs,rfl,a3.ext ⟨C',rfl⟩,b3⟩
end
open Go.ChangeShapes Go.WideShapes Go.RowKit
def Az(f:DataW Unit->Option (List AV)):List (DataW Unit)->Option (List AV)
 |[]=>some []
 |d::r=>
  match f d,Az f r with
  |some a,some b=>some (a++b)
  |_,_=>none
def wN(P:Program):Nat->TypeId->DataW Unit->Option (List AV)
 | 0,_,_=>none
 |n+1,t,d=>
  match P.underlying t with
  |some (.int k)=>
   match d with
   |.lit (.int _ z)=>some [.int k z]
   |_=>none
  |some .string=>
   match d with
   |.lit (.string s)=>some [.str s]
   |_=>none
  |some (.array m e)=>
   match d with
   |.agg l=>
    match Az (wN P n e) l with
    |some r=>if P.cellsOf t=m*P.cellsOf e then some r else none
    |none=>none
   |_=>none
  |_=>none
section
variable {P:Program}{w:World}{base:Nat}{sp:Nat->Bool}{held:Bool}
theorem wO{f:DataW Unit->Option (List AV)}{m:bA}{ce:Nat}{cs:List Value}{g:List Value->Option (DataW Unit×List MemPlace)}(hf:∀c d p ax,g c=some (d,p)->f d=some ax->bY m ax c/\ax.all AV.one=true):
  ∀(l:List (DataW Unit×List MemPlace)) (o:Nat) {ax:List AV},Az f (l.map (·.1))=some ax->(∀i (hi:i<l.length),g ((cs.drop ((o+i)*ce)).take ce)=some l[i])->bY m ax ((cs.drop (o*ce)).take (l.length*ce))/\ax.all AV.one=true
 |[],o,ax,h,_=>by
  unfold Az at h;cases h;rw[Tr,Vd,List.take_zero];exact⟨by rw[aP],rfl⟩
 |x::l,o,ax,h,hx=>by
  rw[Un]at h;unfold Az at h;split at h
  case h_2=>cases h
  rename_i a b ha hb;cases h;have h0:=hx 0 (by rw[Tl];omega);rw[VE,List.getElem_cons_zero]at h0;obtain⟨p1,p2⟩:=hf _ x.1 x.2 a h0 ha;obtain⟨q1,q2⟩:=wO hf l (o+1) hb (λi hi=>by
   have:=hx (i+1) (by rw[Tl];omega);rw[List.getElem_cons_succ]at this;rw[show o+1+i=o+(i+1) by omega];exact this)
  refine⟨?_,by rw[List.all_append,p2,q2];rfl⟩;rw[Tl,Uw,Nat.add_comm (l.length*ce) ce,List.take_add,UL];refine p1.append ?_;rw[<-Uw];exact q1
theorem tY{m:bA}:∀(n:Nat) (t:TypeId) (fuel:Nat) (cs:List Value) (d:DataW Unit) (p:List MemPlace) (ax:List AV),
  DataW.trod (λ_=>()) P w base sp held fuel t cs=some (d,p)->wN P n t d=some ax->bY m ax cs/\ax.all AV.one=true
 | 0,_,_,_,_,_,_,_,h=>by cases h
 |n+1,t,fuel,cs,d,p,ax,ht,h=>by
  unfold wN at h;split at h
  ·rename_i k hu;obtain⟨z,rfl,e,_⟩:=DataW.trod_int hu ht;cases e;cases h;exact⟨aF.2 ⟨_,[],rfl,by rw[VR],by rw[aP]⟩,rfl⟩
  ·rename_i hu;obtain⟨s,rfl,e,_⟩:=DataW.trod_string hu ht;cases e;cases h;exact⟨aF.2 ⟨_,[],rfl,rfl,by rw[aP]⟩,rfl⟩
  ·rename_i mm e hu;obtain⟨xs,m',_,ex,hlen,hxl,hf⟩:=DataW.trod_array hu ht;cases ex;simp only at h;split at h
   case h_2=>cases h
   rename_i r hr;split at h
   case isFalse=>cases h
   rename_i hc;cases h;have:=wO (m:=m) (ce:=P.cellsOf e) (cs:=cs) (g:=DataW.trod (λ_=>()) P w base sp held m' e) (λc d p ax h1 h2=>tY n e m' c d p ax h1 h2) xs 0 hr (λi hi=>by
    have:=hf i Om;rw[Tk hi]at this;rw[TZ];exact this)
   rw[Vd,UF,hxl,<-hc,<-hlen,T7]at this;exact this
  ·cases h
def DO(P:Program)(laid:List (String×DataW Unit))(n:Nat)(g:Nat):ai:=
 match laid.find? (λx=>P.globalNamed x.1==some g)with
 |some x=>
  match (P.globals[g]?).map (·.type)with
  |some t=>
   match wN P n t x.2 with
   |some ax=>if ax.length=B5 P g then .cells ax false false else .dead
   |none=>.dead
  |none=>.dead
 |none=>.dead
def qI(P:Program):List qc:=(List.range P.globals.size).map λg=>⟨g,0,B5 P g,false⟩
def tF(P:Program)(laid:List (String×DataW Unit))(n:Nat):af:=(List.range P.globals.size).map (DO P laid n)
theorem iX:∀{laid}{ps},DataW.LaidVars P w laid ps->∀x∈laid,∃g t cs fuel p,P.globalNamed x.1=some g/\(P.globals[g]?).map (·.type)=some t/\w.var? P x.1=some cs/\
  DataW.trod (λ_=>()) P w 0 (λ_=>true) false fuel t cs.toList=some (x.2,p)
 |[],_,_,x,hx=>by cases hx
 |(n,d)::r,ps,h,x,hx=>by
  obtain⟨g,t,cs,fuel,p,q,h1,h2,h3,h4,h5,_⟩:=h;rcases TP.1 hx with rfl|hx
  ·exact⟨g,t,cs,fuel,p,h1,h2,h3,h4⟩
  ·exact iX h5 x hx
def vH{n g cs}(hg:P.globalNamed n=some g)(h:w.var? P n=some cs):∃el fz,w.heap[g]? =some (.cells cs el fz):=by
 unfold World.var? at h;rw[hg]at h;simp only[Option.bind_some]at h;split at h
 ·rename_i c el fz hb;cases h;exact⟨el,fz,hb⟩
 ·cases h
theorem AW.globals{RT laid}(hl:laidMet P RT w)(hsub:∀x∈laid,x∈RT)(n:Nat){nm d}(hlast:(nm,d)∈laid)(hg:P.globalNamed nm=some (P.globals.size-1)):
  AW P w (qI P) (tF P laid n)/\∃(z:Nat) (cc:Array Value) (el:TypeId) (fz:Nat×Nat),w.heap[z]? =some (Obj.cells cc el fz):=by
 obtain⟨ps,hv,_,_⟩:=hl;obtain⟨g0,t0,cs0,_,_,a1,_,a3,_⟩:=iX hv _ (hsub _ hlast);obtain⟨el0,fz0,O8⟩:=vH a1 a3;have dq:P.globals.size-1<w.heap.size:=by
  have e:g0=P.globals.size-1:=Ug (a1.symm.trans hg);rw[<-e];exact(Tw.1 O8).1
 have hE:∀(b:Nat) e,(qI P)[b]? =some e->b<P.globals.size/\e=⟨b,0,B5 P b,false⟩:=λb e h=>by
  unfold qI at h;rw[UG]at h;have hb:b<P.globals.size:=by
   cases hr:(List.range P.globals.size)[b]? with
   |none=>rw[hr]at h;cases h
   |some y=>have:=(Th.1 hr).1;simpa using this
  rw[List.getElem?_range hb]at h;exact⟨hb,(Ug h).symm⟩
 refine⟨⟨by simp[qI,tF],λb e h=>?_,λb e k h h'=>?_,λg hg=>⟨⟨g,0,B5 P g,false⟩,?_,rfl,rfl,rfl,rfl⟩⟩,⟨g0,cs0,el0,fz0,O8⟩⟩
 ·obtain⟨hb,rfl⟩:=hE b e h;exact⟨rfl,by show b<_;omega⟩
 ·obtain⟨hb,rfl⟩:=hE b e h;unfold tF at h';rw[UG,List.getElem?_range hb]at h';have h':=(Ug h').symm;subst h';unfold DO;split
  case h_2=>exact⟨trivial,.inl rfl⟩
  rename_i x hx;split
  case h_2=>exact⟨trivial,.inl rfl⟩
  rename_i t ht;split
  case h_2=>exact⟨trivial,.inl rfl⟩
  rename_i ax has;split
  case isFalse=>exact⟨trivial,.inl rfl⟩
  rename_i hlen;refine⟨?_,.inr ⟨ax,rfl⟩⟩;obtain⟨g,t',cs,fuel,p,b1,b2,b3,b4⟩:=iX hv x (hsub _ (List.mem_of_find?_eq_some hx));have hgb:P.globalNamed x.1=some b:=by have:=VF hx;simpa using this
  have e1:g=b:=Ug (b1.symm.trans hgb);subst e1;have e2:t' =t:=Ug (b2.symm.trans ht);subst e2;obtain⟨el,fz,PF⟩:=vH b1 b3;obtain⟨c1,c2⟩:=tY (m:=fq (qI P)) n t' fuel _ _ _ _ b4 has;have hcl:cs.size=ax.length:=by have:=c1.length;simpa using this
  refine⟨cs,el,fz,PF,⟨by show 0+_<=_;omega,by show 0+_<=B5 P g;omega,by show cs.size=B5 P g;omega⟩,λi x hx=>?_,⟨λx=>absurd x U8,λx=>by rcases x with x|x<;>exact absurd x U8⟩⟩;refine⟨TM.1 c2 x (T6 hx),?_⟩;obtain⟨v,Rb,QE⟩:=c1.get hx;refine⟨v,?_,QE⟩;show cs[0+i]? =some v;rw[TZ,<-UD];exact Rb
 ·unfold qI;rw[UG,List.getElem?_range hg];rfl
end
section
variable {P:Program}{W W':World}{E:List qc}{B h':af}{m':bA}
def AW.below(aw:AW P W E B)(g:Grow (fq E) B W m' h' W'):Below W.heap.size W W':=
 ⟨g.os,g.tape,g.out,g.size,λk hk=>g.frame k hk λb e hb ho=>by rw[(aw.own b e hb).1]at ho;cases ho⟩
def vv(b:Below W.heap.size W W')(may:MemPlace->Prop):W.keptBut W' may:=by
 refine⟨b.os,b.output,λi hi=>?_⟩;rw[b.block i hi];split
 ·rename_i h1 h2;rw[h1]at h2;simp only[TG,Obj.cells.injEq]at h2;obtain⟨rfl,rfl,rfl⟩:=h2;exact⟨rfl,rfl,rfl,λ_ _=>rfl⟩
 ·rename_i h1 h2;rw[h1]at h2;simp only[TG,Obj.map.injEq]at h2;obtain⟨rfl,rfl⟩:=h2;exact .inr ⟨rfl,rfl⟩
 ·rfl
variable {H:Type}{enc:TypeId×Value->H}
theorem ku(hlo:laidOutB P=true)(hb:Below W.heap.size W W'){sp}:∀{tys}{vs}{ds}{ps},(∀t∈tys,P.readableRec t=true/\t<P.types.size)->
  DataW.TrodAll enc P W 0 (λ_=>true) true tys vs ds ps->(∀p∈ps,p.block<W.heap.size)->(∀p∈ps,sp p.block=true)->DataW.TrodAll enc P W' 0 sp true tys vs ds ps
 |[],[],[],ps,_,h,_,_=>h
 |[],[],_::_,_,_,h,_,_=>h.elim
 |[],_::_,_,_,_,h,_,_=>h.elim
 |_::_,[],_,_,_,h,_,_=>h.elim
 |_::_,_::_,[],_,_,h,_,_=>h.elim
 |t::tys,v::vs,d::ds,ps,hr,h,hl,hs=>by
  obtain⟨p,q,h1,h2,rfl⟩:=h;exact⟨p,q,WideElems.Trod_stays hlo (hr t (T0 ..)).1 (hr t (T0 ..)).2 h1 (λx hx=>hb.same (hl x (List.mem_append_left _ hx))) (λx hx=>hs x (List.mem_append_left _ hx)),
   ku hlo hb (λt ht=>hr t (TK _ ht)) h2 (λx hx=>hl x (List.mem_append_right _ hx)) (λx hx=>hs x (List.mem_append_right _ hx)),rfl⟩
def xM{f:Func}{s:ChangeSpec}{apart fresh handsOn again:Bool}{args:Array Value}{ds gs:List (DataW H)}{before:List MemPlace}{tb:TypeId}
  (hlo:laidOutB P=true) (hpar:∀t∈f.params.toList,P.readableRec t=true/\t<P.types.size) (hrt:f.resultTypes=#[tb]) (htb:P.underlying tb=some .bool) (hvars:s.vars=[])
  (hfn:(s.fn H (ds++gs))={results:=[.lit (.bool true)],args:=ds}) (hW:DataW.Whole enc P f.params.toList s.vars apart W args.toList ds gs before) (hb:Below W.heap.size W W'):
  s.post enc P f apart fresh handsOn again W args (.bool true) W':=by
 have hlt:=hW.lt;have hW':=hW;obtain⟨p,q,hA,hV,rfl,hz,hn⟩:=hW';rw[hvars]at hV;obtain⟨rfl,rfl⟩:=trodVars_none hV;rw[TH]at hlt;have hres:∀(b:Nat) (sp:Nat->Bool) (hd:Bool),DataW.TrodAll enc P W' b sp hd f.resultTypes.toList ((Value.bool true).resultList f.resultTypes.size) (s.fn H (ds++[])).results []:=λb sp hd=>by
  rw[hfn,hrt];exact trodAll_mk1 (shut_bool htb _)
 have hargs:∀sp:Nat->Bool,(∀x∈p,sp x.block=true)->DataW.TrodAll enc P W' 0 sp true f.params.toList args.toList (s.fn H (ds++[])).args p:=λsp hs=>by
  rw[hfn];exact ku hlo hb hpar hA hlt hs
 have Oq:∀sp:Nat->Bool,DataW.TrodVars enc P W' sp s.vars (s.fn H (ds++[])).vars []:=λsp=>by
  rw[hfn,hvars];rfl
 refine⟨ds,[],p++[],[],p,[],hW,hres _ _ _,hargs _ (λx hx=>by simpa using hlt x hx),Oq _,vv hb _,λ_=>?_⟩;refine⟨?_,_,_,([]++p)++[],⟨[]++p,[],trodAll_append (hargs _ (λ_ _=>rfl)) (hres _ _ _),Oq _,rfl,?_,?_⟩,?_⟩
 ·exact ok_one hrt rfl (okWide_bool_mk htb _)
 ·intro b off hp;have hp:MemPlace.cell b off∈p:=by simpa using hp
  have:=hz b off (by simpa using hp);unfold World.frozen? at this ⊢;rw[hb.block b (hlt _ hp)];exact this
 ·intro ha;have:=hn ha
  simpa using this
 ·intro x hx _
  simpa using hx
def zm{f:Func}{fid:FuncId}{s:ChangeSpec}{apart fresh handsOn again:Bool}{args:Array Value}{ds gs:List (DataW H)}{before:List MemPlace}{tb:TypeId}{n:Nat}{ats:List AT}{r:Reach}{b0:Nat}
  (hlo:laidOutB P=true) (hpar:∀t∈f.params.toList,P.readableRec t=true/\t<P.types.size) (hrt:f.resultTypes=#[tb]) (htb:P.underlying tb=some .bool) (hvars:s.vars=[])
  (hfn:(s.fn H (ds++gs))={results:=[.lit (.bool true)],args:=ds}) (hats:qS P n f.params.toList=some ats)
  (hval:∀(j:Nat) t v,f.params[j]? =some t->args[j]? =some v->Value.okWide P W r b0 t v)
  (hW:DataW.Whole enc P f.params.toList s.vars apart W args.toList ds gs before) (aw:AW P W E B) (hz:∃(z:Nat) (cc:Array Value) (el:TypeId) (fz:Nat×Nat),W.heap[z]? =some (Obj.cells cc el fz))
  (call:∀k ax,Ext B k->qa k ats ax->ao P fid ax k λv _=>v=.bool true):
  Calls P fid args W λe W'=>∃v,e=.returned v/\s.post enc P f apart fresh handsOn again W args v W':=by
 obtain⟨p,q,hA,_⟩:=id hW;obtain⟨F,C,ax,h1,h2,h3⟩:=qE hz f.params.toList hats args.toList ds p hA (λj t v h h'=>hval j t v (by rw[<-UD];exact h) (by rw[<-UD];exact h')) aw;obtain⟨v,g,hs,rfl⟩:=call (B++C) ax ⟨C,rfl⟩ h3;refine(hs (fq (E++F)) W args.toList h1.hr h2).mono λe W' ⟨cv,m',he,hv,_,hg⟩=>?_
 rw[VR]at hv;subst hv;exact⟨_,he,xM hlo hpar hrt htb hvars hfn hW (h1.below hg)⟩
end
end Go.Abs
namespace Go.Proofs.YtgplmdgpmbegiaaGreatDoor
open Go.Abs
noncomputable def tG:af:=tF Tryz.prog Rows.houseSafeRow.laid 6
def B7:tG[0]? =some (.cells M5 false false):=by kernel_rfl
def B6:tG[2]? =some (.cells (Lib.pow10Tab.map (AV.int .u64)) false false):=by kernel_rfl
def M8{k:af}(e:Ext tG k):Gl k:=⟨_,_,e.some B7⟩
def Ns{k:af}(e:Ext tG k):Pw k:=⟨_,_,e.some B6⟩
end Go.Proofs.YtgplmdgpmbegiaaGreatDoor
namespace Go.Proofs.YtgplmdgpmbegiaaGreatDoor
open Go.ChangeShapes Go.WideShapes Go.RowKit Go.Abs
def fb{a b:Bool}(h:a=true)(h':b=true):(a&&b)=true:=by rw[h,h'];rfl
def own:ownKnob Tryz.prog.godebug=none:=by kernel_rfl
def laidOut:laidOutB Tryz.prog=true:=by kernel_rfl
def Bj:mapsRowed Tryz.prog=true:=by kernel_rfl
def y9:(Tryz.prog.stops==[])=true:=by kernel_rfl
def zd:(Tryz.prog.stopKnobs==[])=true:=by kernel_rfl
def ze:Tryz.prog.stopsHeard=true:=by kernel_rfl
def zf:Tryz.prog.mayEnter=true:=by kernel_rfl
def zb:(Rows.houseSafeRow.lifted==Tryz.prog.liftsFinal)=true:=by kernel_rfl
def Bk:(Tryz.prog.make==some Rows.houseSafeRow.make)=true:=by kernel_rfl
def Bn:(Rows.houseSafeRow.plainKeys==Tryz.prog.plainKeys)=true:=by kernel_rfl
def Bl:Tryz.prog.mainIs=some (true, "99e684478f8cae51b056da3a355f6848a653f6e5f09f29bc4422acb306b2dd43".toList):=by kernel_rfl
def za:true=Tryz.prog.looks []:=by kernel_rfl
def xD(os:Os)(args:Array Value):((World.laidAll Tryz.prog os Rows.houseSafeRow.laid).forCall (λ_ _=>0) ⟨#[],args,[]⟩).Shaped Tryz.prog:=World.shaped_of_ZipB (by kernel_rfl) (by kernel_rfl)
def Bm(os:Os)(args:Array Value):laidMetH Tryz.prog Rows.houseSafeRow.laid ((World.laidAll Tryz.prog os Rows.houseSafeRow.laid).forCall (λ_ _=>0) ⟨#[],args,[]⟩).memory:=by
 rw[MakeChecks.laidMetH_plain _ _ _ (by kernel_rfl)];exact laidMet_laidAll _ (by kernel_rfl) (by kernel_rfl)
end Go.Proofs.YtgplmdgpmbegiaaGreatDoor
namespace Go.Abs
set_option maxRecDepth 10000
attribute [local irreducible] WP WC WE WB WR WF WL WG eD WM
section
variable {P:Program}(T:dB P) {B X W:af}{ts:TS}{V:RV}{x:EV}
include T
end
section
variable {P:Program}(T:dB P) {B X W:af}{ts:TS}{V:RV}{x:EV}
include T
end
section
variable {P:Program}(T:dB P) {B X W Y:af}{ts:TS}{V:RV}{x:EV}{mb:Nat}
include T
variable {t:AV}
omit T in
end
section
variable {P:Program}(T:dB P) {B X W:af}{ts:TS}{V:RV}{x:EV}
include T
end
section
variable {P:Program}(T:dB P) {B X W:af}{ts:TS}{V:RV}{x:EV}
include T
end
section
variable {P:Program}(T:dB P) {h K:af}{ts:TS}{V U:RV}{x:EV}
include T
end
end Go.Abs
