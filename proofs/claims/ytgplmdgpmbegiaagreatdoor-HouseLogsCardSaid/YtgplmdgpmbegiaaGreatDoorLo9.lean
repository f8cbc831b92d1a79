/- A part of the proof that HouseLogs holds. No condition. -/
import Derived.Test.YtgplmdgpmbegiaaGreatDoorLo8
import Derived.Test.YtgplmdgpmbegiaaGreatDoorLo7
import Derived.Laws.Externs
import Derived.Shelf.Strconv.Itoa3
import Derived.Shelf.Strconv.Atoi
import Derived.Lib.AtoiErrMem
import Derived.Test.YtgplmdgpmbegiaaGreatDoorLo1
import Derived.Test.YtgplmdgpmbegiaaGreatDoorLo2
import Derived.Test.YtgplmdgpmbegiaaGreatDoorLo5
import Derived.Test.YtgplmdgpmbegiaaGreatDoorLo6
import Derived.ChangeArms
import Derived.Deep.Slices
import Derived.WideShapes
import Derived.ChangeShapes
import Derived.ChangeMaps5
import Derived.OpenShut
import Derived.Carry
import Derived.ChangeSame
import Derived.RowKit
import Derived.ProofKit
import Derived.LaidMore
import Derived.Lay
import Derived.SevenTiedAt
import Derived.Stop.Joined
import Derived.Test.YtgplmdgpmbegiaaGreatDoorRows
import Derived.Test.YtgplmdgpmbegiaaGreatDoorTie
import Derived.Test.YtgplmdgpmbegiaaGreatDoorCards
import Derived.Test.YtgplmdgpmbegiaaGreatDoorLo0
set_option maxHeartbeats 4000000
set_option linter.all false
open Nat (reduceAdd reduceMul reduceLeDiff reduceEqDiff)
namespace Go.Abs
theorem kD{c}:∀{s},(bU c s).2.2=true->s=(bU c s).1++c:: (bU c s).2.1
 |[],h=>by cases h
 |x::r,h=>by
  rw[bU]at h ⊢;split
  ·rename_i e;rw[e];rfl
  ·rename_i e;rw[Ur e]at h;exact UM (x::·) (kD (s:=r) h)
set_option maxRecDepth 10000
attribute [local irreducible] WP WC WE WB WR WF WL WG fo WQ
section
variable {P:Program}(T:eF P) {h:af}
include T
def r37(X:yR P)(Z:nJ P)(w:Pw h)(s:By)(hsl:s.length<=2^37):ak P 37 [.str s] h (λv k=>∃(L':List EV) (s':AV),L'.map EV.ev=(cH s).1/\v=.dt [s',.i (cH s).2.1,.i (cH s).2.2]/\Fr h.length k s' 5 (L'.map EV.row)/\∀x∈L',xY h.length k s' x):=by
 refine .jP 55 T.mix T.c37 ?_;intro ts hlen t0;unfold fn37 gA;by_cases h6:1000000<s.length
 ·exact Nn
 have d1:decide ((1000000:Int)<s.length)=false:=Uh Om;have hrs:cH s=eJ (s.length+1) s [] 0:=Ur h6;refine Rs (A2 t0 @d1) ?_;refine WL.inv T.mix (λn ts h'=>∃(a f:Nat) (out:AV) (L':List EV) (g:af),a<=s.length/\n=s.length-a/\h' =h++g/\L'.length<=a/\cH s=eJ (f+1) (s.drop a) (L'.map EV.ev) a/\s.length-a<=f/\Fr h.length (h++g) out 5 (L'.map EV.row)/\(∀x∈L',xY h.length (h++g) out x)/\
   ts.length=55/\slot ts 0=.str s/\slot ts 5=out/\slot ts 6=.i a) s.length
  ⟨0,s.length,.ah,[],[],Om,rfl,Si,Uq _,hrs,Om,.nil,(λx hx=>by cases hx),Sn,(Sq t0),Sw,iR⟩ ?_
 rintro _ ts _ ⟨a,f,out,L',g,ha,rfl,rfl,hLa,Oq,hf,hfr,hin,hlen,t0,t5,t6⟩;by_cases hlt:a<s.length
 ·have e3:decide ((a:Int)<s.length)=true:=Uk Om;have hne:s.drop a≠[]:=λe=>by have:=UM List.length e;rw[VB]at this;simp at this;omega
  obtain⟨f',rfl⟩:∃f',f=f'+1:=⟨f-1,Om⟩;rw[eJ,Ur hne]at Oq;have hdl:(s.drop a).length=s.length-a:=VB;have hcl:=mz (c:=10) (s:=s.drop a)
  repeat (first|simp (config:={maxSteps:=1000000}) only[aL,aR,bd,bf,reduceAdd,reduceMul,reduceLeDiff,reduceEqDiff,bj,hlen,UC,UD,t0,t5,t6,e3,fF (show a<=s.length by omega)]|simp (config:={maxSteps:=1000000}) (disch:=first|(simp only[Ud,Ui,Ul]<;>omega)|rfl|omega|fail) only[dZ,aL,aR,bd,bf,reduceAdd,reduceMul,reduceLeDiff,reduceEqDiff,bj,hlen,UC,UD,t0,t5,t6,e3,fF (show a<=s.length by omega)])
  refine WF.ce T.c98 (r98 T X (s.drop a) 10 Om) λg1=>?_
  have hsp:=kD (c:=10) (s:=s.drop a);generalize (bU 10 (s.drop a)).1=ln at Oq hcl hsp ⊢;generalize (bU 10 (s.drop a)).2.1=rest at Oq hcl hsp ⊢;cases hwh:(bU 10 (s.drop a)).2.2 with
  |false=>
   rw[hwh]at Oq;refine Rs (A4 t0 t5 t6 @UF) ?_;rw[Oq];exact⟨L',_,rfl,rfl,hfr.app g1,λx hx=>(hin x hx).app g1⟩
  |true=>
  rw[hwh]at Oq;have hsp:=hsp hwh;have PZ:(s.drop a).length=ln.length+(rest.length+1):=by rw[hsp];simp
  have OO:rest=s.drop (a+ln.length+1):=by
   have:(s.drop a).drop (ln.length+1)=rest:=by rw[hsp,<-VH];simp
   rw[<-this,VH];congr 1
  have w1:IntKind.i64.wrap (((L'.map EV.row).length:Int)+1)=(L'.length:Int)+1:=by rw[Uv];exact aH Om Om
  have SE:IntKind.i64.wrap ((L'.length:Int)+1)=(L'.length:Int)+1:=aH Om Om;refine Rs (A7 t0 t5 t6 @UA hfr.aM.aS @w1 @SE) ?_;refine WF.res T.c99 (r99 T X Z (w.ext Xx) ln Om _) ?_;rintro _ g2 ⟨x,hx,rfl,fn,fv⟩;have hml:(L'.map EV.ev).length=L'.length:=Uv _;have Oq:cH s=if(cg ln ((L'.length:Int)+1)).2≠0 then(L'.map EV.ev,(a:Int),(cg ln ((L'.length:Int)+1)).2)else eJ (f'+1) rest (L'.map EV.ev++[(cg ln ((L'.length:Int)+1)).1]) (a+ln.length+1):=by rw[Oq,hml];rfl
  rw[<-hx]at Oq;generalize (cg ln ((L'.length:Int)+1)).2=er at Oq ⊢;have ox:aZ (h++g++g1++g2) x:=⟨fn.aM,fv.aM⟩;have st:∀{b':Nat}{a0 a1 a2 a3 a4:AV},jq 5 0 (.agg x.row) b' (.b [a0,a1,a2,a3,a4])=some (au,.set b' (.b x.row)):=λ{_ _ _ _ _ _}=>ox.st
  by_cases he:er=0
  case neg=>
   have d2:decide (er≠0)=true:=Uk he;rw[Ut he]at Oq;refine Rs (A5 t0 t5 t6 @st @d2) ?_;rw[Oq];exact⟨L',_,rfl,rfl,((hfr.app g1).app g2).app _,λx hx=>(((hin x hx).app g1).app g2).app _⟩
  have d2:decide (er≠0)=false:=Uh (λz=>z he);rw[Ur (λz=>z he)]at Oq;have ox2:aZ (h++g++g1++g2++[ai.b x.row]) x:=ox.ext ⟨_,rfl⟩;have bs:=@aZ.Df _ _ ox2;refine Rs (A7 t0 t5 t6 @st @d2 @bW @bs) ?_;refine WR.gj (h0:=h) (cs:=L'.map EV.row) (ys:=[x.row]) ((((hfr.app _).app _).app _).app _) (Fr.push (N:=0) (UK _) [x.row] (by intro y hy;rw[Uw]at hy;rw[hy];rfl)).aM De Si (by simp only[Uv,Ui,Ul];omega) Xx ?_;intro g' OJ hff hkp;have hrow:L'.map EV.row++[x.row]=(L'++[x]).map EV.row:=by rw[Up];rfl
  rw[hrow]at hff;rw[hrow];obtain⟨sn,OS⟩:∃sn,sn=AV.slice (h++g++g1++g2++[ai.b x.row]++[ai.cells x.row true true]).length 0 ((L'++[x]).map EV.row).length 5:=⟨_,rfl⟩;rw[<-OS]at hff ⊢;have PL:∀i,sB sn=some i->(h++g++g1++g2).length+2=i:=λi hi=>by rw[OS]at hi;cases hi;simp only[Ud,Us]<;>omega
  have hout:∀b,sB out=some b->b<(h++g).length:=λb hb=>(hfr.bL hb).2
  have kp:∀i,i<(h++g++g1++g2).length->sB out≠some i->(h++g')[i]? =(h++g++g1++g2)[i]? :=λi hi hne=>by
   rw[hkp i (by simp only[Ud,Us]at hi ⊢;omega) (λb0 o n e he zz=>hne (by rw[he,zz];rfl)),Uf (h++g++g1++g2),Ug hi]
  have w2:IntKind.i64.wrap ((ln.length:Int)+1)=((ln.length+1:Nat):Int):=wrapN Om;have w3:IntKind.i64.wrap ((a:Int)+((ln.length+1:Nat):Int))=((a+ln.length+1:Nat):Int):=by rw[aH Om Om];omega
  refine Rs (A5 t0 t5 t6 @w2 @w3) ?_;refine⟨s.length-(a+ln.length+1),Om,a+ln.length+1,f',sn,L'++[x],g',Om,rfl,rfl,by simp;omega,?_,Om,hff,λy hy=>?_,rfl,rfl⟩
  ·rw[Oq,OO,Up];rfl
  ·have lg:∀{i},i<(h++g).length->i<(h++g++g1++g2).length:=λ{i} hi=>by simp only[Ud]at hi ⊢;omega
   rcases Um.1 hy with hy|hy
   ·have oy:=hin y hy;have ln:=λj (hj:sB y.sn=some j)=>(oy.n.bL hj).2
    have lv:=λj (hj:sB y.sv=some j)=>(oy.v.bL hj).2
    refine⟨((oy.n.app g1).app g2).ay λj hj=>kp j (lg (ln j hj)) (oy.dn j hj),((oy.v.app g1).app g2).ay λj hj=>kp j (lg (lv j hj)) (oy.dv j hj),λj hj e=>?_,λj hj e=>?_⟩
    ·have h1:=lg (ln j hj);have h2:=PL j e;omega
    ·have h1:=lg (lv j hj);have h2:=PL j e;omega
   ·rw[Uw]at hy;subst hy;have ln:=λj (hj:sB y.sn=some j)=>fn.bL hj
    have lv:=λj (hj:sB y.sv=some j)=>fv.bL hj
    have en:(h++g++g1).length=(h++g).length+g1.length:=Ud;exact z12
 ·have e3:decide ((a:Int)<s.length)=false:=Uh Om;have e4:a=s.length:=Om
  have TN:s.drop a=[]:=Wa Om;rw[eJ,Ut TN]at Oq;refine Rs (A4 t0 t5 t6 e3) ?_;rw[Oq];exact⟨L',_,rfl,rfl,hfr,hin⟩
end
def qF:Nat->Nat
 | 0=>198
 | 1=>126
 | 2=>200
 | 3=>201
 | 4=>202
 | 5=>203
 |_=>204
def iA(q:Nat×Bool×Nat):AV:=.agg [.bool q.2.1,.i (q.2.2:Nat),.func (.func (qF q.1)) [] []]
def Ai:List (AV×AV):=[(.str [108,101,102,116],iA (0,true,4)),(.str [102,114,111,109],iA (1,true,5)),(.str [108,105,110,101,115],iA (2,true,3)),(.str [117,110,115,97,102,101],iA (3,false,2)),(.str [116,97,112,101,115],iA (4,true,2)),(.str [114,101,108,101,97,115,101,100],iA (5,false,5)),(.str [119,97,110,116],iA (6,true,0))]
def Gp(k:By):iw .s (.str k) Ai=some ((jL k).map iA):=by
 unfold jL Ai;by_cases h0:k=[108,101,102,116]
 ·subst h0;rfl
 have b0:(k==[108,101,102,116])=false:=by simp[h0]
 by_cases h1:k=[102,114,111,109]
 ·subst h1;rfl
 have b1:(k==[102,114,111,109])=false:=by simp[h1]
 by_cases h2:k=[108,105,110,101,115]
 ·subst h2;rfl
 have b2:(k==[108,105,110,101,115])=false:=by simp[h2]
 by_cases h3:k=[117,110,115,97,102,101]
 ·subst h3;rfl
 have b3:(k==[117,110,115,97,102,101])=false:=by simp[h3]
 by_cases h4:k=[116,97,112,101,115]
 ·subst h4;rfl
 have b4:(k==[116,97,112,101,115])=false:=by simp[h4]
 by_cases h5:k=[114,101,108,101,97,115,101,100]
 ·subst h5;rfl
 have b5:(k==[114,101,108,101,97,115,101,100])=false:=by simp[h5]
 by_cases h6:k=[119,97,110,116]
 ·subst h6;rfl
 have b6:(k==[119,97,110,116])=false:=by simp[h6]
 simp only[iw,cR,b0,b1,b2,b3,b4,b5,b6,Ur h0,Ur h1,Ur h2,Ur h3,Ur h4,Ur h5,Ur h6];rfl
def Aw{h:af}{r:Nat}(hb:h[r]? =some (.aN Ai)){z:AV}{ok:Bool}{k:By}:gk .s z ok (.map r) (.str k) (λb=>h[b]?)=jY z ok ((jL k).map iA):=pF hb (Gp k)
theorem pH:∀{l}{i:Nat},∀y∈dC l i,(i:Int)<=y/\y<(i:Int)+l.length
 |[],i,y,h=>by simp[dC]at h
 |x::r,i,y,h=>by
  rw[dC]at h;have key:y∈dC r (i+1)->(i:Int)<=y/\y<(i:Int)+(x::r).length:=λh=>by
   have:=pH y h;rw[Ui];omega
  split at h
  ·rcases UR.1 h with rfl|h
   ·rw[Ui];omega
   ·exact key h
  ·exact key h
section
variable {P:Program}(T:eF P) {h:af}
include T
theorem pI{h ks ts Q g es a l z ps k v es'}(ha:a+1<=ts.length)(h1:(a=1)=False)(t1:slot ts 1=.map h.length)
  (hv:pU (dW z (ps.map λp=>(p.1,p.2.1,val ts p.2.2)))=some v) (hu:mZ .s (.str k) v es=some es')
  (K:∀ts',ts'.length=ts.length->slot ts' 1=slot ts 1->WP P cB l ks ts' (h++[.aN es']++g) Q):
  WP P cB (.o a (.build z ps):: .x (.fu .s (.t 1) (.c (.str k)) (.t a))::l) ks ts (h++[.aN es]++g) Q:=by
 have e1:rT .s (.map h.length) (.str k) v (λb=>(h++[ai.aN es]++g)[b]?)=some (au,.set h.length (.aN es')):=rS sf hu;unfold bo.o bo.x;rw[p5,hv,sC,sH];have e2:val (put ts (some a) v) (.t 1)=.map h.length:=by
  simp only[nT,sR,bj,h1,t1]
 have e3:val (put ts (some a) v) (.t a)=v:=by simp only[nT,sR,bj,ha]
 rw[hO,e2,e3,wv,e1,p4,Aj,nT];have e4:(h++[ai.aN es]++g).set h.length (.aN es')=h++[.aN es']++g:=wG;rw[e4];exact K _ (by simp only[bj]) (by simp only[bj,h1])
def r109:ak P 109 [] h (λv h'=>v=.map h.length/\h' =h++[.aN Ai]):=by
 refine .of T.mix T.c109 ?_;obtain⟨ts,Ol⟩:∃ts,ts=aQ 10 []:=⟨_,rfl⟩;have hlen:ts.length=10:=by rw[Ol];rfl
 unfold fn109;show WC P cB _ [] (aQ 10 []) h _;rw[<-Ol];clear Ol;have m0:slot ((ts.set 0 AV.cQ).set 1 (.map h.length)) 1=.map h.length:=by simp only[bj,hlen,reduceAdd,reduceLeDiff]
 have l0:((ts.set 0 AV.cQ).set 1 (.map h.length)).length=10:=by simp only[bj,hlen]
 dsimp only[an.j,an.s,an.r];rw[p6,p7,Jl T,sJ,p6,p7,Jm T];rw[<-UE (h++[ai.aN []])];generalize (ts.set 0 AV.cQ).set 1 (.map h.length)=ts0 at *;clear hlen;refine pI T (v:=iA (0,true,4)) (es':=[(.str [108,101,102,116],iA (0,true,4))]) (by rw[l0];decide) (VO De) m0 rfl rfl ?_;intro PJ lx mx;have l1:=lx.trans l0;have m1:=mx.trans m0;clear lx mx l0 m0;refine pI T (v:=iA (1,true,5)) (es':=[(.str [108,101,102,116],iA (0,true,4)),(.str [102,114,111,109],iA (1,true,5))]) (by rw[l1];decide) (VO De) m1 rfl rfl ?_;intro Q4 lx mx;have l2:=lx.trans l1;have m2:=mx.trans m1;clear lx mx l1 m1;refine pI T (v:=iA (2,true,3)) (es':=[(.str [108,101,102,116],iA (0,true,4)),(.str [102,114,111,109],iA (1,true,5)),(.str [108,105,110,101,115],iA (2,true,3))]) (by rw[l2];decide) (VO De) m2 rfl rfl ?_
 intro ts3 lx mx;have l3:=lx.trans l2;have m3:=mx.trans m2;clear lx mx l2 m2;refine pI T (v:=iA (3,false,2)) (es':=[(.str [108,101,102,116],iA (0,true,4)),(.str [102,114,111,109],iA (1,true,5)),(.str [108,105,110,101,115],iA (2,true,3)),(.str [117,110,115,97,102,101],iA (3,false,2))]) (by rw[l3];decide) (VO De) m3 rfl rfl ?_;intro ts4 lx mx;have l4:=lx.trans l3;have m4:=mx.trans m3;clear lx mx l3 m3;refine pI T (v:=iA (4,true,2)) (es':=[(.str [108,101,102,116],iA (0,true,4)),(.str [102,114,111,109],iA (1,true,5)),(.str [108,105,110,101,115],iA (2,true,3)),(.str [117,110,115,97,102,101],iA (3,false,2)),(.str [116,97,112,101,115],iA (4,true,2))]) (by rw[l4];decide) (VO De) m4 rfl rfl ?_
 intro ts5 lx mx;have l5:=lx.trans l4;have m5:=mx.trans m4;clear lx mx l4 m4;refine pI T (v:=iA (5,false,5)) (es':=[(.str [108,101,102,116],iA (0,true,4)),(.str [102,114,111,109],iA (1,true,5)),(.str [108,105,110,101,115],iA (2,true,3)),(.str [117,110,115,97,102,101],iA (3,false,2)),(.str [116,97,112,101,115],iA (4,true,2)),(.str [114,101,108,101,97,115,101,100],iA (5,false,5))]) (by rw[l5];decide) (VO De) m5 rfl rfl ?_;intro ts6 lx mx;have l6:=lx.trans l5;have m6:=mx.trans m5;clear lx mx l5 m5;refine pI T (v:=iA (6,true,0)) (es':=[(.str [108,101,102,116],iA (0,true,4)),(.str [102,114,111,109],iA (1,true,5)),(.str [108,105,110,101,115],iA (2,true,3)),(.str [117,110,115,97,102,101],iA (3,false,2)),(.str [116,97,112,101,115],iA (4,true,2)),(.str [114,101,108,101,97,115,101,100],iA (5,false,5)),(.str [119,97,110,116],iA (6,true,0))]) (by rw[l6];decide) (VO De) m6 rfl rfl ?_
 intro ts7 lx mx;have l7:=lx.trans l6;have m7:=mx.trans m6;clear lx mx l6 m6;have hlen:=l7;rw[UE];refine Rs @m7 ?_;rfl
section
variable {V:RV}(o:aG h V) (w:ka V.aD)
include o w
def r198(Z:nJ P)(pw:Pw h){n}(hn:n∈iT V.aD):ak P 198 [.agg V.row,.str n] h (λv k=>aB k v 1 ((jD V.aD n 0).map al)):=by
 refine .eQ 10 T.mix T.c198 ?_;intro ts hlen t0 t1;unfold fn198 gA;have Oj:=@aG.box _ _ o;have l:=w.len;refine Rs (A4 t0 t1 @Oj @bM) ?_;refine WF.res T.c124 (r124 T (o.ext Xx) l hn) ?_;rintro _ g1 ⟨x,hx,QT,rfl⟩;have hj:=w.jb x.1 (UP hx);refine Rs (A2 t0 t1) ?_;refine WF.res T.c125 (r125 T ((o.e4 x hx).ext Xx) Om (λs hs=>(hj.2.2.2 s hs).1)) ?_;intro v g2 hv;have PZ:=ku (l:=x.1.b9) (i:=0);refine Rs (A2 t0 t1) ?_;refine WF.res T.c199 (r199 T hv Om dS (λy hy k ek=>by
  have:=pH y hy;exact wq T Z Om Om (pw.ext (Ext.trans Xx ek)))) ?_
 intro v3 g3 hv3;have hr:=hv3.aM;refine Rs t0 ?_;rw[QT]at hr;exact hr
def r200(n:By):ak P 200 [.agg V.row,.str n] h (λv k=>aB k v 1 ((jD V.aD n 2).map al)):=by
 refine .eQ 9 T.mix T.c200 ?_;intro ts hlen t0 t1;unfold fn200 gA;have Oj:=@aG.box _ _ o;have l:=w.len;have hin:∀x∈V.aJ,x.1.bF.length<2^30:=λx hx=>by have:=(w.md x.1 (UP hx)).2.1;omega
 refine Rs (A4 t0 t1 @Oj @bM) ?_;refine WF.res T.c122 (r122 T (o.ext Xx) l hin _) ?_;rintro v3 g3 h3;have hsl:(jT V.aD n).length<2^30:=by
  have h1:(jT V.aD n).length<=V.aD.lines.length:=by unfold jT;exact U7 _ _
  have:=w.l0;omega
 refine Rs (A2 t0 t1) ?_;refine WF.res T.c121 (r121 T h3 Om (λx=>x.name) (λx _ k _=>aV.of (a:=[]) (c:=[]) T.c123 (r123 T x))) ?_;intro v4 g4 h4;have hr:=h4.aM;refine Rs t0 ?_;exact hr
def r201(n:By):ak P 201 [.agg V.row,.str n] h (λv k=>aB k v 1 ((jD V.aD n 3).map al)):=by
 refine .eQ 9 T.mix T.c201 ?_;intro ts hlen t0 t1;unfold fn201 gA;have Oj:=@aG.box _ _ o;have l:=w.len;refine Rs (A5 t0 t1 @Oj @bM @wH) ?_;refine WF.res T.c80 (r80 T (o.ext Xx) l w.AN _) ?_;intro v4 g4 h4;refine Rs t0 ?_;exact h4
def r202{n}(hn:n∈o8 V.aD):ak P 202 [.agg V.row,.str n] h (λv k=>aB k v 1 ((jD V.aD n 4).map al)):=by
 refine .eQ 9 T.mix T.c202 ?_;intro ts hlen t0 t1;unfold fn202 gA;have Oj:=@aG.box _ _ o;have l:=w.len;refine Rs (A4 t0 t1 @Oj @bM) ?_;refine WF.res T.c77 (r77 T (o.ext Xx) l hn) ?_;rintro _ g1 ⟨x,hx,QT,rfl⟩;have hr:=(o.e2 x hx);unfold bg;refine Rs (A2 t0 t1) ?_;rw[QT]at hr;exact hr.ext Xx
end
end
def yf{l x}:qc (l++[x])=qc l++(if x.rel then [x.name,dS x.lA]else []):=by
 unfold qc;simp only[Up,VG,Vl,Ww,Vj,List.flatten_nil,UE]
theorem pn:∀{l},(qc l).length<=2*l.length
 |[]=>by simp[qc]
 |x::r=>by
  have:=pn (l:=r);unfold qc at this ⊢;rw[Vl,Vj,Ud,Ui];split
  ·simp only[Ui,Ul];omega
  ·simp only[Ul];omega
section
variable {P:Program}(T:eF P) {h:af}
include T
section
variable {V:RV}(o:aG h V) (w:ka V.aD)
include o w
def r203(Z:nJ P)(pw:Pw h)(n:By):ak P 203 [.agg V.row,.str n] h (λv k=>aB k v 1 ((jD V.aD n 5).map al)):=by
 refine .eQ 27 T.mix T.c203 ?_;intro ts hlen t0 t1;unfold fn203 gA;have Oj:=@aG.box _ _ o;have l5:V.aU.length<=16:=w.l5;refine Rs (A5 t0 t1 @Oj @lS o.i5.aS) ?_;refine WL.inv T.mix (λn ts h'=>∃(k:Nat) (out:AV) (g:af),k<=V.aU.length/\n=V.aU.length-k/\h' =h++g/\Fr h.length (h++g) out 1 ((qc (V.aU.take k)).map al)/\
   ts.length=27/\slot ts 5=out/\slot ts 9=V.s5/\slot ts 10=.i V.aU.length/\slot ts 11=.i k) V.aU.length
  ⟨0,.ah,_,Om,rfl,rfl,.nil,Sn,(Sq t1),Sw,(Sq t0),iR⟩ ?_
 rintro _ ts _ ⟨k,out,g,hk,rfl,rfl,hfr,hlen,t5,t9,t10,t11⟩;by_cases hlt:k<V.aU.length
 ·have e3:=gh hlt;have e5:=wrapN (n:=k) Om;have ix:=o.i5.fx (kk:=.i64) hlt;have ld:∀{k'},Ext (h++g) k'->aq (some 4) (eO V.s5 4 k) (λb=>k'[b]?)=some (.agg (dN V.aU[k]),.ar):=λ{k'} e=>o.i5.mY hlt (Ext.trans Xx e)
  obtain⟨x,hx⟩:∃x,x=V.aU[k]:=⟨_,rfl⟩;have Ra:x∈V.aU:=by rw[hx];exact UB _
  have hpc:=w.pc x Ra;have OK:V.aU.take (k+1)=V.aU.take k++[x]:=by rw[hx,U9,Uj hlt];rfl
  have Po:=pn (l:=V.aU.take k);have htl:(V.aU.take k).length<=16:=by rw[U6];omega
  have OS:=yf (l:=V.aU.take k) (x:=x);rw[<-hx]at ld;unfold dN at ld;cases hrel:x.rel with
  |false=>
   rw[hrel]at ld OS;rw[Ur Si,UE,<-OK]at OS;rw[<-OS]at hfr;refine Rs (A8 t5 t9 t10 t11 e3 e5 ix @ld) ?_;exact⟨V.aU.length-(k+1),Om,k+1,out,_,Om,rfl,Uf _ _ _,by rw[<-Uf];exact hfr.app _,rfl,rfl⟩
  |true=>
   rw[hrel]at ld OS;rw[Ut rfl,<-OK]at OS;refine Rs (A7 t5 t9 t10 t11 e3 ix @ld) ?_;refine WF.ce T.c113 (Z.itoa Om Om (pw.ext Xx)) λg1=>?_
   rw[fQ hpc.2.1];refine Rs (A4 t5 t9 t10 t11) ?_;refine WR.GY (h0:=h) (cs:=(qc (V.aU.take k)).map al) (ys:=([x.name,dS x.lA] :List (By)).map al) (((hfr.app _).app _).app _) (Fr.push (N:=0) (UK _) (([x.name,dS x.lA] :List (By)).map al) (by simp[al])).aM De (by simp;omega) Xx ?_;intro s' g' hff hkp hle;rw[<-Up,<-OS]at hff;refine Rs (A5 t5 t9 t10 t11 e5) ?_;exact⟨V.aU.length-(k+1),Om,k+1,s',g',Om,rfl,rfl,hff,rfl,rfl⟩
 ·have e3:=gG hlt;have e4:k=V.aU.length:=Om
  refine Rs (A5 t5 t9 t10 t11 e3) ?_;rw[e4,UU]at hfr;exact hfr.aM
def r204(Z:nJ P)(pw:Pw h){n}(hn:n∈jQ V.aD):ak P 204 [.agg V.row,.str n] h (λv k=>aB k v 1 ((jD V.aD n 6).map al)):=by
 refine .eQ 22 T.mix T.c204 ?_;intro ts hlen t0 t1;unfold fn204 gA;have Oj:=@aG.box _ _ o;have l:=w.len;have Rp:=w.ln _ (gq (f:=jO.name) (l:=V.aD.lines) (n:=n) (d:=Ci) hn);have PZ:(V.ao.filter λx=>decide (x.1.line=n)).length<=V.ao.length:=U7 _ _;have hl2:=l.l2;have hof:(Cg V.aD n).length=(V.ao.filter λx=>decide (x.1.line=n)).length:=by
  unfold Cg;simp only[RV.aD,WA,Uv];rfl
 refine Rs (A4 t0 t1 @Oj @bM) ?_;refine WF.ce T.c205 (r205 T (o.ext Xx) l hn) λg1=>?_
 have Q1:jD V.aD n 6=[dS (Cg V.aD n).length,dS (fP V.aD n).want,if(fP V.aD n).acc then [97,99,99,101,112,116,101,100]else [111,112,101,110]]:=rfl;have Rp:1<=(fP V.aD n).want/\(fP V.aD n).want<=64:=Rp;generalize fP V.aD n=y at Q1 Rp ⊢;unfold cp;rw[hof]at Q1;cases Sz:y.acc with
 |true=>
  rw[Sz]at Q1;refine Rs (A4 t0 t1 @bM @Sz) ?_;refine WF.res T.c206 (r206 T (o.ext Xx) l n) ?_;intro v2 g2 h2;refine Rs (A3 t0 t1 h2.aS) ?_;refine WF.ce T.c113 (Z.itoa Om Om (pw.ext Xx)) λg3=>?_
  rw[fQ Om];refine Rs (A2 t0 t1) ?_;refine WF.ce T.c113 (Z.itoa Om Om (pw.ext Xx)) λg4=>?_
  rw[fQ Om];refine Rs (A2 t0 t1) ?_;rw[Q1];exact(Fr.push (es:=1) (N:=0) (UK _) (([dS ((V.ao.filter λx=>decide (x.1.line=n)).length:Nat),dS y.want,[97,99,99,101,112,116,101,100]] :List (By)).map al) (by simp[al])).aM
 |false=>
  rw[Sz]at Q1;refine Rs (A4 t0 t1 @bM @Sz) ?_;refine WF.res T.c206 (r206 T (o.ext Xx) l n) ?_;intro v2 g2 h2;refine Rs (A3 t0 t1 h2.aS) ?_;refine WF.ce T.c113 (Z.itoa Om Om (pw.ext Xx)) λg3=>?_
  rw[fQ Om];refine Rs (A2 t0 t1) ?_;refine WF.ce T.c113 (Z.itoa Om Om (pw.ext Xx)) λg4=>?_
  rw[fQ Om];refine Rs (A2 t0 t1) ?_;rw[Q1];exact(Fr.push (es:=1) (N:=0) (UK _) (([dS ((V.ao.filter λx=>decide (x.1.line=n)).length:Nat),dS y.want,[111,112,101,110]] :List (By)).map al) (by simp[al])).aM
end
end
def tG{n}(h:dG n=true):n.length<=24:=by
 cases n with
 |nil=>cases h
 |cons c r=>
  unfold dG at h;simp only[UH,UT]at h;rw[Ui];omega
def rR{l}(h:nM l){n}(hn:n∈l):n.length<=24:=tG (h.nm n hn)
theorem nv{c}:∀{l},(∀x∈l,x.length<=64)->(ga c l).length<=65*l.length
 |[],_=>UK _
 |x::r,h=>by
  have ih:=nv (c:=c) (l:=r) λy hy=>h y (UL _ hy)
  have hx:=h x Si;by_cases hr:r=[]
  ·subst hr;simp only[ga,Ui,Ul];omega
  ·rw[iu hr,Ud,Ui,Ui];omega
theorem qL:∀{l m:List (By)},l.Nodup->(∀x∈l,x∈m)->l.length<=m.length
 |[],_,_,_=>UK _
 |x::r,m,hd,hs=>by
  rw[Xa]at hd;have hm:=hs x Si;have:=qL (l:=r) (m:=m.erase x) hd.2 λy hy=>(List.mem_erase_of_ne (λe=>hd.1 (by rw[<-e];exact hy))).2 (hs y (UL _ hy))
  rw[List.length_erase_of_mem hm]at this;have:=List.length_pos_of_mem hm;rw[Ui];omega
def G0{R:gB}(w:ka R){n k:By}{q:Nat×Bool×Nat}(hq:jL k=some q)(hn:q.2.1=true->fk R q.2.2 n=true):(∀x∈jD R n q.1,x.length<=64)/\(jD R n q.1).length<=64:=by
 have dl:∀{y:Int},0<=y->y<99999999->(dS y).length<=64:=λ{y} h0 h1=>by have:=jB (k:=7) (u:=y.toNat) Om;rw[gJ];omega
 unfold jL at hq
 repeat' split at hq
 all_goals cases hq
 ·have hm:n∈iT R:=VK (hn rfl);have hj:=w.jb _ (gq (f:=mV.name) (l:=R.aI) (n:=n) (d:=Aq) hm);have PZ:=ku (l:=(iD R n).b9) (i:=0);have hj:(iD R n).b9.length<=32:=hj.2.2.1;refine⟨λx hx=>?_,?_⟩
  ·obtain⟨y,hy,rfl⟩:=UI.1 hx;have:=pH y hy;exact BL
  ·show((dC _ _).map dS).length<=64;rw[Uv];omega
 ·refine⟨λx hx=>?_,?_⟩
  ·exact z87
  ·show(qH R n).length<=64;unfold qH;exact z148
 ·refine⟨λx hx=>?_,?_⟩
  ·obtain⟨y,hy,rfl⟩:=UI.1 hx;have:=rR w.n0 (UP (f:=jO.name) (VQ.1 hy).1);omega
  ·show((jT R n).map jO.name).length<=64;unfold jT;rw[Uv];have:=U7 (λl:jO=>decide (l.name∈(tF R n).map jH.line)) R.lines;have:=w.l0;omega
 ·refine⟨λx hx=>?_,?_⟩
  ·exact z87
  ·show(jo R R.tick).length<=64;unfold jo;exact z148
 ·have hm:n∈o8 R:=VK (hn rfl);have hs:=w.sh _ (gq (f:=kM.name) (l:=R.ao) (n:=n) (d:=FP) hm);refine⟨λx hx=>?_,?_⟩
  ·have:=rR w.n1 (hs.2.2.2 x hx);omega
  ·have:=qL hs.2.2.1 hs.2.2.2;have h1:(kZ R).length<=16:=by unfold kZ;rw[Uv];exact w.l1
   exact Vk this Om
 ·refine⟨λx hx=>?_,?_⟩
  ·obtain⟨l,hl,hx⟩:=List.mem_flatten.1 hx;obtain⟨p,hp,rfl⟩:=UI.1 hl;have hpc:=w.pc p hp;split at hx
   ·simp only[UR,Vh,V3]at hx;rcases hx with rfl|rfl
    ·have:=rR w.n5 (UP (f:=rv.name) hp);omega
    ·exact dl hpc.2.1 Om
   ·cases hx
  ·have:=pn (l:=R.aU);have:=w.l5;show(qc R.aU).length<=64;omega
 ·have hm:n∈jQ R:=VK (hn rfl);have hw:=w.ln _ (gq (f:=jO.name) (l:=R.lines) (n:=n) (d:=Ci) hm);have hw:1<=(fP R n).want/\(fP R n).want<=64:=hw;have ho:(Cg R n).length<=64:=Vk (U7 _ _) w.l2;refine⟨λx hx=>?_,by show(3:Nat)<=64;omega⟩;have hx:x∈[dS (Cg R n).length,dS (fP R n).want,if(fP R n).acc then [97,99,99,101,112,116,101,100]else [111,112,101,110]]:=hx;simp only[UR,Vh,V3]at hx;rcases hx with rfl|rfl|rfl
  ·exact BL
  ·exact BL
  ·split<;>decide
section
variable {P:Program}(T:eF P) {h:af}
include T
def NN{V}(o:aG h V)(w:ka V.aD)(Z:nJ P)(pw:Pw h){n k q}(hq:jL k=some q)(hn:q.2.1=true->fk V.aD q.2.2 n=true):
  aV P (.func (.func (qF q.1)) [] []) [.agg V.row,.str n] h (λv k'=>aB k' v 1 ((jD V.aD n q.1).map al)):=by
 unfold jL at hq
 repeat' split at hq
 all_goals cases hq
 ·exact aV.of (a:=[]) (c:=[]) T.c198 (r198 T o w Z pw (VK (hn rfl)))
 ·exact aV.of (a:=[]) (c:=[]) T.c126 (r126 T o w (VK (hn rfl)))
 ·exact aV.of (a:=[]) (c:=[]) T.c200 (r200 T o w n)
 ·exact aV.of (a:=[]) (c:=[]) T.c201 (r201 T o w n)
 ·exact aV.of (a:=[]) (c:=[]) T.c202 (r202 T o w (VK (hn rfl)))
 ·exact aV.of (a:=[]) (c:=[]) T.c203 (r203 T o w Z pw n)
 ·exact aV.of (a:=[]) (c:=[]) T.c204 (r204 T o w Z pw (VK (hn rfl)))
end
def Bx(k:Nat):an:=(fn110).body.dr k
def DG(k:Nat):an:=(Bx k).hd
def MF:fn110=⟨69,2,[(4,none),(5,none)],.seq (DG 0) (.seq (DG 1) (.seq (DG 2) (.seq (DG 3) (.seq (DG 4) (Bx 5)))))⟩:=rfl
def ME:Bx 5=.seq (DG 5) (.seq (DG 6) (Bx 7)):=rfl
def Lb{k q}(hq:jL k=some q):q.2.2<6:=by
 unfold jL at hq
 repeat' split at hq
 all_goals cases hq
 all_goals decide
section
variable {P:Program}(T:eF P) {h W:af}{ts:TS}
include T
def EZ{VN n k i wt b6 b8 nm}(oV:aG W VN)(wV:ka VN.aD)(Z:nJ P)(pw:Pw W)(hq:jL k=some (i,nm,wt))(hn:nm=true->fk VN.aD wt n=true)
  (m6:W[b6]? =some (.b [.bool nm,.i (wt:Nat),.func (.func (qF i)) [] []])) (m8:W[b8]? =some (.b VN.row)) (hlen:ts.length=69) (t6:slot ts 6=.ptr b6 0) (t7:slot ts 7=.str n) (t8:slot ts 8=.ptr b8 0) (he:Ext h W):
  WC P cB (Bx 7) [] ts W (FQ [(4,none),(5,none)] λv k=>Ext h k/\v=.dt [.str (wb (jD VN.aD n i)),.i 0]):=by
 have l6:∀{k:af}{n':Option Nat}{a:Nat},Ext W k->aq n' (.ptr b6 a) (λz=>k[z]?)=dI n' a (.b [.bool nm,.i (wt:Nat),.func (.func (qF i)) [] []]):=λe=>az (e.some m6)
 have l8:∀{k:af}{n':Option Nat}{a:Nat},Ext W k->aq n' (.ptr b8 a) (λz=>k[z]?)=dI n' a (.b VN.row):=λe=>az (e.some m8)
 have hbd:=G0 wV hq hn;have hv0:=NN T oV wV Z pw hq hn;unfold Bx fn110 gA;simp only[an.j,an.s,an.r,an.dr,an.tl,an.hd];refine Rs (A6 t6 t7 t8 @l6 @l8 @bM) ?_;refine WF.val hv0 ?_;intro v g hv;have hbd:(∀x∈jD VN.aD n i,x.length<=64)/\(jD VN.aD n i).length<=64:=hbd;have hv:aB (W++g) v 1 ((jD VN.aD n i).map al):=hv;generalize jD VN.aD n i=L at hbd hv ⊢;by_cases hL:L=[]
 ·have d0:decide ((L.length:Int)=0)=true:=Uk (by rw[hL];rfl);refine Rs (A5 t6 t7 t8 hv.aS @d0) ?_;exact⟨he.trans Xx,by rw[wb,Ut hL]⟩
 ·have Tb:0<L.length:=VU.2 hL;have d0:decide ((L.length:Int)=0)=false:=Uh Om;have hj:=nv (c:=32) hbd.1;refine Rs (A5 t6 t7 t8 hv.aS @d0) ?_;refine WF.ce T.c114 (Z.join hv ⟨by rw[pJ];omega,Om⟩) λg2=>?_
  refine Rs t6 ?_;exact⟨he.trans Xx,by rw[wb,Ur hL,pJ]⟩
def EY{V b n k i wt b6 nm}(o:xX h b V)(w:kW V.bE)(hl:V.cI.length<=1000)(Z:nJ P)(pw:Pw h)(hq:jL k=some (i,nm,wt))(he:Ext h W)
  (m6:W[b6]? =some (.b [.bool nm,.i (wt:Nat),.func (.func (qF i)) [] []])) (hlen:ts.length=69) (t0:slot ts 0=.ptr b 0) (t6:slot ts 6=.ptr b6 0) (t7:slot ts 7=.str n) {R}
  (hR:R=if nm=true/\fk V.bE.now wt n=false then([],10)else(wb (jD V.bE.now n i),0)):
  WC P cB (Bx 5) [] ts W (FQ [(4,none),(5,none)] λv k=>Ext h k/\v=.dt [.str R.1,.i R.2]):=by
 have l6:∀{k:af}{n':Option Nat}{a:Nat},Ext W k->aq n' (.ptr b6 a) (λz=>k[z]?)=dI n' a (.b [.bool nm,.i (wt:Nat),.func (.func (qF i)) [] []]):=λe=>az (e.some m6)
 have hwt:wt<6:=Lb hq;obtain⟨RR,Pa⟩:∃RR,RR=Bx 7:=⟨_,rfl⟩;have o2:=o.ext he;have oV:=o2.now;have wV:ka V.now.aD:=by rw[V.iI];exact w.now
 rw[<-V.iI]at hR;have st:=λ{b':Nat}{a0 a1 a2 a3 a4 a5 a6:AV}=>@aG.st _ _ oV b' a0 a1 a2 a3 a4 a5 a6 false
 rw[ME,<-Pa];unfold DG Bx fn110 gA;simp only[an.j,an.s,an.r,an.dr,an.tl,an.hd];refine Rs (A3 t0 t6 t7) ?_;refine WF.ce T.c79 (r79 T o2 hl) λg1=>?_
 cases nm with
 |false=>
  rw[Ur Si]at hR;refine Rs (A6 t0 t6 t7 @st @l6 @bM) ?_;rw[hR,Pa];exact EZ T (VN:=V.now) (b6:=b6) (b8:=(W++g1).length) (oV.ext Xx) wV Z (pw.ext (he.trans Xx)) hq (λe=>by cases e) (Ext.some Xx m6) (by rw[Un (Uq _),Vb];rfl) (Sq t0) (Sq t6) (Sq t7) (Sq t0) (he.trans Xx)
 |true=>
  refine Rs (A6 t0 t6 t7 @st @l6 @bM) ?_;refine WF.ce T.c86 (r86 T (oV.ext Xx) wV.len hwt n) λg2=>?_
  cases hhs:fk V.now.aD wt n with
  |false=>
   rw[Ut ⟨rfl,hhs⟩]at hR;refine Rs (A5 t0 t6 t7 @hhs @UF) ?_;exact⟨he.trans Xx,by rw[hR]⟩
  |true=>
   rw[Ur (by rw[hhs];simp)]at hR;refine Rs (A5 t0 t6 t7 @hhs @UA) ?_;rw[hR,Pa];exact EZ T (VN:=V.now) (b6:=b6) (b8:=(W++g1).length) (oV.ext Xx) wV Z (pw.ext (he.trans Xx)) hq (λ_=>hhs) (Ext.some Xx m6) (Ext.some (h:=W++g1++[ai.b V.now.row]) Xx (by rw[Un (Uq _),Vb];rfl)) (Sq t0) (Sq t6) (Sq t7) (Sq t0) (he.trans Xx)
end
def yK:((false:Bool)==false)=true:=rfl
def yH:((true:Bool)==true)=true:=rfl
def yI:((true:Bool)==false)=false:=rfl
def yJ:((false:Bool)==true)=false:=rfl
section
variable {P:Program}(T:eF P) {h:af}
include T
def r110{V b}(o:xX h b V)(w:kW V.bE)(hl:V.cI.length<=1000)(Z:nJ P)(pw:Pw h){s ws}(hs:aB h s 1 (ws.map al))(hne:0<ws.length)(hwl:ws.length<2^62){q}(hq:jL (ws.headD [])=some q):
  ak P 110 [.ptr b 0,s] h (λv _=>v=.dt [.str (lD V.bE.now ws q).1,.i (lD V.bE.now ws q).2]):=by
 refine .of T.mix (Eq.trans T.c110 (UM some MF)) ?_;obtain⟨ts,Ol⟩:∃ts,ts=aQ 69 [.ptr b 0,s]:=⟨_,rfl⟩;have hlen:ts.length=69:=by rw[Ol];rfl
 have t0:slot ts 0=.ptr b 0:=by rw[Ol];rfl
 have t1:slot ts 1=s:=by rw[Ol];rfl
 obtain⟨RR,Pa⟩:∃RR,RR=Bx 5:=⟨_,rfl⟩;obtain⟨i,nm,wt⟩:=q;show WC P cB _ [] (aQ 69 [.ptr b 0,s]) h (FQ _ (λv k=>Ext h k/\v=.dt [.str (lD V.bE.now ws (i,nm,wt)).1,.i (lD V.bE.now ws (i,nm,wt)).2]));rw[<-Ol,<-Pa];clear Ol;have TA:ws[0]=ws.headD []:=by cases ws with|nil=>simp at hne|cons a r=>rfl
 have oB:=hs.oB (kk:=.i64) hne;have ld0:∀{k:af},Ext h k->aq none (eO s 1 0) (λb=>k[b]?)=some (.str (ws.headD []),.ar):=λ{k} e=>by rw[<-TA];exact hs.kK (i:=0) hne rfl e
 unfold DG Bx fn110 gA;simp only[an.j,an.s,an.r,an.dr,an.tl,an.hd];refine Rs (A2 t0 t1) ?_;refine WF.res T.c109 (r109 T) ?_;rintro _ g1 ⟨rfl,hg⟩;have hg:g1=[.aN Ai]:=V4 hg;subst hg;have lk:∀{z:AV},gk .s z false (.map h.length) (.str (ws.headD [])) (λb=>(h++[ai.aN Ai])[b]?)=jY z false ((jL (ws.headD [])).map iA):=Aw (by rw[Un (Uq _),Vb];rfl);rw[hq]at lk;have OU:∀{z:AV},_=some (AV.agg [.bool nm,.i (wt:Nat),.func (.func (qF i)) [] []],gL.ar):=@lk;have m6:∀{k:af},Ext (h++[ai.aN Ai]++[ai.b [.bool nm,.i (wt:Nat),.func (.func (qF i)) [] []]]) k->k[(h++[ai.aN Ai]).length]? =some (ai.b [.bool nm,.i (wt:Nat),.func (.func (qF i)) [] []]):=λe=>e.some (by rw[Un (Uq _),Vb];rfl)
 have hsyn:∀{x:By×Int},x=([],25)->lD V.bE.now ws (i,nm,wt)=([],25)->∀{k:af},Ext h k->(Ext h k/\AV.dt [.str [],.i 25]=.dt [.str (lD V.bE.now ws (i,nm,wt)).1,.i (lD V.bE.now ws (i,nm,wt)).2]):=λ_ he k e=>⟨e,by rw[he]⟩
 cases nm with
 |false=>
  have Pv:lD V.bE.now ws (i,false,wt)=if ws.length≠1 then([],25)else(wb (jD V.bE.now [] i),0):=by
   unfold lD;simp
  by_cases e1:ws.length=1
  ·have d1:decide ((ws.length:Int)≠1)=false:=Uh (λz=>z Om);have d2:decide ((ws.length:Int)=2)=false:=Uh Om;refine Rs (Kw t0 t1 @oB @ld0 @bA @OU @gE @yK @yH @yI @yJ hs.aS @d1 @d2 @UF @UA) ?_;rw[Pa];exact EY T (n:=[]) o w hl Z pw hq Xx (m6 Xx) (Sq t0) (Sq t0) (Sq t0) (Sq t0) (by rw[Pv,Ur (by simpa using e1),Ur Si])
  ·have d1:decide ((ws.length:Int)≠1)=true:=Uk Om;rw[Ut e1]at Pv;by_cases e2:ws.length=2
   ·have d2:decide ((ws.length:Int)=2)=true:=Uk Om;have d3:decide (([] :By)≠[])=false:=rfl;refine Rs (MT t0 t1 @oB @ld0 @bA @OU @gE @yK @yH @yI @yJ hs.aS @d1 @d2 @d3 @UF @UA) ?_;rw[Pv]
   ·have d2:decide ((ws.length:Int)=2)=false:=Uh Om;refine Rs (Kw t0 t1 @oB @ld0 @bA @OU @gE @yK @yH @yI @yJ hs.aS @d1 @d2 @UF @UA) ?_;rw[Pv]
 |true=>
  by_cases e2:ws.length=2
  ·have d2:decide ((ws.length:Int)=2)=true:=Uk Om;have hw1:ws[1]=ws.getD 1 []:=by rw[UQ,Uj Om];rfl
   have ix1:bh 1 s (.i 1)=some (eO s 1 1,.ar):=hs.fx (kk:=.i64) (i:=1) Om;have Sb:∀{k:af},Ext h k->aq none (eO s 1 1) (λb=>k[b]?)=some (.str (ws.getD 1 []),.ar):=λ{k} e=>by rw[<-hw1];exact hs.kK (i:=1) Om rfl e
   have Pv:lD V.bE.now ws (i,true,wt)=if ws.getD 1 []=[]then([],25)else if fk V.bE.now wt (ws.getD 1 [])=false then([],10)else(wb (jD V.bE.now (ws.getD 1 []) i),0):=by
    unfold lD;simp only[e2,and_true,UD,Xc,ne_eq,Bool.true_eq_false,false_and,V3,VM]
   generalize ws.getD 1 []=n at Sb Pv;by_cases hn:n=[]
   ·have d3:decide (n≠[])=false:=Uh (λz=>z hn);rw[Ut hn]at Pv;refine Rs (Kv t0 t1 @oB @ld0 @ix1 @Sb @bA @OU @gE @yK @yH @yI @yJ hs.aS @d2 @d3 @UF @UA) ?_;rw[Pv]
   ·have d3:decide (n≠[])=true:=Uk hn;rw[Ur hn]at Pv;refine Rs (Kv t0 t1 @oB @ld0 @ix1 @Sb @bA @OU @gE @yK @yH @yI @yJ hs.aS @d2 @d3 @UF @UA) ?_;rw[Pa];exact EY T (n:=n) o w hl Z pw hq Xx (m6 Xx) (Sq t0) (Sq t0) (Sq t0) (Sq t0) (by rw[Pv];simp)
  ·have d2:decide ((ws.length:Int)=2)=false:=Uh Om;have Pv:lD V.bE.now ws (i,true,wt)=([],25):=by
    unfold lD;simp[e2]
   refine Rs (Kx t0 t1 @oB @ld0 @bA @OU @gE @yK @yH @yI @yJ hs.aS @d2 @UF @UA) ?_;rw[Pv]
end
def kN(B h0:af)(b:Nat)(V:HV)(R:kf×By×Int)(v:AV)(k:af):Prop:=∃g' V',k=B++g'/\v=.dt [.str R.2.1,.i R.2.2]/\bZ B.length (B++g') b V'/\V'.bE=R.1/\
 (∀i,i<h0.length->some i∉V.ex b->(B++g')[i]? =h0[i]?)/\∀j,some j∈V'.ex b->some j∈V.ex b\/h0.length<=j
def kN.same{B W k b V m c}(o:bZ B.length W b V)(e:Ext B W)(e2:Ext W k){R}(hR:R=(V.bE,m,c)):kN B W b V R (.dt [.str m,.i c]) k:=by
 obtain⟨z,rfl⟩:=e;obtain⟨y,rfl⟩:=e2;exact⟨z++y,V,by rw[Uf],by rw[hR],by rw[<-Uf];exact o.app y,by rw[hR],λi hi _=>by rw[<-Uf,Ug hi],λj hj=>.inl hj⟩
def kN.low{B h0 W k b V R v}(s:kN B W b V R v k)(e:Ext h0 W):kN B h0 b V R v k:=by
 obtain⟨g',V',h1,h2,h3,h4,h5,h6⟩:=s;obtain⟨z,rfl⟩:=e;refine⟨g',V',h1,h2,h3,h4,λi hi hn=>?_,λj hj=>?_⟩
 ·rw[h5 i (by rw[Ud];omega) hn,Ug hi]
 ·rcases h6 j hj with h|h
  ·exact .inl h
  ·exact .inr (by rw[Ud]at h;omega)
def pg(H:kf)(ws:List (By)):kf×By×Int:=
 if(bV ws).2=false then(H,[],25)else
 if 1000<=H.cS.length then(H,[],5)else
 if gK H { (bV ws).1 with num:=(H.cS.length:Int)+1}≠0 then(H,[],gK H { (bV ws).1 with num:=(H.cS.length:Int)+1})
 else(p3 H { (bV ws).1 with num:=(H.cS.length:Int)+1},[100,111,110,101,32]++dS ((H.cS.length:Int)+1),0)
def Ba{H s}:yB H s=if 4096<s.length then(H,[],26)else if s=[]then(H,[],25)else
  match jL ((aA 32 s).headD [])with
  |some q=>(H,lD H.now (aA 32 s) q)
  |none=>
   match eC ((aA 32 s).headD [])with
   |none=>(H,[],13)
   |some _=>pg H (aA 32 s):=by
 unfold yB;by_cases h1:4096<s.length
 ·rw[Ut h1,Ut h1]
 rw[Ur h1,Ur h1];by_cases h2:s=[]
 ·rw[Ut h2,Ut h2]
 rw[Ur h2,Ur h2];cases jL ((aA 32 s).headD [])with
 |some q=>rfl
 |none=>
  cases eC ((aA 32 s).headD [])with
  |none=>rfl
  |some d=>
   simp only;unfold pg;cases (bV (aA 32 s)).2<;>rfl
def Ht(k:Nat):an:=(fn43).body.dr k
def GJ(k:Nat):an:=(Ht k).hd
def Mz:fn43=⟨97,2,[(4,none),(5,none)],.seq (GJ 0) (.seq (GJ 1) (.seq (GJ 2) (.seq (GJ 3) (.seq (GJ 4) (.seq (GJ 5) (Ht 6))))))⟩:=rfl
section
variable {P:Program}(T:eF P) {B W:af}{ts:TS}
include T
def J2{V b x}(he:Ext B W)(o:bZ B.length W b V)(w:kW V.bE)(hl:V.cS.length<1000)(ox:aZ W x)(hxl:x.ev.names.length<=2^40/\x.ev.ba.length<=2^40)(gl:Gl B):
  c9 P 112 [.ptr b 0,.agg x.row] W (λv k=>Hx B W b V x.ev v k):=by
 obtain⟨g,rfl⟩:=he;exact JB T o w hl ox hxl gl
def My{V b}(he:Ext B W)(o:bZ B.length W b V)(w:kW V.bE)(hl:V.cS.length<=1000)(gl:Gl B)(pw:Pw B)(Z:nJ P){sv ws}(hs:aB W sv 1 (ws.map al))(hwl:∀x∈ws,x.length<=2^40)
  (hlen:ts.length=97) (t0:slot ts 0=.ptr b 0) (t7:slot ts 7=sv):WC P cB (Ht 6) [] ts W (FQ [(4,none),(5,none)] λv k=>kN B W b V (pg V.bE ws) v k):=by
 have Po:=pq ws;have RS:V.bE.cS.length=V.cS.length:=by simp[HV.bE]
 have lb:=@jg _ _ _ o.hb;have Rc:=o.rd.ie.aS;unfold Ht fn43;simp only[an.j,an.s,an.r,an.dr,an.tl,an.hd];refine Rs (A2 t0 t7) ?_;refine WF.res T.c111 (r111 T Z hs hwl) ?_;rintro _ g1 ⟨x,hx,rfl,fn,fv⟩;have ox:aZ (W++g1) x:=⟨fn.aM,fv.aM⟩;obtain⟨x',Oo⟩:∃x':EV,x' =⟨{x.ev with num:=(V.cS.length:Int)+1},x.sn,x.sv⟩:=⟨_,rfl⟩;have hrow:x'.row=x.row.set 0 (.i ((V.cS.length:Int)+1)):=by rw[Oo];rfl
 have Pq:x'.ev.num=(V.cS.length:Int)+1:=by rw[Oo]
 have hev:({ (bV ws).1 with num:=(V.bE.cS.length:Int)+1}:fp)=x'.ev:=by rw[Oo,hx,RS]
 have Rl:aZ (W++g1) x':=by rw[Oo];exact⟨ox.n,ox.v⟩
 have Ot:pg V.bE ws=if(bV ws).2=false then(V.bE,[],25)else if 1000<=V.cS.length then(V.bE,[],5)else if gK V.bE x'.ev≠0 then(V.bE,[],gK V.bE x'.ev)else(p3 V.bE x'.ev,[100,111,110,101,32]++dS ((V.cS.length:Int)+1),0):=by
  unfold pg;rw[hev,RS]
 have st:∀{b':Nat}{a0 a1 a2 a3 a4:AV},jq 5 0 (.agg x.row) b' (.b [a0,a1,a2,a3,a4])=some (au,.set b' (.b x.row)):=λ{_ _ _ _ _ _}=>ox.st
 have jP:∀{b':Nat},jq 1 0 (.i ((V.cS.length:Int)+1)) b' (.b x.row)=some (au,.set b' (.b x'.row)):=λ{b'}=>by
  exact Fa
 have hpost:pg V.bE ws=pg V.bE ws:=rfl;generalize hfm:(bV ws).2=fm at Ot ⊢;cases fm with
 |false=>
  refine Rs (A4 t0 t7 @st @UF) ?_;refine WF.ce T.c85 (r85 T _ _) λg2=>?_
  refine Rs (A4 t0 t7 @lb @Rc) ?_;refine WF.ce T.c85 (r85 T _ _) λg3=>?_
  refine Rs (A2 t0 t7) ?_;refine WF.ce T.c74 (r74 T (bN [_,_]) Si) λg4=>?_
  have e0:∀c,aO [bB true 25,bB c 5]=25:=λc=>by cases c<;>rfl
  have d0:decide ((25:Int)≠0)=true:=rfl;refine Rs (A3 t0 e0 @d0) ?_;exact kN.same o he Xx (by rw[Ot];rfl)
 |true=>
  rw[Ur Si]at Ot;refine Rs (A4 t0 t7 @st @UA) ?_;refine WF.ce T.c85 (r85 T _ _) λg2=>?_
  refine Rs (A4 t0 t7 @lb @Rc) ?_;refine WF.ce T.c85 (r85 T _ _) λg3=>?_
  refine Rs (A2 t0 t7) ?_;refine WF.ce T.c74 (r74 T (bN [_,_]) Si) λg4=>?_
  by_cases hk:1000<=V.cS.length
  ·have dk:decide ((1000:Int)<=(V.cS.length:Int))=true:=Uk Om;have e0:aO [bB false 25,bB true 5]=5:=rfl;have d0:decide ((5:Int)≠0)=true:=rfl;rw[Ut hk]at Ot;refine Rs (A4 t0 @dk e0 @d0) ?_;exact kN.same o he Xx Ot
  ·have dk:decide ((1000:Int)<=(V.cS.length:Int))=false:=Uh Om;have e0:aO [bB false 25,bB false 5]=0:=rfl;have d0:decide ((0:Int)≠0)=false:=rfl;rw[Ur hk]at Ot;have w1:IntKind.i64.wrap ((V.cS.length:Int)+1)=(V.cS.length:Int)+1:=aH Om Om;refine Rs (A9 t0 @dk e0 @d0 @lb @Rc @w1 @jP @bW) ?_;obtain⟨Y,hY⟩:∃Y,Y=W++g1++[ai.b x'.row]++g2++g3++[ai.cells [.i (bB false 25),.i (bB false 5)] true true]++g4:=⟨_,rfl⟩;rw[<-hY];have R6:Ext W Y:=by rw[hY];exact Xx
   have oY:bZ B.length Y b V:=by obtain⟨z,hz⟩:=R6;rw[hz];exact o.app z
   have oxY:aZ Y x':=by rw[hY];exact Rl.ext Xx
   have m12:Y[(W++g1).length]? =some (.b x'.row):=by rw[hY];exact Ext.some (h:=W++g1++[ai.b x'.row]) Xx (by rw[Un (Uq _),Vb];rfl)
   refine WF.gen T.c112 (J2 T (he.trans R6) oY w Om oxY ⟨by rw[Oo];show x.ev.names.length<=_;rw[hx];omega,by rw[Oo];show x.ev.ba.length<=_;rw[hx];omega⟩ gl) ?_;rintro _ _ ⟨g',V',rfl,rfl,oV',T7,hkp,hexn⟩;have hYl:W.length<=Y.length:=by obtain⟨z,hz⟩:=R6;rw[hz,Ud];omega
   have hkW:∀i,i<W.length->some i∉V.ex b->(B++g')[i]? =W[i]? :=λi hi hn=>by
    rw[hkp i Om hn];obtain⟨z,hz⟩:=R6;rw[hz,Ug hi]
   have hexW:∀j,some j∈V'.ex b->some j∈V.ex b\/W.length<=j:=λj hj=>(hexn j hj).imp id λh=>by omega
   by_cases P7:gK V.bE x'.ev=0
   ·have d:decide (gK V.bE x'.ev≠0)=false:=Uh (λz=>z P7);rw[Ut P7]at T7;rw[Ur (λz=>z P7)]at Ot;have m12':(B++g')[(W++g1).length]? =some (.b x'.row):=by
     rw[hkp _ (Ue.1 m12).1 (λhj=>by have:=o.AY hj;simp only[Ud]at this;omega)];exact m12
    have l12:aq none (.ptr (W++g1).length 0) (λz=>(B++g')[z]?)=some (.i ((V.cS.length:Int)+1),.ar):=by rw[az m12',<-Pq];rfl
    refine Rs (A3 t0 @d @l12) ?_;refine WF.ce T.c113 (Z.itoa Om Om (pw.ext ⟨_,rfl⟩)) λg5=>?_
    have hdl:=jB (k:=7) (u:=((V.cS.length:Int)+1).toNat) Om;rw[fQ Om];have hdl:(dS ((V.cS.length:Int)+1)).length<=8:=by rw[gJ];exact hdl
    have hbc:([100,111,110,101,32] :By).length+(dS ((V.cS.length:Int)+1)).length<2^62:=by
     simp only[Ui,Ul];omega
    have bc:=dL hbc;refine Rs (A2 t0 @bc) ?_;exact⟨g'++g5,V',by rw[Uf],by rw[Ot],by rw[<-Uf];exact oV'.app g5,by rw[Ot,T7],λi hi hn=>by
     rw[<-Uf,<-hkW i hi hn];have hil:i<(B++g').length:=by
      have e:=hkW i hi hn;rw[Uj hi]at e;exact(Ue.1 e).1
     exact Ug hil,hexW⟩
   ·have d:decide (gK V.bE x'.ev≠0)=true:=Uk P7;rw[Ur P7]at T7;rw[Ut P7]at Ot;refine Rs (A2 t0 @d) ?_;exact⟨g',V',rfl,by rw[Ot],oV',by rw[Ot,T7],hkW,hexW⟩
end
def bZ.ext{N h k b V}(o:bZ N h b V)(e:Ext h k):bZ N k b V:=by obtain⟨z,rfl⟩:=e;exact o.app z
def r9{b o}:nw MR.Cl (.ptr b o) .nilPtr=some false:=rfl
section
variable {P:Program}(T:eF P) {B g:af}
include T
def N2{V b}(o:bZ B.length (B++g) b V)(w:kW V.bE)(hl:V.cS.length<=1000)(gl:Gl B)(pw:Pw B)(X:yR P)(Z:nJ P)(s:By)(hs:s.length<=2^36):
  c9 P 43 [.ptr b 0,.str s] (B++g) (λv k=>kN B (B++g) b V (yB V.bE s) v k):=by
 refine .of T.mix (Eq.trans T.c43 (UM some Mz)) ?_;obtain⟨ts,Ol⟩:∃ts,ts=aQ 97 [.ptr b 0,.str s]:=⟨_,rfl⟩;have hlen:ts.length=97:=by rw[Ol];rfl
 have t0:slot ts 0=.ptr b 0:=by rw[Ol];rfl
 have t1:slot ts 1=.str s:=by rw[Ol];rfl
 obtain⟨RR,Pa⟩:∃RR,RR=Ht 6:=⟨_,rfl⟩;show WC P cB _ [] (aQ 97 [.ptr b 0,.str s]) (B++g) (FQ _ (λv k=>kN B (B++g) b V (yB V.bE s) v k));rw[<-Ol,<-Pa];clear Ol;have he:Ext B (B++g):=⟨g,rfl⟩;obtain⟨W,hW⟩:∃W,W=B++g:=⟨_,rfl⟩;rw[<-hW]at o he ⊢;have eW:Ext W W:=Ext.refl W;have hregs:V.cI.length<=1000:=by
  have e1:=w.ln;have e2:=w.le;exact MZ
 have PO:=Ba (H:=V.bE) (s:=s);unfold GJ Ht fn43;simp only[an.j,an.s,an.r,an.dr,an.tl,an.hd];refine Rs (A3 t0 t1 @r9) ?_;refine WF.ce T.c85 (r85 T _ _) λg1=>?_
 refine Rs (A2 t0 t1) ?_;refine WF.ce T.c85 (r85 T _ _) λg2=>?_
 refine Rs (A2 t0 t1) ?_;refine WF.ce T.c74 (r74 T (bN [_,_]) Si) λg3=>?_
 by_cases h1:4096<s.length
 ·have d1:decide ((4096:Int)<(s.length:Int))=true:=Uk Om;have e0:∀c,aO [bB true 26,bB c 25]=26:=λc=>by cases c<;>rfl
  have d0:decide ((26:Int)≠0)=true:=rfl;rw[Ut h1]at PO;refine Rs (A5 t0 t1 @d1 e0 @d0) ?_;exact kN.same o he Xx PO
 have d1:decide ((4096:Int)<(s.length:Int))=false:=Uh Om;rw[Ur h1]at PO;by_cases h2:s=[]
 ·have d2:decide (s=[])=true:=Uk h2;have e0:aO [bB false 26,bB true 25]=25:=rfl;have d0:decide ((25:Int)≠0)=true:=rfl;rw[Ut h2]at PO;refine Rs (A6 t0 t1 @d1 @d2 e0 @d0) ?_;exact kN.same o he Xx PO
 have d2:decide (s=[])=false:=Uh h2;rw[Ur h2]at PO;have e0:aO [bB false 26,bB false 25]=0:=rfl;have d0:decide ((0:Int)≠0)=false:=rfl;refine Rs (A6 t0 t1 @d1 @d2 e0 @d0) ?_;refine WF.res T.c64 (r64 T X s 32 Om) ?_;intro sv g4 hv;have hwl:=qw (c:=32) (s:=s) (n:=2^40) Om;have hwn:(aA 32 s).length<=s.length+1:=by
  rw[jr];have:=WN (a:=(32:UInt8)) (l:=s);omega
 have hne:0<(aA 32 s).length:=VU.2 eo;obtain⟨ws,hws⟩:∃ws,ws=aA 32 s:=⟨_,rfl⟩;rw[<-hws]at hv hwl hwn hne PO;have TA:ws[0]=ws.headD []:=by
  clear hv hwl hwn PO hws;cases ws with|nil=>simp at hne|cons a r=>rfl
 obtain⟨Y,hY⟩:∃Y,Y=W++g1++g2++[ai.cells [.i (bB false 26),.i (bB false 25)] true true]++g3++g4:=⟨_,rfl⟩;rw[<-hY]at hv ⊢;have R6:Ext W Y:=by rw[hY];exact Xx
 have oY:bZ B.length Y b V:=o.ext R6;have eB:=he.trans R6;have oB:=hv.oB (kk:=.i64) hne;have ld0:∀{k:af},Ext Y k->aq none (eO sv 1 0) (λb=>k[b]?)=some (.str (ws.headD []),.ar):=λ{k} e=>by rw[<-TA];exact hv.kK (i:=0) hne rfl e
 clear o he;refine Rs (A2 t0 t1) ?_;refine WF.res T.c109 (r109 T) ?_;rintro _ g5 ⟨rfl,hg⟩;have hg:g5=[.aN Ai]:=V4 hg;subst hg;have lk:∀{z:AV},gk .s z true (.map Y.length) (.str (ws.headD [])) (λb=>(Y++[ai.aN Ai])[b]?)=jY z true ((jL (ws.headD [])).map iA):=Aw (by rw[Un (Uq _),Vb];rfl);cases hq:jL (ws.headD [])with
 |some q=>
  obtain⟨i,nm,wt⟩:=q;rw[hq]at lk PO;have OU:∀{z:AV},_=some (AV.dt [.agg [.bool nm,.i (wt:Nat),.func (.func (qF i)) [] []],.bool true],gL.ar):=@lk;refine Rs (A7 t0 t1 @oB @ld0 @bA @OU @gE) ?_;refine WF.ce T.c110 (r110 T (oY.rd.ext Xx) w hregs Z (pw.ext (eB.trans Xx)) (hv.ext Xx) hne Om hq) λg6=>?_
  refine Rs t0 ?_;exact(kN.same oY eB Xx PO).low R6
 |none=>
  rw[hq]at lk PO;have OU:∀{z:AV},_=some (AV.dt [z,.bool false],gL.ar):=@lk;refine Rs (A7 t0 t1 @oB @ld0 @bA @OU @gE) ?_;clear lk OU;refine WF.res T.c90 (r90 T) ?_;rintro _ g6 ⟨vf,rfl,hk⟩;obtain⟨Y2,hY2⟩:∃Y2,Y2=Y++[ai.aN Ai]++[ai.b [.bool false,.i 0,.nilFunc]]:=⟨_,rfl⟩;rw[<-hY2]at hk ⊢;have eY2:Ext Y Y2:=by rw[hY2];exact Xx
  have ld2:∀{k:af},Ext Y2 k->aq none (eO sv 1 0) (λb=>k[b]?)=some (.str (ws.headD []),.ar):=λ{k} e=>ld0 (eY2.trans e)
  have lk:∀{z:AV},gk .s z true (.map Y2.length) (.str (ws.headD [])) (λb=>(Y2++g6)[b]?)=jY z true ((eC (ws.headD [])).map vf):=hk.look;cases hd:eC (ws.headD [])with
  |none=>
   rw[hd]at lk PO;have OU:∀{z:AV},_=some (AV.dt [z,.bool false],gL.ar):=@lk;refine Rs (A8 t0 t1 @oB @ld2 @bA @OU @gE @UF) ?_;exact(kN.same oY eB (eY2.trans Xx) PO).low R6
  |some d=>
   rw[hd]at lk PO;have OU:∀{z:AV},_=some (AV.dt [vf d,.bool true],gL.ar):=@lk;obtain⟨rs,a,hvf,hr,ha,hab⟩:=(hk.k d).ex;rw[hvf]at OU;have c1:=kB d;have c2:=j6 d;have c3:=hr.one;refine Rs (y9 t0 t1 @oB @ld2 @bA @OU @UA @c1 @c2 @c3 @ha) ?_;have PO:yB V.bE s=pg V.bE ws:=PO;rw[Pa,PO];refine WC.Ey (My T (eB.trans (eY2.trans Xx)) (oY.ext (eY2.trans Xx)) w hl gl pw Z (hv.ext (eY2.trans Xx)) hwl (Sq t0) (Sq t0) (Sq t0)) ?_;rintro e ts' h' ⟨q1,v,q2,q3⟩;exact⟨q1,v,q2,kN.low q3 (R6.trans (eY2.trans Xx))⟩
end
def V0:HV:=⟨[],[],[],.ah,.ah,.ah⟩
def Ka{h}:bZ h.length (h++[.b [.ah,.ah,.ah]]) h.length V0:=
 ⟨Uq _,by rw[Un (Uq _),Vb];rfl,.nil,.nil,.nil,pS.2 ⟨λ_ _=>⟨by simp[sB,V0],by simp[sB,V0],by simp[sB,V0]⟩,λ_ z=>by simp[sB,V0]at z,λ_ z=>by simp[sB,V0]at z⟩,
  λx hx=>(by cases hx),λx hx=>(by cases hx),λx hx=>(by cases hx),λx hx=>(by cases hx)⟩
def Kb{b}:∀j,some j∈V0.ex b->j=b:=λj hj=>by
 simp only[HV.ex,V0,sB,UR,Vh,V3,UG,reduceCtorEq]at hj;exact hj
def Fb{H ws}(w:kW H):kW (pg H ws).1/\(pg H ws).1.cS.length<=H.cS.length+1:=by
 unfold pg;split
 ·exact⟨w,Xb _⟩
 split
 ·exact⟨w,Xb _⟩
 split
 ·exact⟨w,Xb _⟩
 ·rename_i h;exact⟨w.add (VM.1 h),by rw[uJ];omega⟩
def Ie{H s}(w:kW H):kW (yB H s).1/\(yB H s).1.cS.length<=H.cS.length+1:=by
 rw[Ba];split
 ·exact⟨w,Xb _⟩
 split
 ·exact⟨w,Xb _⟩
 split
 ·exact⟨w,Xb _⟩
 split
 ·exact⟨w,Xb _⟩
 exact Fb w
def qG(x:By×By×Int):List AV:=[.str x.1,.str x.2.1,.i x.2.2]
def kV:kf->List (By×By×Int)->Option kf
 |H,[]=>some H
 |H,x::r=>if(yB H x.1).2.1=x.2.1/\(yB H x.1).2.2=x.2.2 then kV (yB H x.1).1 r else none
section
variable {P:Program}(T:eF P) {h:af}
include T
def r70:ak P 70 [] h (λv h'=>v=.ptr h.length 0/\h' =h++[.b [.ah,.ah,.ah]]):=by
 refine .of T.mix T.c70 ?_;unfold fn70 gA;exact Wn Tv
def r44{V b}(o:xX h b V)(w:kW V.bE)(hl:V.cS.length<=1000):
  ak P 44 [.ptr b 0] h (λv h'=>∃L':List EV,L'.map EV.ev=V.bE.cS/\fB h' L' v):=by
 refine .jP 11 T.mix T.c44 ?_;intro ts hlen t0;unfold fn44 gA;have lb:=@jg _ _ _ o.hb;refine Rs (A3 t0 @r9 @lb) ?_;refine WF.res T.c87 (r87 T ⟨o.ie,o.ae⟩ Om (λx hx=>by
  obtain⟨d,we⟩:=w.ev x.ev (UP hx);have h3:(aC d).length<=3/\a8 d<=3:=by cases d<;>decide
  have:=we.nl;have:=we.vl;exact⟨Om,Om⟩)) ?_
 rintro v g ⟨L',hL,hf,hx⟩;refine Rs t0 ?_;exact⟨L',hL,hf.aM,λx Oo=>(hx x Oo).ok⟩
end
def Gh(d:Kd):(bw d).length<=16:=by cases d<;>decide
def AZ{e d}(we:uT e d):Ke e/\(cX e).length<=520:=by
 have h3:(aC d).length<=3/\a8 d<=3:=by cases d<;>decide
 have h1:=we.nl;have h2:=we.vl;have h4:=we.nu;have dl:∀{y:Int},0<=y->y<=999999999->(dS y).length<=64:=λ{y} h0 h1=>by have:=jB (k:=9) (u:=y.toNat) Om;rw[gJ];omega
 have hb:(cX e).length<=520:=by
  have hj:=nv (c:=32) (l:=pW e) λx hx=>by
   unfold pW at hx;simp only[Um,UR,Vh,V3,UI]at hx;rcases hx with((rfl|rfl)|hx)|⟨y,hy,rfl⟩
   ·exact BL
   ·have:=Gh d;rw[fj we.kd];omega
   ·have:=tG (we.nm x hx);omega
   ·have:=we.vr y hy;exact dl Om Om
  have hl:(pW e).length<=8:=by
   unfold pW;simp only[Ud,Ui,Ul,Uv];omega
  unfold cX;omega
 exact⟨⟨Om,λx hx=>by have:=we.vr x hx;omega,Om,Om,Om⟩,hb⟩
section
variable {P:Program}(T:eF P) {h:af}
include T
def r45(Z:nJ P)(pw:Pw h){V b}(o:xX h b V)(w:kW V.bE)(hl:V.cS.length<=1000):
  ak P 45 [.ptr b 0] h (λv _=>v=.str (gm V.bE.cS)):=by
 refine .jP 12 T.mix T.c45 ?_;intro ts hlen t0;unfold fn45 gA;have lb:=@jg _ _ _ o.hb;refine Rs (A3 t0 @r9 @lb) ?_;refine WF.res T.c115 (r115 T o.ie (λx hx=>⟨(o.ae x hx).n.one,(o.ae x hx).v.one⟩) Om (λx=>fN x.ev) (λx hx k e=>by
  obtain⟨d,we⟩:=w.ev x.ev (UP hx);exact aV.of (a:=[]) (c:=[]) T.c97 (r97 T Z ((o.ae x hx).ext e) (AZ we).1 (pw.ext e)))) ?_
 rintro v g hf;refine Rs t0 ?_;have O1:(V.cS.map λx=>fN x.ev).flatten.length<=V.cS.length*529:=by
  have:∀L:List EV,(∀x∈L,(fN x.ev).length<=529)->(L.map λx=>fN x.ev).flatten.length<=L.length*529:=by
   intro L
   induction L with
   |nil=>intro _;simp
   |cons x r ih=>
    intro hx;have h1:=ih λy hy=>hx y (UL _ hy)
    have h2:=hx x Si;rw[Vl,Vj,Ud,Ui,Vv];omega
  refine this _ λx hx=>?_
  obtain⟨d,we⟩:=w.ev x.ev (UP hx);have:=(AZ we).2;rw[Af T Z];omega
 refine WF.ce T.c114 (Z.join hf.aM ⟨by rw[AJ];omega,by rw[Uv];omega⟩) λg2=>?_
 refine Rs t0 ?_;rw[AJ,gm,HV.bE,Wl];rfl
end
section
variable {P:Program}(T:eF P) {B:af}
include T
def Mx{W V b}(he:Ext B W)(o:bZ B.length W b V)(w:kW V.bE)(hl:V.cS.length<=1000)(gl:Gl B)(pw:Pw B)(X:yR P)(Z:nJ P)(s:By)(hs:s.length<=2^36):
  c9 P 43 [.ptr b 0,.str s] W (λv k=>kN B W b V (yB V.bE s) v k):=by
 obtain⟨g,rfl⟩:=he;exact N2 T o w hl gl pw X Z s hs
omit T in
theorem BT{h k s es cs}(hs:aB h s es cs)(hk:∀j,sB s=some j->j<h.length->k[j]? =h[j]?):aB k s es cs:=by
 cases hs with
 |nil=>exact .nil
 |mk hb hf ho he=>
  have:=hk _ rfl (Ue.1 hb).1;exact .mk (this.trans hb) hf ho he
omit T in
theorem Ix{h s es cs}(hs:aB h s es cs){j}(hj:sB s=some j):j<h.length:=by
 cases hs with
 |nil=>cases hj
 |mk hb _ _ _=>cases hj;exact(Ue.1 hb).1
def N1{g V b}(o:bZ B.length (B++g) b V)(w:kW V.bE)(gl:Gl B)(pw:Pw B)(X:yR P)(Z:nJ P){s L}(hs:aB (B++g) s 3 (L.map qG))(hns:∀j,sB s=some j->some j∉V.ex b)
  (hlL:V.cS.length+L.length<=1000) (bE:∀x∈L,x.1.length<=2^36) {H'}(ha:kV V.bE L=some H'):
  c9 P 71 [.ptr b 0,s] (B++g) (λv k=>v=.bool true/\∃g' V',k=B++g'/\bZ B.length (B++g') b V'/\V'.bE=H'/\kW V'.bE/\V'.cS.length<=1000):=by
 refine .eQ 35 T.mix T.c71 ?_;intro ts hlen t0 t1;unfold fn71 gA;refine Rs (A4 t0 t1 @r9 hs.aS) ?_;refine WL.inv T.mix (λn ts h'=>∃(k:Nat) (V':HV) (g':af),k<=L.length/\n=L.length-k/\h' =B++g'/\bZ B.length (B++g') b V'/\kW V'.bE/\V'.cS.length<=V.cS.length+k/\kV V'.bE (L.drop k)=some H'/\aB (B++g') s 3 (L.map qG)/\(∀j,sB s=some j->some j∉V'.ex b)/\
   ts.length=35/\slot ts 0=.ptr b 0/\slot ts 11=s/\slot ts 12=.i L.length/\slot ts 13=.i k) L.length
  ⟨0,V,g,Om,rfl,rfl,o,w,Om,ha,hs,hns,Sn,(Sq t0),(Sq t1),(Sq t0),iR⟩ ?_
 clear t0 t1 hlen o w hs hns ha;clear ts;rintro _ ts _ ⟨k,V',g',hk,rfl,rfl,o,w,hVl,ha,hs,hns,hlen,t0,t11,t12,t13⟩;by_cases hlt:k<L.length
 ·have e3:=gh hlt;have e5:=wrapN (n:=k) Om;have ix:=hs.fx (kk:=.i64) hlt;have ld:∀{k'},Ext (B++g') k'->aq (some 3) (eO s 3 k) (λb=>k'[b]?)=some (.agg (qG L[k]),.ar):=λ{k'} e=>hs.mY hlt e
  obtain⟨⟨a,m,c⟩,hx⟩:∃x,x=L[k]:=⟨_,rfl⟩;have hm:(a,m,c)∈L:=by rw[hx];exact UB _
  have hd:L.drop k=(a,m,c)::L.drop (k+1):=by rw[hx];simp
  rw[<-hx]at ld;unfold qG at ld;rw[hd,kV]at ha;split at ha
  case isFalse=>cases ha
  case isTrue hc=>
  have hc1:(yB V'.bE a).2.1=m:=hc.1;have S7:(yB V'.bE a).2.2=c:=hc.2;have hwd:=Ie (s:=a) w;obtain⟨W,hW⟩:∃W,W=B++g'++[ai.b [.str a,.str m,.i c]]:=⟨_,rfl⟩;have eW:Ext (B++g') W:=by rw[hW];exact Xx
  have mW:W[(B++g').length]? =some (.b [.str a,.str m,.i c]):=by rw[hW,Un (Uq _),Vb];rfl
  have lW:∀{kk:af}{n':Option Nat}{q:Nat},kk[(B++g').length]? =some (.b [.str a,.str m,.i c])->aq n' (.ptr (B++g').length q) (λz=>kk[z]?)=dI n' q (.b [.str a,.str m,.i c]):=λe=>az e
  refine Rs (A7 t0 t11 t12 t13 e3 ix @ld) ?_;rw[<-hW];have lW1:=λ{n':Option Nat}{q:Nat}=>@lW W n' q mW
  refine Rs (A5 t0 t11 t12 t13 @lW1) ?_;refine WF.gen T.c43 (Mx T ((Ext.app _ (Ext.refl _):Ext B (B++g')).trans eW) (o.ext eW) w Om gl pw X Z a (bE _ hm)) ?_;rintro _ _ ⟨g2,V2,rfl,rfl,o2,S8,hkp,hex⟩;have hWl:W.length=(B++g').length+1:=by rw[hW,Ud];rfl
  have m2:(B++g2)[(B++g').length]? =some (.b [.str a,.str m,.i c]):=by
   rw[hkp _ Om (λhj=>by have:=o.AY hj;omega)];exact mW
  have lW2:=λ{n':Option Nat}{q:Nat}=>@lW (B++g2) n' q m2
  have d1:decide (m≠m)=false:=Uh (λz=>z rfl);have d2:decide (c≠c)=false:=Uh (λz=>z rfl);rw[hc1,S7];refine Rs (A8 t0 t11 t12 t13 @lW2 @d1 @d2 e5) ?_;have hsW:=hs.ext eW;refine⟨L.length-(k+1),Om,k+1,V2,g2,Om,rfl,rfl,o2,by rw[S8];exact hwd.1,?_,by rw[S8];exact ha,BT hsW λj hj hl=>hkp j hl (hns j hj),λj hj hx=>?_,rfl⟩
  ·have e1:V2.cS.length=V2.bE.cS.length:=by simp[HV.bE]
   have e2:V'.cS.length=V'.bE.cS.length:=by simp[HV.bE]
   have:=hwd.2;rw[<-S8]at this;omega
  ·rcases hex j hx with hx|hx
   ·exact hns j hj hx
   ·have:=Ix hs hj;omega
 ·have e3:=gG hlt;have e4:k=L.length:=Om
  rw[e4,Vr,kV]at ha;cases ha;refine Rs (A5 t0 t11 t12 t13 e3) ?_;exact⟨g',V',rfl,o,rfl,w,Om⟩
end
def Hv:List (By×By×Int):=[
 ([116,97,112,101,32,97,32,49,32,49,48],[100,111,110,101,32,49],0),
 ([116,97,112,101,32,98,32,53,32,49,48,48],[100,111,110,101,32,50],0),
 ([108,105,110,101,32,108,49,32,53,32,50],[100,111,110,101,32,51],0),
 ([115,104,111,116,32,115,49,32,108,49,32,97,32,54],[100,111,110,101,32,52],0),
 ([115,104,111,116,32,115,50,32,108,49,32,98,32,55],[100,111,110,101,32,53],0),
 ([99,111,112,121,32,97,32,98,32,56],[100,111,110,101,32,54],0),
 ([116,97,112,101,115,32,115,49],[97,32,98],0),
 ([99,111,112,121,32,97,32,98,32,49,50],[],30),
 ([119,97,110,116,32,108,49],[50,32,50,32,111,112,101,110],0),
 ([97,99,99,101,112,116,32,108,49,32,57],[100,111,110,101,32,55],0),
 ([115,104,111,116,32,115,51,32,108,49,32,98,32,57],[],23),
 ([115,111,117,114,99,101,32,109,49,32,108,49,32,57],[100,111,110,101,32,56],0),
 ([109,111,100,117,108,101,32,109,50,32,109,49,32,57,32,50],[100,111,110,101,32,57],0),
 ([109,111,100,117,108,101,32,109,51,32,109,50,32,57,32,51],[100,111,110,101,32,49,48],0),
 ([109,111,100,117,108,101,32,109,52,32,109,49,32,57,32,51],[],2),
 ([109,101,114,103,101,32,109,52,32,109,49,32,109,50,32,57],[],2),
 ([114,117,110,32,106,49,32,109,51,32,49,48,32,51],[100,111,110,101,32,49,49],0),
 ([116,105,108,101,32,106,49,32,49,48,32,50,32,55],[100,111,110,101,32,49,50],0),
 ([116,105,108,101,32,106,49,32,49,48,32,48,32,53],[100,111,110,101,32,49,51],0),
 ([108,101,102,116,32,106,49],[49],0),
 ([102,97,105,108,32,106,49,32,49,49,32,50],[100,111,110,101,32,49,52],0),
 ([108,101,102,116,32,106,49],[49,32,50],0),
 ([112,105,99,116,117,114,101,32,112,49,32,106,49,32,49,49],[],32),
 ([116,105,108,101,32,106,49,32,49,49,32,49,32,54],[100,111,110,101,32,49,53],0),
 ([116,105,108,101,32,106,49,32,49,49,32,50,32,55],[100,111,110,101,32,49,54],0),
 ([112,105,99,116,117,114,101,32,112,49,32,106,49,32,49,50],[100,111,110,101,32,49,55],0),
 ([102,114,111,109,32,112,49],[115,49,32,115,50],0),
 ([108,105,110,101,115,32,109,51],[108,49],0),
 ([117,110,115,97,102,101],[110,111,110,101],0),
 ([114,101,108,101,97,115,101,32,112,49,32,49,50],[100,111,110,101,32,49,56],0),
 ([117,110,100,111],[],21),
 ([114,101,108,101,97,115,101,100],[112,49,32,53,50,57,49,55,52],0)]
def sO:kf:=(kV kf.zero Hv).getD kf.zero
set_option maxRecDepth 100000 in
def JU:(kV kf.zero Hv).isSome=true:=by decide+kernel
set_option maxRecDepth 100000 in
def GS:sO.cS.length=18:=by decide+kernel
set_option maxRecDepth 100000 in
def Bo:te (sO.cS.take 5) [115,49] 12=(false,0):=by decide+kernel
set_option maxRecDepth 100000 in
def Bn:te sO.cS [115,49] 105=(true,0):=by decide+kernel
set_option maxRecDepth 100000 in
def GO:oz sO.cS 106=([[115,49],[115,50]],0):=by decide+kernel
set_option maxRecDepth 100000 in
def Dx:wQ sO.cS [109,51]=([[109,49],[109,50],[109,51]],0):=by decide+kernel
set_option maxRecDepth 100000 in
def GU:C5 [5,6,7]=(529174,0):=by decide+kernel
set_option maxRecDepth 100000 in
def uH:(k5 sO.cS [108,49]).1.length=8/\(k5 sO.cS [108,49]).2=0:=by decide+kernel
set_option maxRecDepth 100000 in
def GR:(gm sO.cS).length<=100000:=by decide+kernel
set_option maxRecDepth 100000 in
def GQ:(cH (gm sO.cS++[49])).2.2=28/\(cH (gm sO.cS++[49])).1.length=18/\(cH (gm sO.cS++[49])).2.1=(gm sO.cS).length:=by decide+kernel
set_option maxRecDepth 100000 in
def GP:gC [49,49]=[48,49,51,49,53,56,49]:=by decide+kernel
def xI{h c N}:kU .Ks (.slice h.length 0 1 1) (λb=>(h++[ai.cells [.int .u8 c] true true])[b]?) N=some (.str [UInt8.ofNat c.toNat],.ar):=by
 simp only[kU,eE,UD,bO];rfl
def xB{n}(h0:0<=n)(h1:n<10):UInt8.ofNat (IntKind.u8.wrap (IntKind.i64.wrap (48+n))).toNat=UInt8.ofNat (48+n.toNat):=by
 rw[aH Om Om,zf Om Om];congr 1;omega
section
variable {P:Program}(T:eF P)
include T
set_option maxRecDepth 10000 in
def r197:∀{k}{n}{h},0<=n->n<10^(k+1)->k<=15->ak P 197 [.i n] h (λv _=>v=.str (dS n)):=by
 intro k
 induction k with
 |zero=>
  intro n h h0 h1 _;refine .of T.mix T.c197 ?_;unfold fn197 gA;have h10:n<10:=by simpa using h1
  have d0:decide (n<0)=false:=Uh Om;exact z76
 |succ k ih=>
  intro n h h0 h1 hk;refine .of T.mix T.c197 ?_;unfold fn197 gA;have d0:decide (n<0)=false:=Uh Om;by_cases h10:n<10
  ·exact z76
  ·have d1:decide (n<10)=false:=Uh h10;have hb:n<=10^17:=by
    have:(10:Int)^(k+1+1)<=10^17:=by
     have:=Nat.pow_le_pow_right (n:=10) De (show k+1+1<=17 by omega)
     exact_mod_cast this
    omega
   have eq:n.tdiv 10=n / 10:=Int.tdiv_eq_ediv_of_nonneg h0;have em:n.tmod 10=n%10:=Int.tmod_eq_emod_of_nonneg h0;have w1:IntKind.i64.wrap (n / 10)=n / 10:=aH Om Om;have bq:dM .quo (.i n) (.i 10)=some (.i (n / 10)):=by rw[Dk De,eq,w1]
   have bm:dM .rem (.i n) (.i 10)=some (.i (n%10)):=by rw[oE De,em]
   refine Ws (A4 @d0 @d1 @bq @bm) ?_;refine WF.ce T.c197 (ih Om (by rw[Int.pow_succ]at h1;omega) Om) λg1=>?_
   have hd:=jB (k:=k) (u:=(n / 10).toNat) (by
    have h2:n / 10<10^(k+1):=by rw[Int.pow_succ]at h1;omega
    have h3:(((n / 10).toNat:Nat):Int)<((10^(k+1):Nat):Int):=by rw[Int.toNat_of_nonneg Om];exact_mod_cast h2
    exact_mod_cast h3)
   have bc:∀{c:UInt8},dM .add (.str (dS (n / 10))) (.str [c])=some (.str (dS (n / 10)++[c])):=dL (by rw[gJ];simp;omega);refine Ws (A5 @bq @bm @sI @xI @bc) ?_;rw[xB Om Om,gJ,gJ,Lib.decDigits.eq_def n.toNat,dif_neg Om];congr 3
   ·omega
   ·congr 2;omega
def r108{k n h}(h0:0<=n)(h1:n<10^(k+1))(hk:k<=15):ak P 108 [.i n] h (λv _=>v=.str (dS n)):=by
 refine .of T.mix T.c108 ?_;unfold fn108 gA;refine Wn ?_;refine WF.ce T.c197 (r197 T h0 h1 hk) λg=>?_
 exact Wn Tv
set_option maxRecDepth 10000 in
def r72{h}(s:By)(hs:s.length<=2^40):ak P 72 [.str s] h (λv _=>v=.str (gC s)):=by
 refine .jP 28 T.mix T.c72 ?_;intro ts hlen t0;unfold fn72 gA;refine Rs t0 ?_;refine WL.inv T.mix (λn ts' h'=>∃k:Nat,k<=s.length/\n=s.length-k/\h' =h/\ts'.length=28/\slot ts' 0=.str s/\slot ts' 3=.i (gD (s.take k))/\slot ts' 4=.i k) s.length
  ⟨0,Om,rfl,rfl,(Sq t0),(Sq t0),iR,iR⟩ ?_
 rintro _ ts' hz ⟨k,hk,rfl,hh,ON,u0,u3,u4⟩;rw[hh];clear hh hz;clear hlen t0;have hlen:=ON;clear ON;by_cases hlt:k<s.length
 ·have e3:=gh hlt;have hb:=lI (s.take k);have hcn:=UInt8.toNat_lt s[k];have w1:IntKind.i64.wrap (339*gD (s.take k))=339*gD (s.take k):=aH Om Om;have w2:IntKind.i64.wrap (s[k].toNat:Int)=(s[k].toNat:Int):=aH Om Om;have w3:IntKind.i64.wrap (339*gD (s.take k)+(s[k].toNat:Int))=339*gD (s.take k)+(s[k].toNat:Int):=aH Om Om;have er:=oE (k:=.i64) (a:=339*gD (s.take k)+(s[k].toNat:Int)) (b:=9999749) De;rw[<-sV,<-db hlt]at er
  repeat (first|simp (config:={maxSteps:=1000000}) only[aL,aR,bd,bf,reduceAdd,reduceMul,reduceLeDiff,reduceEqDiff,bj,hlen,UC,UD,u0,u3,u4,e3,cA hlt,w1,w2,w3,er,wrapN (show k+1<2^63 by omega)]|simp (config:={maxSteps:=1000000}) (disch:=first|(simp only[Ud,Ui,Ul]<;>omega)|rfl|omega|fail) only[dZ,aL,aR,bd,bf,reduceAdd,reduceMul,reduceLeDiff,reduceEqDiff,bj,hlen,UC,UD,u0,u3,u4,e3,cA hlt,w1,w2,w3,er,wrapN (show k+1<2^63 by omega)])
  exact HH
 ·have e3:=gG hlt;have ek:k=s.length:=Om
  rw[ek,UU]at u3;have hb:=lI s;have hl:=rH s;refine Rs (A4 @u0 @u3 @u4 e3) ?_;refine WF.ce T.c108 (r108 T (k:=7) hb.1 Om Om) λg=>?_
  refine Rs @u0 ?_;generalize hd:dS (gD s)=d at hl;have hT:gC s=List.replicate (7-d.length) 48++d:=by unfold gC;rw[hd]
  refine WL.inv T.mix (λn ts' h'=>∃j:Nat,d.length+j<=7/\n=7-(d.length+j)/\Ext h h'/\ts'.length=28/\slot ts' 5=.str (List.replicate j 48++d)) (7-d.length)
   ⟨0,Om,rfl,Xx,(Sq @u0),iR⟩ ?_
  rintro _ Q4 _ ⟨j,hj,rfl,⟨g2,rfl⟩,RF,v5⟩;clear hlen;have hlen:=RF;by_cases h7:d.length+j<7
  ·have e7:decide (((List.replicate j (48:UInt8)++d).length:Int)<7)=true:=Uk (by rw[Ud,Vn];omega);have hbc:([48] :By).length+(List.replicate j (48:UInt8)++d).length<2^62:=by rw[Ud,Vn];simp only[Ui,Ul];omega
   have bc:=dL hbc;refine Rs (A3 @v5 e7 @bc) ?_;exact⟨7-(d.length+(j+1)),Om,j+1,Om,rfl,rfl⟩
  ·have e7:decide (((List.replicate j (48:UInt8)++d).length:Int)<7)=false:=Uh (by rw[Ud,Vn];omega);have ej:j=7-d.length:=Om
   refine Rs (A2 @v5 e7) ?_;rw[hT,ej]
end
def Hu(k:Nat):an:=(fn15).body.dr k
def Dv(k:Nat):an:=(Hu k).hd
def JT:fn15=⟨158,0,[(0,none)],.seq (Dv 0) (.seq (Dv 1) (.seq (Dv 2) (Hu 3)))⟩:=rfl
def tX{h:af}{M:List (By)}:aB (h++[ai.cells (M.map al).flatten true true]) (.slice h.length 0 (M.map al).length 1) 1 (M.map al):=(Fr.push (es:=1) (N:=0) (UK _) (M.map al) (by simp[al])).aM
section
variable {P:Program}(T:eF P) {h:af}
include T
omit T in
theorem Dw:kV kf.zero Hv=some sO:=by
 have:=JU;unfold sO;generalize kV kf.zero Hv=o at this ⊢;cases o with
 |none=>cases this
 |some x=>rfl
def JZ{B W V b}(he:Ext B W)(o:bZ B.length W b V)(w:kW V.bE)(gl:Gl B)(pw:Pw B)(X:yR P)(Z:nJ P){s L}(hs:aB W s 3 (L.map qG))(hns:∀j,sB s=some j->some j∉V.ex b)
  (hlL:V.cS.length+L.length<=1000) (bE:∀x∈L,x.1.length<=2^36) {H'}(ha:kV V.bE L=some H'):
  c9 P 71 [.ptr b 0,s] W (λv k=>v=.bool true/\∃g' V',k=B++g'/\bZ B.length (B++g') b V'/\V'.bE=H'/\kW V'.bE/\V'.cS.length<=1000):=by
 obtain⟨g,rfl⟩:=he;exact N1 T o w gl pw X Z hs hns hlL bE ha
def MC(X:yR P)(Z:nJ P){W:af}(gl:Gl W)(pw:Pw W){V:HV}{b:Nat}(o:xX W b V)(w:kW V.bE)(hl:V.cS.length<=1000)(hV:V.bE=sO){ts:TS}(hlen:ts.length=158)(t1:slot ts 1=.ptr b 0)(he:Ext h W):
  WC P cB (Hu 3) [] ts W (FQ [(0,none)] λv k=>Ext h k/\v=.bool true):=by
 unfold Hu fn15 gA;simp only[an.j,an.s,an.r,an.dr,an.tl,an.hd];refine Rs t1 ?_;refine WF.res T.c44 (r44 T o w hl) ?_;rintro sv g1 ⟨L,hL,oL⟩;rw[hV]at hL;have Tb:L.length=18:=by have:=UM List.length hL;rw[Uv,GS]at this;exact this
 have hsh:∀x∈L,x.ev.names.length<=2^30/\x.ev.ba.length<=2^30:=λx hx=>by
  obtain⟨d,we⟩:=w.ev x.ev (by rw[hV,<-hL];exact UP hx);have h3:(aC d).length<=3/\a8 d<=3:=by cases d<;>decide
  have:=we.nl;have:=we.vl;exact⟨Om,Om⟩
 have sh:D8 L:=⟨Om,hsh⟩;have d18:decide ((L.length:Int)≠18)=false:=Uh (λz=>z Om);obtain⟨s5,e5,h5⟩:=oL.sl.Iw (lo:=none) (hi:=some (.i 5)) (l:=0) (u:=5) (kH (k:=5) Om);have h5':aB (W++g1) s5 5 ((L.take 5).map EV.row):=h5;have o5:fB (W++g1) (L.take 5) s5:=⟨h5',λx hx=>oL.all x (Vi hx)⟩;have sh5:D8 (L.take 5):=⟨by rw[U6];omega,λx hx=>hsh x (Vi hx)⟩;have m5:(L.take 5).map EV.ev=sO.cS.take 5:=by rw[List.map_take,hL]
 refine Rs (A4 t1 oL.sl.aS @d18 e5) ?_;refine WF.ce T.c16 (r16 T o5 sh5 (gl.ext Xx) [115,49] 12) λg2=>?_
 rw[m5,Bo];refine Rs t1 ?_;refine WF.ce T.c16 (r16 T (oL.ext Xx) sh (gl.ext Xx) [115,49] 105) λg3=>?_
 rw[hL,Bn];refine Rs t1 ?_;refine WF.res T.c17 (r17 T (oL.ext Xx) sh (gl.ext Xx) 106) ?_;rintro _ g4 ⟨su,rfl,hu⟩;rw[hL,GO]at hu ⊢;refine Rs t1 ?_;refine WF.res T.c51 (r51 T (oL.ext Xx) sh (gl.ext Xx) [109,51]) ?_;rintro _ g5 ⟨sn,rfl,hn⟩;rw[hL,Dx]at hn ⊢;refine Rs t1 ?_;refine WF.ce T.c27 (r27 T (bN [5,6,7]) De) λg6=>?_
 rw[GU];refine Rs t1 ?_;refine WF.res T.c26 (r26 T (oL.ext Xx) sh (gl.ext Xx) [108,49]) ?_;rintro _ g7 ⟨ss,Ls,rfl,os,hLs⟩;rw[hL]at hLs ⊢;have hLsl:Ls.length=8:=by have:=UM List.length hLs;rw[Uv,uH.1]at this;exact this
 rw[uH.2];refine Rs t1 ?_;refine WF.ce T.c45 (r45 T Z (pw.ext Xx) (o.ext Xx) w hl) λg8=>?_
 rw[hV];have hlg:=GR;have hrc:=GQ;generalize gm sO.cS=lg at hlg hrc ⊢;have bc:=dL (show lg.length+([49] :By).length<2^62 by simp only[Ui,Ul];omega);refine Rs (A2 t1 @bc) ?_;refine WF.res T.c37 (r37 T X Z (pw.ext Xx) (lg++[49]) (by rw[Ud];simp only[Ui,Ul];omega)) ?_;rintro _ g9 ⟨Lr,sr,hLr,rfl,fr,-⟩;have hLrl:Lr.length=18:=by have:=UM List.length hLr;rw[Uv,hrc.2.1]at this;exact this
 rw[hrc.1,hrc.2.2];have d8:decide ((Ls.length:Int)=8)=true:=Uk Om;have d19:decide ((Lr.length:Int)=18)=true:=Uk Om;have wz:IntKind.i64.wrap ((0:Int)+0)=0:=rfl;have z0:decide ((0:Int)=0)=true:=rfl;refine Rs (A5 t1 @wz @z0 @UF @US) ?_;refine WF.res T.c25 (r25 T (L:=[[115,49],[115,50]]) (M:=[[115,49],[115,50]]) ?hu (tX (M:=[[115,49],[115,50]])) De De) ?_
 case hu=>exact hu.ext Xx
 rintro _ k1 rfl;have q1:decide (([[115,49],[115,50]] :List (By))=[[115,49],[115,50]])=true:=rfl;have q2:decide (([[109,49],[109,50],[109,51]] :List (By))=[[109,49],[109,50],[109,51]])=true:=rfl;rw[q1];refine Rs (A2 t1 @US) ?_;refine WF.res T.c25 (r25 T (L:=[[109,49],[109,50],[109,51]]) (M:=[[109,49],[109,50],[109,51]]) ?hn (tX (M:=[[109,49],[109,50],[109,51]])) De De) ?_
 case hn=>exact hn.ext Xx
 rintro _ k2 rfl;rw[q2];have q3:decide ((529174:Int)=529174)=true:=rfl;have q4:decide ((28:Int)=28)=true:=rfl;have q5:decide ((lg.length:Int)=(lg.length:Int))=true:=Uk rfl;refine Rs (A9 t1 q3 q4 q5 @d8 @d19 os.sl.aS fr.aM.aS @US) ?_;refine WF.ce T.c72 (r72 T [49,49] De) λk3=>?_
 have q6:decide (([48,49,51,49,53,56,49] :By)=[48,49,51,49,53,56,49])=true:=Uk rfl;rw[GP];refine Rs (A3 t1 q6 @US) ?_;exact⟨he.trans Xx,trivial⟩
def r15(X:yR P)(Z:nJ P)(gl:Gl h)(pw:Pw h):ak P 15 [] h (λv _=>v=.bool true):=by
 refine .of T.mix (Eq.trans T.c15 (UM some JT)) ?_;obtain⟨ts,Ol⟩:∃ts,ts=aQ 158 []:=⟨_,rfl⟩;have hlen:ts.length=158:=by rw[Ol];rfl
 obtain⟨RR,Pa⟩:∃RR,RR=Hu 3:=⟨_,rfl⟩;show WC P cB _ [] (aQ 158 []) h (FQ _ _);rw[<-Ol,<-Pa];clear Ol;unfold Dv Hu fn15 gA;simp only[an.j,an.s,an.r,an.dr,an.tl,an.hd];refine Rs @hlen ?_;refine WF.res T.c70 (r70 T) ?_;rintro _ g0 ⟨rfl,hg⟩;have hg:g0=[.b [.ah,.ah,.ah]]:=V4 hg;subst hg;refine Rs @hlen ?_;refine WF.gen T.c71 (JZ T (B:=h) (V:=V0) (b:=h.length) (L:=Hv) (H':=sO) Xx (Ka.app _) kW.zero gl pw X Z (Fr.push (N:=0) (h:=h++[ai.b [.ah,.ah,.ah]]) (es:=3) (UK _) (Hv.map qG) (λx hx=>by obtain⟨y,_,rfl⟩:=UI.1 hx;rfl)).aM (λj hj hx=>by
  have:=Kb j hx;have e:(h++[ai.b [.ah,.ah,.ah]]).length=j:=Vc hj;rw[Ud]at e;simp at e;omega) De De Dw) ?_
 rintro _ _ ⟨rfl,g',V',rfl,oV,hV,wV,hVl⟩;refine Rs (A2 @hlen @UA) ?_;rw[Pa];exact MC T X Z (gl.ext ⟨_,rfl⟩) (pw.ext ⟨_,rfl⟩) oV.rd wV hVl hV (Sq @hlen) (Sq @hlen) ⟨_,rfl⟩
end
def vJ:Go.Proofs.Tryz.prog.globals.size=9:=by kernel_rfl
def CX:CY Go.Proofs.Tryz.prog 2=20:=by kernel_rfl
open Go.RowKit in
def CQ{h:af}{n:Int}(h0:-9223372036854775808<=n)(h1:n<=9223372036854775807){mu tl:Bool}(hb:h[2]? =some (.cells (Lib.pow10Tab.map (AV.int .u64)) mu tl)):
  ke Go.Proofs.Tryz.prog 113 [.int .i64 n] h (.str (Lib.itoa n)) h:=by
 intro m w vs hr ha;obtain⟨v,vs1,rfl,hv,hr1⟩:=aF.1 ha;rw[aT]at hr1;subst hr1;rw[VR]at hv;subst hv;obtain⟨e,he,hcb,hd,-,dO⟩:=hr.fG 2 (by rw[vJ];omega);obtain⟨cc,el,fz,hw,⟨hle,Qz,hsz2⟩,Ov,-,-⟩:=hr.dU 2 e _ he hb;have htab:Lib.TabIs Go.Proofs.Tryz.prog w "internal/strconv.uint64pow10" .u64 Lib.pow10Tab:=by
  unfold Lib.TabIs World.var?;rw[Go.Proofs.Tryz.wU.m17];show(match w.heap[2]? with|some (.cells cs _ _)=>some cs|_=>none)=_;rw[hcb]at hw;rw[hw];have h20:cc.size=20:=by rw[hsz2,dO,CX]
  refine UM some (Array.ext_getElem? λi=>?_);by_cases hi:i<20
  ·have hl:i<Lib.pow10Tab.length:=by rw[Lib.pow10Tab_length];exact hi
   obtain⟨_,cv,P4,Ok⟩:=Ov i (.int .u64 Lib.pow10Tab[i]) (by rw[Vw,Uj hl];rfl);rw[VR]at Ok;rw[hd,UX]at P4;rw[P4,Ok,VF,Vw,Uj hl];rfl
  ·rw[VP Om,VP (by rw[List.size_toArray,Uv,Lib.pow10Tab_length];omega)]
 refine(Go.Proofs.Any.strconv_Itoa Go.Proofs.Tryz.wU n h0 h1 w htab).mono ?_;rintro e' w' ⟨rfl,k,os,rfl⟩;have hh:∀i,i<w.heap.size->(Go.Sort.grow (w.drewN k) os).heap[i]? =w.heap[i]? :=λi hi=>by
  show(w.heap++os)[i]? =_;rw[Array.getElem?_append_left hi]
 have hs:w.heap.size<=(Go.Sort.grow (w.drewN k) os).heap.size:=by
  show w.heap.size<=(w.heap++os).size;simp
 exact⟨_,m,rfl,rfl,⟨hr.cD,λb' e' k' a1 a2=>(hr.dU b' e' k' a1 a2).heap (hh _ (hr.lt b' e' a1)),hr.sep,hr.fG,λb' e' a1=>Vg (hr.lt b' e' a1) hs⟩,
  ⟨λ_ _=>rfl,Uq _,λb' e' a1 a2=>absurd (hr.cD b' e' a2) Om,λ_ _ x=>x,hs,rfl,rfl,rfl,λi hi _=>hh i hi⟩⟩
theorem qu:∀xs:List (By),(xs.map λx=>[AV.str x]).flatten=xs.map AV.str
 |[]=>rfl
 |x::xs=>by rw[Vl,Vj,qu xs];rfl
def aB.inv{h:af}{b o n e es:Nat}{cs:List (List AV)}(hs:aB h (.slice b o n e) es cs):n=cs.length/\∃c mu tl,h[b]? =some (.cells c mu tl)/\(c.drop o).take (cs.length*es)=cs.flatten:=by
 generalize hx:AV.slice b o n e=x at hs;cases hs with
 |nil=>cases hx
 |mk hb hf ho he=>cases hx;exact⟨rfl,_,_,_,hb,hf⟩
open Go.RowKit in
def CP{h:af}{s:AV}{sep:By}{xs:List (By)}(hs:aB h s 1 (xs.map λx=>[AV.str x]))(hl:(Lib.join xs sep).length<=140737488355328/\xs.length<=140737488355328):ke Go.Proofs.Tryz.prog 114 [s,.str sep] h (.str (Lib.join xs sep)) h:=by
 intro m w vs hr hargs;obtain⟨v1,vs1,rfl,R0,hr1⟩:=aF.1 hargs;obtain⟨v2,vs2,rfl,Rq,PW⟩:=aF.1 hr1;rw[aT]at PW;subst PW;rw[VR]at Rq;subst Rq;have fin:∀e w',(e=.returned (.string ⟨(Lib.join xs sep).toArray⟩)/\Below w.heap.size w w')->Rel Go.Proofs.Tryz.prog m h w (.str (Lib.join xs sep)) h e w':=by
  rintro e w' ⟨rfl,hb⟩;exact⟨_,m,rfl,rfl,⟨hr.cD,λb e k h1 h2=>(hr.dU b e k h1 h2).heap (hb.block _ (hr.lt b e h1)),hr.sep,hr.fG,λb e h1=>Vg (hr.lt b e h1) hb.size⟩,
   ⟨λ_ _=>rfl,Uq _,λb e h1 h2=>absurd (hr.cD b e h2) Om,λ_ _ h=>h,hb.size,hb.os,hb.output,hb.tape,λi hi _=>hb.block i hi⟩⟩
 have zero:xs=[]->∀(a:Option Addr) (c:Nat),Calls Go.Proofs.Tryz.prog 114 #[.slice a 0 c,.string ⟨⟨sep⟩⟩] w (Rel Go.Proofs.Tryz.prog m h w (.str (Lib.join xs sep)) h):=λhx a c=>by
  refine(Go.Proofs.Tryz.strings_Join_none a c ⟨⟨sep⟩⟩ w).mono λe w' ⟨he,hw⟩=>fin e w' ⟨?_,hw▸Below.refl _ _⟩
  rw[he,hx];rfl
 have hlen:=hs.aS (λ_=>none);cases s with
 |ah=>
  rw[VR]at R0;subst R0;simp only[Go.Abs.iC,UD,UG]at hlen;exact zero (Vd.1 hlen.symm) none 0
 |slice b o n es=>
  simp only[Go.Abs.iC,UD,UG]at hlen;subst hlen;rw[VR]at R0;obtain⟨ent,ca,cap,he,rfl,hcap,OW,dO⟩:=R0;by_cases hz:xs.length=0
  ·have hz':=Vd.1 hz;have:=zero hz' (some ca) cap;rw[hz];exact this
  ·have hca':=OW Om;subst hca';generalize Qp:xs.map (λx=>[AV.str x])=cs at hs;have hcl:cs.length=xs.length:=by rw[<-Qp];simp
   obtain⟨_,c,mu,tl,hb,hf⟩:=hs.inv
   ·obtain⟨cc,el,fz,hheap,_,O6,_⟩:=hr.dU b ent _ he hb;have key:=Go.Proofs.Tryz.strings_Join ent.cb (o+ent.d) cap (xs.map λl=>⟨⟨l⟩⟩) ⟨⟨sep⟩⟩ w ?_ (hr.lt b ent he) (by rw[Uv];exact hl.2) (by rw[Uv];omega) ?_
    ·rw[Uv]at key;refine key.mono λe w' ⟨he,hw⟩=>fin e w' ⟨?_,hw⟩
     rw[he,Wl];simp[WJ]
    ·intro j x hx;rw[Vw,Uz]at hx;obtain⟨l,OJ,rfl⟩:=hx;have hj:j<xs.length:=(Ue.1 OJ).1;have S2:cs.flatten[j]? =some (.str l):=by
      rw[<-Qp];have:=qu xs;rw[this,Vw,OJ];rfl
     rw[<-hf,List.getElem?_take,Ut Om,Wv]at S2;obtain⟨_,cv,P4,Ok⟩:=O6 _ _ S2;rw[VR]at Ok;subst Ok;simp only[World.cell?,hheap,Option.isSome_none,U3,UC];rw[show o+ent.d+j=ent.d+(o+j) by omega];exact P4
    ·rw[Wl]
     simpa [WJ]using hl.1
 |_=>cases hs
open Go.RowKit in
def qB{P:Program}{m:bH}{h:af}{w:World}(hr:HR P m h w){a:AV}{v:Value}{e:Ending}{w':World}(hv:VR m a v)(he:e=.returned v)(hb:Below w.heap.size w w'):Rel P m h w a h e w':=
 ⟨v,m,he,hv,⟨hr.cD,λb e k h1 h2=>(hr.dU b e k h1 h2).heap (hb.block _ (hr.lt b e h1)),hr.sep,hr.fG,λb e h1=>Vg (hr.lt b e h1) hb.size⟩,
  ⟨λ_ _=>rfl,Uq _,λb e h1 h2=>absurd (hr.cD b e h2) Om,λ_ _ h=>h,hb.size,hb.os,hb.output,hb.tape,λi hi _=>hb.block i hi⟩⟩
theorem od:∀{s:By}{a:Nat},s.all cj=true->∃n,Lib.decFrom a s=some n/\(n:Int)=s.foldl (λn c=>10*n+((c.toNat:Int)-48)) (a:Int)
 |[],a,_=>⟨a,rfl,rfl⟩
 |c::s,a,h=>by
  simp only[VJ,UH]at h;have hc:=dx.1 h.1;have hd:Lib.digitVal c=some (c.toNat-48):=by unfold Lib.digitVal;rw[Ut hc]
  obtain⟨n,h1,h2⟩:=od (s:=s) (a:=a*10+(c.toNat-48)) h.2;refine⟨n,by rw[Lib.decFrom,hd];exact h1,?_⟩;rw[h2,W9];congr 1;omega
def Bq{s:By}(h:s.all cj=true)(hn:s≠[]):Lib.atoi s=some (gI s):=by
 obtain⟨n,h1,h2⟩:=od (a:=0) h;cases s with
 |nil=>exact absurd rfl hn
 |cons c r=>
  have hc:=dx.1 (by simp only[VJ,UH]at h;exact h.1);have n1:(c==45)=false:=by
   exact z159
  have n2:(c==43)=false:=by
   exact z159
  rw[Lib.atoi,n1,n2,Ur De,Ur De,Lib.decNat,Ur Si,h1,V6,h2];rfl
open Go.RowKit in
def Dy{h:af}{s:By}(hd:s.all cj=true)(hn:s≠[])(hl:s.length<=9):ke Go.Proofs.Tryz.prog 254 [.str s] h (.dt [.int .i64 (gI s),.ju]) h:=by
 intro m w vs hr ha;obtain⟨v,vs1,rfl,hv,hr1⟩:=aF.1 ha;rw[aT]at hr1;subst hr1;rw[VR]at hv;subst hv;refine(Go.Proofs.Any.strconv_Atoi Go.Proofs.Tryz.CE ⟨⟨s⟩⟩ (gI s) (by show s.length<=18;omega) (Bq hd hn) w).mono ?_;rintro e' w' ⟨rfl,t,rfl⟩;exact qB hr ⟨_,rfl,aF.2 ⟨_,_,rfl,rfl,aF.2 ⟨_,_,rfl,rfl,rfl⟩⟩⟩ rfl (Lib.bytesWorld_below _ _ _)
open Go.RowKit in
def FA{h:af}{n:Nat}(hn:n<=7):ke Go.Proofs.Tryz.prog 252 [.str [48],.int .i64 (n:Nat)] h (.str (List.replicate n 48)) h:=by
 intro m w vs hr ha;obtain⟨v1,vs1,rfl,R0,hr1⟩:=aF.1 ha;obtain⟨v2,vs2,rfl,Rq,PW⟩:=aF.1 hr1;rw[aT]at PW;subst PW;have R0:v1=.string ⟨⟨[48]⟩⟩:=R0;have Rq:v2=.int .i64 (n:Int):=Rq;subst R0;subst Rq;have hs:(⟨⟨[48]⟩⟩:ByteArray).size=1:=rfl;refine(Go.Proofs.Any.strings_Repeat Go.Proofs.Tryz.CF Go.Proofs.Tryz.mX ⟨⟨[48]⟩⟩ n w Om (by rw[hs];omega)).mono ?_;rintro e' w' ⟨rfl,hb⟩;have er:Lib.repeatL [48] n=List.replicate n 48:=by
  have:=Lib.repeatL_replicate 48 1 n;rw[Wp]at this;exact this
 refine qB (v:=.string ⟨(Lib.repeatL [48] n).toArray⟩) hr ?_ rfl hb;show Value.string ⟨(Lib.repeatL [48] n).toArray⟩=.string ⟨⟨List.replicate n 48⟩⟩;rw[er]
def NJ:nJ Go.Proofs.Tryz.prog:=by
 refine⟨λh0 h1 w=>?_,λhs hl=>⟨_,[],by rw[UE];exact CP hs hl,rfl⟩,λh1 h2 h3=>⟨_,[],by rw[UE];exact Dy h1 h2 h3,rfl⟩,λh1=>⟨_,[],by rw[UE];exact FA h1,rfl⟩⟩;obtain⟨mu,tl,hb⟩:=w;exact⟨_,[],by rw[UE];exact CQ h0 h1 hb,rfl⟩
def NC:yR Go.Proofs.Tryz.prog:=
 ⟨run_callFunc_extern Go.Proofs.Tryz.func288 (by kernel_rfl) (by kernel_rfl) (by kernel_rfl) (by kernel_rfl),run_callFunc_extern Go.Proofs.Tryz.func262 (by kernel_rfl) (by kernel_rfl) (by kernel_rfl) (by kernel_rfl)⟩
open Go.ChangeShapes Go.WideShapes Go.Deep
inductive CT where
 |int (k:IntKind)
 |bool
 |str
 |sl (row:List CT)
def j8(P:Program)(f:TypeId->Option (List CT)):List Field->Nat->Option (List CT)
 |[],_=>some []
 |x::r,o=>
  match f x.type with
  |some a=>
   if x.offset=o/\a.length=P.cellsOf x.type then
    match j8 P f r (o+a.length)with
    |some b=>some (a++b)
    |none=>none
   else none
  |none=>none
def yE(P:Program):Nat->TypeId->Option (List CT)
 | 0,_=>none
 |n+1,t=>
  match P.underlying t with
  |some (.int k)=>some [.int k]
  |some .bool=>some [.bool]
  |some .string=>some [.str]
  |some (.slice e)=>
   match yE P n e with
   |some r=>if r.length=P.cellsOf e/\0<r.length then some [.sl r]else none
   |none=>none
  |some (.struct fs)=>
   match j8 P (yE P n) fs.toList 0 with
   |some r=>if r.length=P.cellsOf t then some r else none
   |none=>none
  |_=>none
mutual
def TY(h:af):CT->AV->Prop
 |.int k,a=>∃z,a=.int k z/\(Lit.int k z).wf=true
 |.bool,a=>∃b,a=.bool b
 |.str,a=>∃s:By,a=.str s/\s.length<=maxLen
 |.sl r,a=>∃cs:List (List AV),aB h a r.length cs/\cs.length<=maxLen/\∀c∈cs,gW h r c
def gW(h:af):List CT->List AV->Prop
 |[],l=>l=[]
 |t::ts,l=>∃a l',l=a::l'/\TY h t a/\gW h ts l'
end
mutual
theorem TY.ext{h k}(e:Ext h k):∀{t}{a},TY h t a->TY k t a
 |.int _,a,x=>x
 |.bool,a,x=>x
 |.str,a,x=>x
 |.sl r,a,x=>by
  rw[TY]at x ⊢;obtain⟨cs,h1,h2,h3⟩:=x;exact⟨cs,h1.ext e,h2,λc hc=>gW.ext e (h3 c hc)⟩
theorem gW.ext{h k}(e:Ext h k):∀{ts}{l},gW h ts l->gW k ts l
 |[],l,x=>x
 |t::ts,l,x=>by
  rw[gW]at x ⊢;obtain⟨a,l',h1,h2,h3⟩:=x;exact⟨a,l',h1,TY.ext e h2,gW.ext e h3⟩
end
theorem TY.one{h}:∀{t}{a},TY h t a->a.one=true
 |.int _,a,x=>by rw[TY]at x;obtain⟨z,rfl,_⟩:=x;rfl
 |.bool,a,x=>by rw[TY]at x;obtain⟨z,rfl⟩:=x;rfl
 |.str,a,x=>by rw[TY]at x;obtain⟨z,rfl,_⟩:=x;rfl
 |.sl r,a,x=>by rw[TY]at x;obtain⟨z,h1,_⟩:=x;exact h1.one
theorem gW.one{h}:∀{ts}{l},gW h ts l->l.all AV.one=true
 |[],l,x=>by rw[gW]at x;subst x;rfl
 |t::ts,l,x=>by
  rw[gW]at x;obtain⟨a,l',rfl,h1,h2⟩:=x;rw[VJ,h1.one,gW.one h2];rfl
theorem gW.length{h}:∀{ts}{l},gW h ts l->l.length=ts.length
 |[],l,x=>by rw[gW]at x;subst x;rfl
 |t::ts,l,x=>by
  rw[gW]at x;obtain⟨a,l',rfl,h1,h2⟩:=x;rw[Ui,Ui,gW.length h2]
theorem gW.append{h}:∀{ts us}{l m},gW h ts l->gW h us m->gW h (ts++us) (l++m)
 |[],us,l,m,x,y=>by rw[gW]at x;subst x;exact y
 |t::ts,us,l,m,x,y=>by
  rw[gW]at x;obtain⟨a,l',rfl,h1,h2⟩:=x;show gW h (t:: (ts++us)) (a:: (l'++m));rw[gW];exact⟨a,_,rfl,h1,gW.append h2 y⟩
def fS(E:List qn):bH:=λb=>E[b]?
def jj(E F:List qn):(fS E).le (fS (E++F)):=λb e hb=>by
 unfold fS at hb ⊢;rw[Ug (Ue.1 hb).1];exact hb
structure AW(P:Program)(w:World)(E:List qn)(B:af):Prop where
 len:E.length=B.length
 own:∀(b:Nat) e,E[b]? =some e->e.own=false/\e.cb<w.heap.size
 dU:∀(b:Nat) e k,E[b]? =some e->B[b]? =some k->BR P (fS E) w e k/\(k=.dead\/∃c,k=.cells c false false)
 fG:∀g,g<P.globals.size->∃e,E[g]? =some e/\e.cb=g/\e.d=0/\e.own=false/\e.sz=CY P g
variable {P:Program}{w:World}{E:List qn}{B:af}
def AW.hr(a:AW P w E B):HR P (fS E) B w where
 cD:=λb e hb=>by rw[<-a.len];exact(Ue.1 hb).1
 dU:=λb e k hb hk=>(a.dU b e k hb hk).1
 sep:=λb1 b2 e1 e2 k1 k2 _ h1 h2 hk1 Oi _=>by
  rcases(a.dU b1 e1 k1 h1 hk1).2 with rfl|⟨c1,rfl⟩
  ·cases k2<;>trivial
  ·rcases(a.dU b2 e2 k2 h2 Oi).2 with rfl|⟨c2,rfl⟩
   ·trivial
   ·exact⟨rfl,rfl,λx=>by cases x⟩
 fG:=a.fG
 lt:=λb e hb=>(a.own b e hb).2
def AW.push(a:AW P w E B){e k}(ho:e.own=false)(hlt:e.cb<w.heap.size)(hb:BR P (fS E) w e k)(hk:k=.dead\/∃c,k=.cells c false false):AW P w (E++[e]) (B++[k]) where
 len:=by simp[a.len]
 own:=λb e' h=>by
  by_cases hlb:b<E.length
  ·rw[Ug hlb]at h;exact a.own b e' h
  ·have:=(Ue.1 h).1;simp at this;have:b=E.length:=Om
   subst this;simp at h;subst h;exact⟨ho,hlt⟩
 dU:=λb e' k' h h'=>by
  by_cases hlb:b<E.length
  ·rw[Ug hlb]at h;rw[Ug (by rw[<-a.len];exact hlb)]at h';exact⟨(a.dU b e' k' h h').1.mono (jj E [e]),(a.dU b e' k' h h').2⟩
  ·have:=(Ue.1 h).1;simp at this;have Pz:b=E.length:=Om
   have hbb:b=B.length:=by rw[Pz,a.len]
   rw[Pz]at h;rw[hbb]at h';simp at h h';subst h;subst h';exact⟨hb.mono (jj E [e]),hk⟩
 fG:=λg hg=>by
  obtain⟨e',h1,h2⟩:=a.fG g hg;exact⟨e',jj E [e] g e' h1,h2⟩
def Laid(P:Program)(w:World)(E:List qn)(B:af)(row:List CT)(cs:List Value):Prop:=
 ∃F C ax,AW P w (E++F) (B++C)/\cw (fS (E++F)) ax cs/\gW (B++C) row ax
def Laid.app{row row2 cs QR}(h1:Laid P w E B row cs)(h2:∀F C,AW P w (E++F) (B++C)->Laid P w (E++F) (B++C) row2 QR):Laid P w E B (row++row2) (cs++QR):=by
 obtain⟨F,C,ax,a1,a2,a3⟩:=h1;obtain⟨F',C',ax',b1,b2,b3⟩:=h2 F C a1;refine⟨F++F',C++C',ax++ax',by rw[<-Uf,<-Uf];exact b1,?_,?_⟩
 ·rw[<-Uf];exact(cw.mono (jj _ _) _ _ a2).append b2
 ·rw[<-Uf];exact gW.append (a3.ext ⟨C',rfl⟩) b3
def AG(a:AW P w E B):Laid P w E B [] []:=⟨[],[],[],by simpa using a,by rw[aT],rfl⟩
def ml(a:AW P w E B){t x v}(hv:VR (fS E) x v)(ht:TY B t x):Laid P w E B [t] [v]:=
 ⟨[],[],[x],by simpa using a,by simpa using aF.2 ⟨v,[],rfl,hv,by rw[aT]⟩,by
  rw[UE,gW];exact⟨x,[],rfl,ht,rfl⟩⟩
section
variable {H:Type}{enc:TypeId×Value->H}{base:Nat}{held:Bool}
theorem qS{es:Nat}{r:List CT}{a:Addr}{m:Nat}(row:∀i,i<m->∃cs,w.cells? base (a.add (i*es)) es=some cs/\∀E B,AW P w E B->Laid P w E B r cs):∀(k:Nat) {E:List qn}{B:af},k<=m->AW P w E B->
  ∃(F:List qn) (C:af) (rows:List (List AV)) (VL:List Value),AW P w (E++F) (B++C)/\rows.length=k/\cw (fS (E++F)) rows.flatten VL/\(∀c∈rows,gW (B++C) r c)/\VL.length=k*es/\∀i,i<k*es->w.cell? (a.add i)=VL[i]?
 | 0,E,B,_,aw=>⟨[],[],[],[],by rw[UE,UE];exact aw,rfl,rfl,λc hc=>by(cases hc),by rw[Wk];rfl,λi hi=>by rw[Wk]at hi;exact absurd hi (Nat.not_lt_zero _)⟩
 |k+1,E,B,hkm,aw=>by
  obtain⟨F,C,rows,VL,h1,h2,h3,h4,h5,h6⟩:=qS row k Om aw;obtain⟨cs,Qp,hl⟩:=row k Om;obtain⟨F',C',ax,a1,a2,a3⟩:=hl _ _ h1;obtain⟨_,hlen,O6⟩:=World.cells?_some Qp;refine⟨F++F',C++C',rows++[ax],VL++cs,by rw[<-Uf,<-Uf];exact a1,by rw[Ud,h2];rfl,?_,?_,by rw[Ud,h5,hlen,Vv],?_⟩
  ·rw[<-Uf,VG];refine(cw.mono (jj _ _) _ _ h3).append ?_;have:[ax].flatten=ax:=Si
   rw[this];exact a2
  ·intro c S6;rw[<-Uf];rcases Um.1 S6 with hm|hm
   ·exact(h4 c hm).ext ⟨C',rfl⟩
   ·rw[Uw]at hm;subst hm;exact a3
  ·intro i hi;rw[Vv]at hi;by_cases hlt:i<k*es
   ·rw[h6 i hlt,Ug Om]
   ·rw[Un Om,h5,<-O6 (i-k*es) Om,add_add,show k*es+(i-k*es)=i by omega]
theorem n7{f:TypeId->Option (List CT)}{cs:List Value}:∀(l:List Field) (o:Nat) {row:List CT},j8 P f l o=some row->
  (∀x∈l,∀a,f x.type=some a->∀E B,AW P w E B->Laid P w E B a ((cs.drop x.offset).take (P.cellsOf x.type)))->∀E B,AW P w E B->Laid P w E B row ((cs.drop o).take row.length)
 |[],o,row,h,_,E,B,aw=>by
  unfold j8 at h;cases h;rw[Ul,Wf];exact AG aw
 |x::l,o,row,h,hf,E,B,aw=>by
  unfold j8 at h;split at h
  case h_2=>cases h
  rename_i a ha;split at h
  case isFalse=>cases h
  rename_i hc;split at h
  case h_2=>cases h
  rename_i b hb;cases h;have h1:=hf x (U4 ..) a ha E B aw;rw[hc.1,<-hc.2]at h1;rw[Ud,List.take_add,VH];exact h1.app λF C aw'=>n7 l _ hb (λy hy=>hf y (UL _ hy)) _ _ aw'
theorem gS(hz:∃(z:Nat) (cc:Array Value) (el:TypeId) (fz:Nat×Nat),w.heap[z]? =some (Obj.cells cc el fz)):∀(n:Nat) (t:TypeId) (row:List CT),yE P n t=some row->∀(fuel:Nat) (cs:List Value) (x:DataW H×List MemPlace),
  DataW.trod enc P w base (λ_=>true) held fuel t cs=some x->∀E B,AW P w E B->Laid P w E B row cs
 | 0,t,row,h,_,_,_,_,_,_,_=>by cases h
 |n+1,t,row,h,fuel,cs,x,ht,E,B,aw=>by
  unfold yE at h;split at h
  ·rename_i k hu;cases h;obtain⟨z,rfl,_,hwf⟩:=DataW.trod_int hu ht;exact ml aw (x:=.int k z) (by rw[VR]) (by rw[TY];exact⟨z,rfl,hwf⟩)
  ·rename_i hu;cases h;obtain⟨b,rfl,_⟩:=DataW.trod_bool hu ht;exact ml aw (x:=.bool b) (by rw[VR]) (by rw[TY];exact⟨b,rfl⟩)
  ·rename_i hu;cases h;obtain⟨s,rfl,_,hs⟩:=DataW.trod_string hu ht;refine ml aw (x:=.str s.data.toList) (by rw[VR]) (by rw[TY];exact⟨_,rfl,by simpa using hs⟩)
  ·rename_i e hu;split at h
   case h_2=>cases h
   rename_i r hr;split at h
   case isFalse=>cases h
   rename_i hc;cases h;obtain⟨Po,hpos⟩:=hc;rcases open_slice hu ht with⟨rfl,_⟩|⟨a,len,cap,m,n',D,Pl,rfl,hb,hl,hm,Sl,_,hx⟩
   ·exact ml aw (x:=.ah) (by rw[VR]) (by rw[TY];exact⟨[],.nil,UK _,λc hc=>by cases hc⟩)
   simp only[UD]at Sl;subst Sl;rw[<-Po]at hx;by_cases hcap:m=0
   ·have OE:len=0:=Om
    subst OE;subst hcap;obtain⟨z,cc,el,fz,Tz⟩:=hz;have h0lt:z<w.heap.size:=(Uu.1 Tz).1;have hbr:BR P (fS E) w ⟨z,0,cc.size,false⟩ (.cells [] false false):=
     ⟨cc,el,fz,Tz,⟨UK _,UK _,rfl⟩,λi x hx=>by(rw[List.getElem?_nil]at hx;cases hx),⟨λx=>absurd x Wd,λx=>by rcases x with x|x<;>exact absurd x Wd⟩⟩
    have aw2:=aw.push (e:=⟨z,0,cc.size,false⟩) (k:=.cells [] false false) rfl h0lt hbr (.inr ⟨[],rfl⟩);refine⟨[⟨z,0,cc.size,false⟩],[.cells [] false false],[.slice B.length 0 0 r.length],aw2,?_,?_⟩
    ·refine aF.2 ⟨_,[],rfl,?_,by rw[aT]⟩;rw[VR];exact⟨⟨z,0,cc.size,false⟩,a,0,by unfold fS;rw[<-aw.len];simp,rfl,Uq _,λx=>absurd x Om,by rw[Wk];exact UK _⟩
    ·rw[gW];refine⟨_,[],rfl,?_,by rw[gW]⟩;rw[TY];refine⟨[],?_,UK _,λc hc=>by cases hc⟩;exact aB.mk (cs:=[]) (b:=B.length) (o:=0) (c:=[]) (mu:=false) (tl:=false) Si Si Si (λx hx=>by cases hx)
   ·obtain⟨cs0,h00,_⟩:=hx 0 Om;obtain⟨csl,PZ,_⟩:=hx (m-1) Om;obtain⟨_,OE,hc0⟩:=World.cells?_some h00;obtain⟨_,hlenl,hcl⟩:=World.cells?_some PZ;have O9:=hc0 0 hpos;have hlast:=hcl (r.length-1) Om;rw[add_add]at hlast;rw[add_add,Wk,W3]at O9;have ha0:a.add 0=a:=by unfold Addr.add;simp
    rw[ha0,Uj Om]at O9;unfold World.cell? at O9;split at O9
    case h_2=>cases O9
    rename_i cc el fz Qk;split at O9
    ·cases O9
    rename_i hspot;have RP:a=⟨a.block,a.off,none⟩:=by
     cases a with
     |mk b o s=>cases s with
      |none=>rfl
      |some s=>exact absurd rfl hspot
    have hadd:∀i,a.add i=⟨a.block,a.off+i,none⟩:=λi=>by
     unfold Addr.add;by_cases hi:i=0
     ·subst hi;rw[Ut rfl];exact RP
     ·rw[Ur hi]
    have QQ:∀i,w.cell? (a.add i)=cc[a.off+i]? :=λi=>by
     rw[hadd];unfold World.cell?;simp only[Qk,Option.isSome_none,U3,UC]
    have hmr:(m-1)*r.length+(r.length-1)+1=m*r.length:=by
     obtain⟨m',rfl⟩:∃m',m=m'+1:=⟨m-1,Om⟩;rw[Vv];simp only[Nat.add_sub_cancel];omega
    have dO:a.off+m*r.length<=cc.size:=by
     rw[QQ,Uj Om]at hlast;have:=(Uu.1 hlast).1;omega
    obtain⟨F,C,rows,VL,h1,h2,h3,h4,h5,h6⟩:=qS (P:=P) (w:=w) (base:=base) (es:=r.length) (r:=r) (a:=a) (m:=m)
     (λi hi=>by
      obtain⟨cs',q1,q2⟩:=hx i hi;exact⟨cs',q1,λE B aw=>gS hz n e r hr _ _ _ q2 E B aw⟩) len hl aw
    have O1:rows.flatten.length=len*r.length:=by rw[<-h5,h3.length]
    have hmul:len*r.length<=m*r.length:=Vf _ hl;have PT:∀c∈rows,c.length=r.length:=λc hc=>(h4 c hc).length
    have hone:∀x∈rows.flatten,x.one=true:=λx hx=>by
     obtain⟨c,hc,RZ⟩:=List.mem_flatten.1 hx;exact UJ.1 (h4 c hc).one x RZ
    have hlt:a.block<w.heap.size:=(Uu.1 Qk).1;have hbr:BR P (fS (E++F)) w ⟨a.block,a.off,cc.size,false⟩ (.cells rows.flatten false false):=
     ⟨cc,el,fz,Qk,⟨by rw[O1];show a.off+_<=_;omega,by rw[O1];show a.off+_<=cc.size;omega,rfl⟩,λi x hx=>by
       refine⟨hone x (U5 hx),?_⟩;obtain⟨v,hv,Ok⟩:=h3.get hx;have hi:i<len*r.length:=by rw[<-O1];exact(Ue.1 hx).1
       refine⟨v,?_,Ok⟩;show cc[a.off+i]? =some v;rw[<-QQ,h6 i hi,hv],⟨λx=>absurd x Wd,λx=>by rcases x with x|x<;>exact absurd x Wd⟩⟩
    have aw2:=h1.push (e:=⟨a.block,a.off,cc.size,false⟩) (k:=.cells rows.flatten false false) rfl hlt hbr (.inr ⟨_,rfl⟩);rw[Uf,Uf]at aw2;refine⟨F++[⟨a.block,a.off,cc.size,false⟩],C++[.cells rows.flatten false false],[.slice (B++C).length 0 len r.length],aw2,?_,?_⟩
    ·refine aF.2 ⟨_,[],rfl,?_,by rw[aT]⟩;rw[VR];refine⟨⟨a.block,a.off,cc.size,false⟩,a,m,?_,rfl,hl,λ_=>?_,?_⟩
     ·unfold fS;rw[<-h1.len,<-Uf,Un (Uq _),Vb];rfl
     ·show a=⟨a.block,0+a.off,none⟩;rw[UX];exact RP
     ·show 0+a.off+m*r.length<=cc.size;omega
    ·rw[gW];refine⟨_,[],rfl,?_,by rw[gW]⟩;rw[TY];refine⟨rows,?_,Om,λc hc=>?_⟩
     ·rw[<-h2];refine aB.mk (c:=rows.flatten) (mu:=false) (tl:=false) ?_ ?_ ?_ PT
      ·rw[<-Uf,Un (Uq _),Vb];rfl
      ·rw[VI,h2,<-O1,UU]
      ·rw[h2,O1];omega
     ·rw[<-Uf];exact(h4 c hc).ext ⟨_,rfl⟩
  ·rename_i fs hu;split at h
   case h_2=>cases h
   rename_i r hr;split at h
   case isFalse=>cases h
   rename_i hc;cases h;obtain⟨xs,n',rfl,rfl,hlen,hxl,hf⟩:=DataW.trod_struct hu ht;have:=n7 (P:=P) (w:=w) (cs:=cs) fs.toList 0 hr (λx hx a ha E B aw=>by
    obtain⟨i,hi⟩:=List.getElem?_of_mem hx;have hi':fs[i]? =some x:=by rw[<-VE];exact hi
    have hlt:i<xs.length:=by rw[hxl];exact(Uu.1 hi').1
    have h1:=hf i x hi';rw[Uj hlt]at h1;exact gS hz n x.type a ha _ _ _ h1 E B aw) E B aw
   rw[VI,hc,<-hlen,UU]at this;exact this
  ·cases h
inductive AT where
 |one (t:CT)
 |agg (r:List CT)
def EX(P:Program)(e:TypeId):Option CT:=
 match P.underlying e with
 |some (.int k)=>some (.int k)
 |some .string=>some .str
 |_=>none
def GX(P:Program)(n:Nat)(t:TypeId):Option AT:=
 match P.underlying t with
 |some (.struct _)=>
  match yE P n t with
  |some r=>some (.agg r)
  |none=>none
 |some (.int k)=>some (.one (.int k))
 |some .bool=>some (.one .bool)
 |some .string=>some (.one .str)
 |some (.slice _)=>
  match yE P n t with
  |some [c]=>some (.one c)
  |_=>none
 |some (.array m e)=>
  match EX P e with
  |some c=>if P.cellsOf e=1/\P.cellsOf t=m then some (.agg (List.replicate m c))else none
  |none=>none
 |_=>none
def rP{w r b0}{t e:TypeId}{m v}(ht:P.underlying t=some (.array m e))(h:Value.okWide P w r b0 t v):∃cs,v=.agg cs/\cs.size=P.cellsOf t:=by
 simp only[Value.okWide,ht]at h;obtain⟨cs,h1,h2,_⟩:=h;exact⟨cs,h1,h2⟩
theorem qJ{M B c}:∀(L:List Value),(∀i (hi:i<L.length),∃a,VR M a L[i]/\TY B c a)->∃l:List AV,cw M l L/\gW B (List.replicate L.length c) l
 |[],_=>⟨[],by rw[aT],by rw[Ul,WX,gW]⟩
 |v::L,h=>by
  obtain⟨a,e,hz⟩:=h 0 Si;obtain⟨l,h1,h2⟩:=qJ L λi hi=>h (i+1) (by simpa using hi)
  simp only[List.getElem_cons_zero]at e;refine⟨a::l,aF.2 ⟨_,_,rfl,e,h1⟩,?_⟩;rw[Ui,VT,gW];exact⟨_,_,rfl,hz,h2⟩
def rq(P:Program)(n:Nat):List TypeId->Option (List AT)
 |[]=>some []
 |t::ts=>
  match GX P n t,rq P n ts with
  |some a,some l=>some (a::l)
  |_,_=>none
def E1(h:af):AT->AV->Prop
 |.one t,a=>TY h t a
 |.agg r,a=>∃l,a=.agg l/\gW h r l
theorem E1.ext{h k}(e:Ext h k):∀{t}{a},E1 h t a->E1 k t a
 |.one _,_,x=>TY.ext e x
 |.agg _,_,⟨l,e1,x⟩=>⟨l,e1,gW.ext e x⟩
def ql(h:af):List AT->List AV->Prop
 |[],l=>l=[]
 |t::ts,l=>∃a l',l=a::l'/\E1 h t a/\ql h ts l'
def AH(hz:∃(z:Nat) (cc:Array Value) (el:TypeId) (fz:Nat×Nat),w.heap[z]? =some (Obj.cells cc el fz)){n}{t:TypeId}{at'}(h:GX P n t=some at'){v d ps}(ht:DataW.Trod enc P w base (λ_=>true) held t v d ps)
  {r}{b0}(ho:Value.okWide P w r b0 t v) (aw:AW P w E B):∃(F:List qn) (C:af) (a:AV),AW P w (E++F) (B++C)/\VR (fS (E++F)) a v/\E1 (B++C) at' a:=by
 obtain⟨fuel,ht⟩:=ht;unfold GX at h;split at h
 ·rename_i fs hu;split at h
  case h_2=>cases h
  rename_i r hr;cases h;obtain⟨cs,rfl,_⟩:=okWide_struct hu ho;obtain⟨F,C,ax,h1,h2,h3⟩:=gS hz n t r hr fuel _ _ ht E B aw;refine⟨F,C,.agg ax,h1,?_,ax,rfl,h3⟩;rw[VR];exact⟨_,rfl,h2⟩
 ·rename_i k hu;cases h;obtain⟨z,rfl⟩:=okWide_int hu ho;obtain⟨z',e,_,hwf⟩:=DataW.trod_int hu ht;cases e;exact⟨[],[],.int k z,by rw[UE,UE];exact aw,by rw[VR],by show TY _ _ _;rw[TY];exact⟨z,rfl,hwf⟩⟩
 ·rename_i hu;cases h;obtain⟨z,rfl⟩:=okWide_bool hu ho;exact⟨[],[],.bool z,by rw[UE,UE];exact aw,by rw[VR],by show TY _ _ _;rw[TY];exact⟨z,rfl⟩⟩
 ·rename_i hu;cases h;obtain⟨s,rfl⟩:=okWide_string hu ho;obtain⟨s',e,_,hs⟩:=DataW.trod_string hu ht;cases e;exact⟨[],[],.str s.data.toList,by rw[UE,UE];exact aw,by rw[VR],by show TY _ _ _;rw[TY];exact⟨_,rfl,by simpa using hs⟩⟩
 ·rename_i e hu;split at h
  case h_2=>cases h
  rename_i c hc;cases h;obtain⟨a,len,cap,rfl⟩:=okWide_slice hu ho;obtain⟨F,C,ax,h1,h2,h3⟩:=gS hz n t _ hc fuel _ _ ht E B aw;rw[gW]at h3;obtain⟨x,l',rfl,h4,h5⟩:=h3;rw[gW]at h5;subst h5;obtain⟨y,ys,e,h6,_⟩:=aF.1 h2;cases e;exact⟨F,C,x,h1,h6,h4⟩
 ·rename_i m e hu;split at h
  case h_2=>cases h
  rename_i c hk;split at h
  case isFalse=>cases h
  rename_i hc;cases h;obtain⟨cs,rfl,Qp⟩:=rP hu ho;obtain⟨xs,n',rfl,_,hlen,hxl,hf⟩:=DataW.trod_array hu ht;have hcl:(Value.agg cs).cells.toList=cs.toList:=rfl;rw[hcl]at hlen hf;rw[hc.2]at hlen;obtain⟨l,h1,h2⟩:=qJ (M:=fS E) (B:=B) (c:=c) cs.toList λi hi=>by
   have hi':i<xs.length:=Om
   have h3:=hf i Om;rw[hc.1,Wp,Uj hi',VC hi,VY,Wf]at h3;unfold EX at hk;split at hk
   ·rename_i k hk';cases hk;obtain⟨z,e1,_,hwf⟩:=DataW.trod_int hk' h3;exact⟨.int k z,by rw[(List.cons.inj e1).1,VR],by rw[TY];exact⟨z,rfl,hwf⟩⟩
   ·rename_i hk';cases hk;obtain⟨s',e1,_,hs⟩:=DataW.trod_string hk' h3;exact⟨.str s'.data.toList,by rw[(List.cons.inj e1).1,VR],by rw[TY];exact⟨_,rfl,by simpa using hs⟩⟩
   ·cases hk
  rw[hlen]at h2;exact⟨[],[],.agg l,by rw[UE,UE];exact aw,by rw[VR,UE];exact⟨_,rfl,h1⟩,l,rfl,by rw[UE];exact h2⟩
 ·cases h
theorem qT(hz:∃(z:Nat) (cc:Array Value) (el:TypeId) (fz:Nat×Nat),w.heap[z]? =some (Obj.cells cc el fz)){n r b0}:∀(tys:List TypeId) {ats},rq P n tys=some ats->∀(vs:List Value) (ds:List (DataW H)) (ps:List MemPlace),
  DataW.TrodAll enc P w base (λ_=>true) held tys vs ds ps->(∀(j:Nat) t v,tys[j]? =some t->vs[j]? =some v->Value.okWide P w r b0 t v)->∀{E}{B},AW P w E B->
  ∃(F:List qn) (C:af) (ax:List AV),AW P w (E++F) (B++C)/\cw (fS (E++F)) ax vs/\ql (B++C) ats ax
 |[],ats,h,vs,ds,ps,ht,_,E,B,aw=>by
  unfold rq at h;cases h;cases vs with
  |cons v vs=>cases ds<;>exact ht.elim
  |nil=>exact⟨[],[],[],by rw[UE,UE];exact aw,by rw[aT],by rw[ql]⟩
 |t::tys,ats,h,vs,ds,ps,ht,ho,E,B,aw=>by
  unfold rq at h;split at h
  case h_2=>cases h
  rename_i a l ha hl;cases h;cases vs with
  |nil=>cases ds<;>exact ht.elim
  |cons v vs=>
   cases ds with
   |nil=>exact ht.elim
   |cons d ds=>
    obtain⟨p,q,h1,h2,_⟩:=ht;obtain⟨F,C,x,a1,a2,a3⟩:=AH hz ha h1 (ho 0 t v rfl rfl) aw;obtain⟨F',C',xs,b1,b2,b3⟩:=qT hz tys hl vs ds q h2 (λj t v h h'=>ho (j+1) t v h h') a1;refine⟨F++F',C++C',x::xs,by rw[<-Uf,<-Uf];exact b1,?_,?_⟩
    ·rw[<-Uf];exact aF.2 ⟨v,vs,rfl,VR.mono (jj _ _) _ _ a2,b2⟩
    ·rw[<-Uf,ql];exact⟨x,xs,rfl,a3.ext ⟨C',rfl⟩,b3⟩
end
open Go.ChangeShapes Go.WideShapes Go.RowKit
def Bp(f:DataW Unit->Option (List AV)):List (DataW Unit)->Option (List AV)
 |[]=>some []
 |d::r=>
  match f d,Bp f r with
  |some a,some b=>some (a++b)
  |_,_=>none
def xJ(P:Program):Nat->TypeId->DataW Unit->Option (List AV)
 | 0,_,_=>none
 |n+1,t,d=>
  match P.underlying t with
  |some (.int k)=>
   match d with
   |.lit (.int _ z)=>some [.int k z]
   |_=>none
  |some .string=>
   match d with
   |.lit (.string s)=>some [.str s]
   |_=>none
  |some (.array m e)=>
   match d with
   |.agg l=>
    match Bp (xJ P n e) l with
    |some r=>if P.cellsOf t=m*P.cellsOf e then some r else none
    |none=>none
   |_=>none
  |_=>none
section
variable {P:Program}{w:World}{base:Nat}{sp:Nat->Bool}{held:Bool}
theorem xK{f:DataW Unit->Option (List AV)}{m:bH}{ce:Nat}{cs:List Value}{g:List Value->Option (DataW Unit×List MemPlace)}(hf:∀c d p ax,g c=some (d,p)->f d=some ax->cw m ax c/\ax.all AV.one=true):
  ∀(l:List (DataW Unit×List MemPlace)) (o:Nat) {ax:List AV},Bp f (l.map (·.1))=some ax->(∀i (hi:i<l.length),g ((cs.drop ((o+i)*ce)).take ce)=some l[i])->cw m ax ((cs.drop (o*ce)).take (l.length*ce))/\ax.all AV.one=true
 |[],o,ax,h,_=>by
  unfold Bp at h;cases h;rw[Ul,Wk,Wf];exact⟨by rw[aT],rfl⟩
 |x::l,o,ax,h,hx=>by
  rw[Vl]at h;unfold Bp at h;split at h
  case h_2=>cases h
  rename_i a b ha hb;cases h;have h0:=hx 0 (by rw[Ui];omega);rw[W3,List.getElem_cons_zero]at h0;obtain⟨p1,p2⟩:=hf _ x.1 x.2 a h0 ha;obtain⟨q1,q2⟩:=xK hf l (o+1) hb (λi hi=>by
   have:=hx (i+1) (by rw[Ui];omega);rw[List.getElem_cons_succ]at this;rw[show o+1+i=o+(i+1) by omega];exact this)
  refine⟨?_,by rw[Wj,p2,q2];rfl⟩;rw[Ui,Vv,Nat.add_comm (l.length*ce) ce,List.take_add,VH];refine p1.append ?_;rw[<-Vv];exact q1
theorem uI{m:bH}:∀(n:Nat) (t:TypeId) (fuel:Nat) (cs:List Value) (d:DataW Unit) (p:List MemPlace) (ax:List AV),
  DataW.trod (λ_=>()) P w base sp held fuel t cs=some (d,p)->xJ P n t d=some ax->cw m ax cs/\ax.all AV.one=true
 | 0,_,_,_,_,_,_,_,h=>by cases h
 |n+1,t,fuel,cs,d,p,ax,ht,h=>by
  unfold xJ at h;split at h
  ·rename_i k hu;obtain⟨z,rfl,e,_⟩:=DataW.trod_int hu ht;cases e;cases h;exact⟨aF.2 ⟨_,[],rfl,by rw[VR],by rw[aT]⟩,rfl⟩
  ·rename_i hu;obtain⟨s,rfl,e,_⟩:=DataW.trod_string hu ht;cases e;cases h;exact⟨aF.2 ⟨_,[],rfl,rfl,by rw[aT]⟩,rfl⟩
  ·rename_i mm e hu;obtain⟨xs,m',_,ex,hlen,hxl,hf⟩:=DataW.trod_array hu ht;cases ex;simp only at h;split at h
   case h_2=>cases h
   rename_i r hr;split at h
   case isFalse=>cases h
   rename_i hc;cases h;have:=xK (m:=m) (ce:=P.cellsOf e) (cs:=cs) (g:=DataW.trod (λ_=>()) P w base sp held m' e) (λc d p ax h1 h2=>uI n e m' c d p ax h1 h2) xs 0 hr (λi hi=>by
    have:=hf i Om;rw[Uj hi]at this;rw[UX];exact this)
   rw[Wk,VI,hxl,<-hc,<-hlen,UU]at this;exact this
  ·cases h
def EI(P:Program)(laid:List (String×DataW Unit))(n:Nat)(g:Nat):ai:=
 match laid.find? (λx=>P.globalNamed x.1==some g)with
 |some x=>
  match (P.globals[g]?).map (·.type)with
  |some t=>
   match xJ P n t x.2 with
   |some ax=>if ax.length=CY P g then .cells ax false false else .dead
   |none=>.dead
  |none=>.dead
 |none=>.dead
def qZ(P:Program):List qn:=(List.range P.globals.size).map λg=>⟨g,0,CY P g,false⟩
def ui(P:Program)(laid:List (String×DataW Unit))(n:Nat):af:=(List.range P.globals.size).map (EI P laid n)
theorem jw:∀{laid}{ps},DataW.LaidVars P w laid ps->∀x∈laid,∃g t cs fuel p,P.globalNamed x.1=some g/\(P.globals[g]?).map (·.type)=some t/\w.var? P x.1=some cs/\
  DataW.trod (λ_=>()) P w 0 (λ_=>true) false fuel t cs.toList=some (x.2,p)
 |[],_,_,x,hx=>by cases hx
 |(n,d)::r,ps,h,x,hx=>by
  obtain⟨g,t,cs,fuel,p,q,h1,h2,h3,h4,h5,_⟩:=h;rcases UR.1 hx with rfl|hx
  ·exact⟨g,t,cs,fuel,p,h1,h2,h3,h4⟩
  ·exact jw h5 x hx
def wu{n g cs}(hg:P.globalNamed n=some g)(h:w.var? P n=some cs):∃el fz,w.heap[g]? =some (.cells cs el fz):=by
 unfold World.var? at h;rw[hg]at h;simp only[Option.bind_some]at h;split at h
 ·rename_i c el fz hb;cases h;exact⟨el,fz,hb⟩
 ·cases h
theorem AW.globals{SH laid}(hl:laidMet P SH w)(hsub:∀x∈laid,x∈SH)(n:Nat){nm d}(hlast:(nm,d)∈laid)(hg:P.globalNamed nm=some (P.globals.size-1)):
  AW P w (qZ P) (ui P laid n)/\∃(z:Nat) (cc:Array Value) (el:TypeId) (fz:Nat×Nat),w.heap[z]? =some (Obj.cells cc el fz):=by
 obtain⟨ps,hv,_,_⟩:=hl;obtain⟨g0,t0,cs0,_,_,a1,_,a3,_⟩:=jw hv _ (hsub _ hlast);obtain⟨el0,fz0,PR⟩:=wu a1 a3;have dO:P.globals.size-1<w.heap.size:=by
  have e:g0=P.globals.size-1:=Vc (a1.symm.trans hg);rw[<-e];exact(Uu.1 PR).1
 have hE:∀(b:Nat) e,(qZ P)[b]? =some e->b<P.globals.size/\e=⟨b,0,CY P b,false⟩:=λb e h=>by
  unfold qZ at h;rw[Vw]at h;have hb:b<P.globals.size:=by
   cases hr:(List.range P.globals.size)[b]? with
   |none=>rw[hr]at h;cases h
   |some y=>have:=(Ue.1 hr).1;simpa using this
  rw[List.getElem?_range hb]at h;exact⟨hb,(Vc h).symm⟩
 refine⟨⟨by simp[qZ,ui],λb e h=>?_,λb e k h h'=>?_,λg hg=>⟨⟨g,0,CY P g,false⟩,?_,rfl,rfl,rfl,rfl⟩⟩,⟨g0,cs0,el0,fz0,PR⟩⟩
 ·obtain⟨hb,rfl⟩:=hE b e h;exact⟨rfl,by show b<_;omega⟩
 ·obtain⟨hb,rfl⟩:=hE b e h;unfold ui at h';rw[Vw,List.getElem?_range hb]at h';have h':=(Vc h').symm;subst h';unfold EI;split
  case h_2=>exact⟨trivial,.inl rfl⟩
  rename_i x hx;split
  case h_2=>exact⟨trivial,.inl rfl⟩
  rename_i t ht;split
  case h_2=>exact⟨trivial,.inl rfl⟩
  rename_i ax has;split
  case isFalse=>exact⟨trivial,.inl rfl⟩
  rename_i hlen;refine⟨?_,.inr ⟨ax,rfl⟩⟩;obtain⟨g,t',cs,fuel,p,b1,b2,b3,b4⟩:=jw hv x (hsub _ (List.mem_of_find?_eq_some hx));have hgb:P.globalNamed x.1=some b:=by have:=W7 hx;simpa using this
  have e1:g=b:=Vc (b1.symm.trans hgb);subst e1;have e2:t' =t:=Vc (b2.symm.trans ht);subst e2;obtain⟨el,fz,Qk⟩:=wu b1 b3;obtain⟨c1,c2⟩:=uI (m:=fS (qZ P)) n t' fuel _ _ _ _ b4 has;have hcl:cs.size=ax.length:=by have:=c1.length;simpa using this
  refine⟨cs,el,fz,Qk,⟨by show 0+_<=_;omega,by show 0+_<=CY P g;omega,by show cs.size=CY P g;omega⟩,λi x hx=>?_,⟨λx=>absurd x Wd,λx=>by rcases x with x|x<;>exact absurd x Wd⟩⟩;refine⟨UJ.1 c2 x (U5 hx),?_⟩;obtain⟨v,R0,Rq⟩:=c1.get hx;refine⟨v,?_,Rq⟩;show cs[0+i]? =some v;rw[UX,<-VE];exact R0
 ·unfold qZ;rw[Vw,List.getElem?_range hg];rfl
end
section
variable {P:Program}{W W':World}{E:List qn}{B h':af}{m':bH}
def AW.below(aw:AW P W E B)(g:Grow (fS E) B W m' h' W'):Below W.heap.size W W':=
 ⟨g.os,g.tape,g.out,g.size,λk hk=>g.frame k hk λb e hb ho=>by rw[(aw.own b e hb).1]at ho;cases ho⟩
def v8(b:Below W.heap.size W W')(may:MemPlace->Prop):W.keptBut W' may:=by
 refine⟨b.os,b.output,λi hi=>?_⟩;rw[b.block i hi];split
 ·rename_i h1 h2;rw[h1]at h2;simp only[UG,Obj.cells.injEq]at h2;obtain⟨rfl,rfl,rfl⟩:=h2;exact⟨rfl,rfl,rfl,λ_ _=>rfl⟩
 ·rename_i h1 h2;rw[h1]at h2;simp only[UG,Obj.map.injEq]at h2;obtain⟨rfl,rfl⟩:=h2;exact .inr ⟨rfl,rfl⟩
 ·rfl
variable {H:Type}{enc:TypeId×Value->H}
theorem kP(hlo:laidOutB P=true)(hb:Below W.heap.size W W'){sp}:∀{tys}{vs}{ds}{ps},(∀t∈tys,P.readableRec t=true/\t<P.types.size)->
  DataW.TrodAll enc P W 0 (λ_=>true) true tys vs ds ps->(∀p∈ps,p.block<W.heap.size)->(∀p∈ps,sp p.block=true)->DataW.TrodAll enc P W' 0 sp true tys vs ds ps
 |[],[],[],ps,_,h,_,_=>h
 |[],[],_::_,_,_,h,_,_=>h.elim
 |[],_::_,_,_,_,h,_,_=>h.elim
 |_::_,[],_,_,_,h,_,_=>h.elim
 |_::_,_::_,[],_,_,h,_,_=>h.elim
 |t::tys,v::vs,d::ds,ps,hr,h,hl,hs=>by
  obtain⟨p,q,h1,h2,rfl⟩:=h;exact⟨p,q,WideElems.Trod_stays hlo (hr t (U4 ..)).1 (hr t (U4 ..)).2 h1 (λx hx=>hb.same (hl x (List.mem_append_left _ hx))) (λx hx=>hs x (List.mem_append_left _ hx)),
   kP hlo hb (λt ht=>hr t (UL _ ht)) h2 (λx hx=>hl x (List.mem_append_right _ hx)) (λx hx=>hs x (List.mem_append_right _ hx)),rfl⟩
def yj{f:Func}{s:ChangeSpec}{apart fresh handsOn again:Bool}{args:Array Value}{ds gs:List (DataW H)}{before:List MemPlace}{tb:TypeId}
  (hlo:laidOutB P=true) (hpar:∀t∈f.params.toList,P.readableRec t=true/\t<P.types.size) (hrt:f.resultTypes=#[tb]) (htb:P.underlying tb=some .bool) (hvars:s.vars=[])
  (hfn:(s.fn H (ds++gs))={results:=[.lit (.bool true)],args:=ds}) (hW:DataW.Whole enc P f.params.toList s.vars apart W args.toList ds gs before) (hb:Below W.heap.size W W'):
  s.post enc P f apart fresh handsOn again W args (.bool true) W':=by
 have hlt:=hW.lt;have hW':=hW;obtain⟨p,q,hA,hV,rfl,hz,hn⟩:=hW';rw[hvars]at hV;obtain⟨rfl,rfl⟩:=trodVars_none hV;rw[UE]at hlt;have hres:∀(b:Nat) (sp:Nat->Bool) (hd:Bool),DataW.TrodAll enc P W' b sp hd f.resultTypes.toList ((Value.bool true).resultList f.resultTypes.size) (s.fn H (ds++[])).results []:=λb sp hd=>by
  rw[hfn,hrt];exact trodAll_mk1 (shut_bool htb _)
 have hargs:∀sp:Nat->Bool,(∀x∈p,sp x.block=true)->DataW.TrodAll enc P W' 0 sp true f.params.toList args.toList (s.fn H (ds++[])).args p:=λsp hs=>by
  rw[hfn];exact kP hlo hb hpar hA hlt hs
 have OI:∀sp:Nat->Bool,DataW.TrodVars enc P W' sp s.vars (s.fn H (ds++[])).vars []:=λsp=>by
  rw[hfn,hvars];rfl
 refine⟨ds,[],p++[],[],p,[],hW,hres _ _ _,hargs _ (λx hx=>by simpa using hlt x hx),OI _,v8 hb _,λ_=>?_⟩;refine⟨?_,_,_,([]++p)++[],⟨[]++p,[],trodAll_append (hargs _ (λ_ _=>rfl)) (hres _ _ _),OI _,rfl,?_,?_⟩,?_⟩
 ·exact ok_one hrt rfl (okWide_bool_mk htb _)
 ·intro b off hp;have hp:MemPlace.cell b off∈p:=by simpa using hp
  have:=hz b off (by simpa using hp);unfold World.frozen? at this ⊢;rw[hb.block b (hlt _ hp)];exact this
 ·intro ha;have:=hn ha
  simpa using this
 ·intro x hx _
  simpa using hx
def zU{f:Func}{fid:FuncId}{s:ChangeSpec}{apart fresh handsOn again:Bool}{args:Array Value}{ds gs:List (DataW H)}{before:List MemPlace}{tb:TypeId}{n:Nat}{ats:List AT}{r:Reach}{b0:Nat}
  (hlo:laidOutB P=true) (hpar:∀t∈f.params.toList,P.readableRec t=true/\t<P.types.size) (hrt:f.resultTypes=#[tb]) (htb:P.underlying tb=some .bool) (hvars:s.vars=[])
  (hfn:(s.fn H (ds++gs))={results:=[.lit (.bool true)],args:=ds}) (hats:rq P n f.params.toList=some ats)
  (hval:∀(j:Nat) t v,f.params[j]? =some t->args[j]? =some v->Value.okWide P W r b0 t v)
  (hW:DataW.Whole enc P f.params.toList s.vars apart W args.toList ds gs before) (aw:AW P W E B) (hz:∃(z:Nat) (cc:Array Value) (el:TypeId) (fz:Nat×Nat),W.heap[z]? =some (Obj.cells cc el fz))
  (call:∀k ax,Ext B k->ql k ats ax->ak P fid ax k λv _=>v=.bool true):
  Calls P fid args W λe W'=>∃v,e=.returned v/\s.post enc P f apart fresh handsOn again W args v W':=by
 obtain⟨p,q,hA,_⟩:=id hW;obtain⟨F,C,ax,h1,h2,h3⟩:=qT hz f.params.toList hats args.toList ds p hA (λj t v h h'=>hval j t v (by rw[<-VE];exact h) (by rw[<-VE];exact h')) aw;obtain⟨v,g,hs,rfl⟩:=call (B++C) ax ⟨C,rfl⟩ h3;refine(hs (fS (E++F)) W args.toList h1.hr h2).mono λe W' ⟨cv,m',he,hv,_,hg⟩=>?_
 rw[VR]at hv;subst hv;exact⟨_,he,yj hlo hpar hrt htb hvars hfn hW (h1.below hg)⟩
end
end Go.Abs
namespace Go.Proofs.YtgplmdgpmbegiaaGreatDoor
open Go.Abs
noncomputable def uj:af:=ui Tryz.prog Rows.houseSafeRow.laid 6
def C0:uj[0]? =some (.cells NH false false):=by kernel_rfl
def CZ:uj[2]? =some (.cells (Lib.pow10Tab.map (AV.int .u64)) false false):=by kernel_rfl
def NZ{k:af}(e:Ext uj k):Gl k:=⟨_,_,e.some C0⟩
def NI{k:af}(e:Ext uj k):Pw k:=⟨_,_,e.some CZ⟩
end Go.Proofs.YtgplmdgpmbegiaaGreatDoor
namespace Go.Proofs.YtgplmdgpmbegiaaGreatDoor
open Go.ChangeShapes Go.WideShapes Go.RowKit Go.Abs
def fI{a b:Bool}(h:a=true)(h':b=true):(a&&b)=true:=by rw[h,h'];rfl
def own:ownKnob Tryz.prog.godebug=none:=by kernel_rfl
def laidOut:laidOutB Tryz.prog=true:=by kernel_rfl
def BW:mapsRowed Tryz.prog=true:=by kernel_rfl
def zI:(Tryz.prog.stops==[])=true:=by kernel_rfl
def zL:(Tryz.prog.stopKnobs==[])=true:=by kernel_rfl
def zM:Tryz.prog.stopsHeard=true:=by kernel_rfl
def zN:Tryz.prog.mayEnter=true:=by kernel_rfl
def zK:(Rows.houseSafeRow.lifted==Tryz.prog.liftsFinal)=true:=by kernel_rfl
def BX:(Tryz.prog.make==some Rows.houseSafeRow.make)=true:=by kernel_rfl
def B0:(Rows.houseSafeRow.plainKeys==Tryz.prog.plainKeys)=true:=by kernel_rfl
def BY:Tryz.prog.mainIs=some (true, "99e684478f8cae51b056da3a355f6848a653f6e5f09f29bc4422acb306b2dd43".toList):=by kernel_rfl
def zJ:true=Tryz.prog.looks []:=by kernel_rfl
def ya(os:Os)(args:Array Value):((World.laidAll Tryz.prog os Rows.houseSafeRow.laid).forCall (λ_ _=>0) ⟨#[],args,[]⟩).Shaped Tryz.prog:=World.shaped_of_ZipB (by kernel_rfl) (by kernel_rfl)
def BZ(os:Os)(args:Array Value):laidMetH Tryz.prog Rows.houseSafeRow.laid ((World.laidAll Tryz.prog os Rows.houseSafeRow.laid).forCall (λ_ _=>0) ⟨#[],args,[]⟩).memory:=by
 rw[MakeChecks.laidMetH_plain _ _ _ (by kernel_rfl)];exact laidMet_laidAll _ (by kernel_rfl) (by kernel_rfl)
end Go.Proofs.YtgplmdgpmbegiaaGreatDoor
namespace Go.Abs
set_option maxRecDepth 10000
attribute [local irreducible] WP WC WE WB WR WF WL WG fo WM
section
variable {P:Program}(T:eF P) {B X W:af}{ts:TS}{V:RV}{x:EV}
include T
end
section
variable {P:Program}(T:eF P) {B X W:af}{ts:TS}{V:RV}{x:EV}
include T
end
section
variable {P:Program}(T:eF P) {B X W Y:af}{ts:TS}{V:RV}{x:EV}{mb:Nat}
include T
variable {t:AV}
omit T in
end
section
variable {P:Program}(T:eF P) {B X W:af}{ts:TS}{V:RV}{x:EV}
include T
end
section
variable {P:Program}(T:eF P) {B X W:af}{ts:TS}{V:RV}{x:EV}
include T
end
section
variable {P:Program}(T:eF P) {h K:af}{ts:TS}{V U:RV}{x:EV}
include T
end
end Go.Abs
