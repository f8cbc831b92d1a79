/- A part of the proof that HouseTorn holds. No condition. -/
import Derived.Test.YtgplmdgpmbegiaaGreatDoorTo8
import Derived.Test.YtgplmdgpmbegiaaGreatDoorTo7
import Derived.Laws.Externs
import Derived.Shelf.Strconv.Itoa3
import Derived.Shelf.Strconv.Atoi
import Derived.Lib.AtoiErrMem
import Derived.Test.YtgplmdgpmbegiaaGreatDoorTo1
import Derived.Test.YtgplmdgpmbegiaaGreatDoorTo2
import Derived.Test.YtgplmdgpmbegiaaGreatDoorTo5
import Derived.Test.YtgplmdgpmbegiaaGreatDoorTo6
import Derived.ChangeArms
import Derived.Deep.Slices
import Derived.WideShapes
import Derived.ChangeShapes
import Derived.ChangeMaps5
import Derived.OpenShut
import Derived.Carry
import Derived.ChangeSame
import Derived.RowKit
import Derived.ProofKit
import Derived.LaidMore
import Derived.Lay
import Derived.SevenTiedAt
import Derived.Stop.Joined
import Derived.Test.YtgplmdgpmbegiaaGreatDoorRows
import Derived.Test.YtgplmdgpmbegiaaGreatDoorTie
import Derived.Test.YtgplmdgpmbegiaaGreatDoorCards
import Derived.Test.YtgplmdgpmbegiaaGreatDoorTo0
set_option maxHeartbeats 4000000
set_option linter.all false
open Nat (reduceAdd reduceMul reduceLeDiff reduceEqDiff)
namespace Go.Abs
theorem qa{c}:∀{s},(dw c s).2.2=true->s=(dw c s).1++c:: (dw c s).2.1
 |[],h=>by cases h
 |x::r,h=>by
  rw[dw]at h ⊢;split
  ·rename_i e;rw[e];rfl
  ·rename_i e;rw[aao e]at h;exact aaR (x::·) (qa (s:=r) h)
set_option maxRecDepth 10000
attribute [local irreducible] WP WC WE WB WR WF WL WG eZ WQ
section
variable {P:Program}(T:eD P) {h:ah}
include T
def r37(X:vW P)(Z:nB P)(w:Pw h)(s:By)(hsl:s.length<=2^37):ay P 37 [.str s] h (λv k=>∃(L':List EV) (s':AV),L'.map EV.ev=(cD s).1/\v=.dQ [s',.i (cD s).2.1,.i (cD s).2.2]/\Fr h.length k s' 5 (L'.map EV.row)/\∀x∈L',Cd h.length k s' x):=by
 refine .lI 55 T.mix T.c37 ?_;intro ts hlen t0;unfold fn37 gA;by_cases h6:1000000<s.length
 ·have d1:decide ((1000000:Int)<s.length)=true:=aaj Om;refine Rs (A2 t0 @d1) ?_;exact⟨[],.af,by rw[cD,aas h6];rfl,by rw[cD,aas h6],.nil,λx hx=>(by cases hx)⟩
 have d1:decide ((1000000:Int)<s.length)=false:=aaf Om;have hrs:cD s=gk (s.length+1) s [] 0:=aao h6;refine Rs (A2 t0 @d1) ?_;refine WL.inv T.mix (λn ts h'=>∃(a f:Nat) (out:AV) (L':List EV) (g:ah),a<=s.length/\n=s.length-a/\h' =h++g/\L'.length<=a/\cD s=gk (f+1) (s.drop a) (L'.map EV.ev) a/\s.length-a<=f/\Fr h.length (h++g) out 5 (L'.map EV.row)/\(∀x∈L',Cd h.length (h++g) out x)/\
   ts.length=55/\slot ts 0=.str s/\slot ts 5=out/\slot ts 6=.i a) s.length
  ⟨0,s.length,.af,[],[],Om,rfl,Si,aar _,hrs,Om,.nil,(λx hx=>by cases hx),Sn,(Sq t0),Sw,gX⟩ ?_
 rintro _ ts _ ⟨a,f,out,L',g,ha,rfl,rfl,hLa,TT,hf,hfr,hin,hlen,t0,t5,t6⟩;by_cases hlt:a<s.length
 ·have e3:decide ((a:Int)<s.length)=true:=aaj Om;have hne:s.drop a≠[]:=λe=>by have:=aaR List.length e;rw[abv]at this;simp at this;omega
  obtain⟨f',rfl⟩:∃f',f=f'+1:=⟨f-1,Om⟩;rw[gk,aao hne]at TT;have hdl:(s.drop a).length=s.length-a:=abv;have hcl:=sX (c:=10) (s:=s.drop a)
  repeat (first|simp (config:={maxSteps:=1000000}) only[aU,aX,bz,bA,reduceAdd,reduceMul,reduceLeDiff,reduceEqDiff,bC,hlen,aay,aaB,t0,t5,t6,e3,jH (show a<=s.length by omega)]|simp (config:={maxSteps:=1000000}) (disch:=first|(simp only[aac,aah,aal]<;>omega)|rfl|omega|fail) only[gp,aU,aX,bz,bA,reduceAdd,reduceMul,reduceLeDiff,reduceEqDiff,bC,hlen,aay,aaB,t0,t5,t6,e3,jH (show a<=s.length by omega)])
  refine WF.ce T.c98 (r98 T X (s.drop a) 10 Om) λg1=>?_
  have hsp:=qa (c:=10) (s:=s.drop a);generalize (dw 10 (s.drop a)).1=ln at TT hcl hsp ⊢;generalize (dw 10 (s.drop a)).2.1=rest at TT hcl hsp ⊢;cases hwh:(dw 10 (s.drop a)).2.2 with
  |false=>
   rw[hwh]at TT;refine Rs (A4 t0 t5 t6 @aaI) ?_;rw[TT];exact⟨L',_,rfl,rfl,hfr.app g1,λx hx=>(hin x hx).app g1⟩
  |true=>
  rw[hwh]at TT;have hsp:=hsp hwh;have Ve:(s.drop a).length=ln.length+(rest.length+1):=by rw[hsp];simp
  have Ut:rest=s.drop (a+ln.length+1):=by
   have:(s.drop a).drop (ln.length+1)=rest:=by rw[hsp,<-abB];simp
   rw[<-this,abB];congr 1
  have w1:IntKind.i64.wrap (((L'.map EV.row).length:Int)+1)=(L'.length:Int)+1:=by rw[aak];exact aY Om Om
  have w1':IntKind.i64.wrap ((L'.length:Int)+1)=(L'.length:Int)+1:=aY Om Om;refine Rs (A7 t0 t5 t6 @aaD hfr.aT.aK @w1 @w1') ?_;refine WF.res T.c99 (r99 T X Z (w.ext Xx) ln Om _) ?_;rintro _ g2 ⟨x,hx,rfl,fn,fv⟩;have hml:(L'.map EV.ev).length=L'.length:=aak _;have TT:cD s=if(cV ln ((L'.length:Int)+1)).2≠0 then(L'.map EV.ev,(a:Int),(cV ln ((L'.length:Int)+1)).2)else gk (f'+1) rest (L'.map EV.ev++[(cV ln ((L'.length:Int)+1)).1]) (a+ln.length+1):=by rw[TT,hml];rfl
  rw[<-hx]at TT;generalize (cV ln ((L'.length:Int)+1)).2=er at TT ⊢;have ox:bd (h++g++g1++g2) x:=⟨fn.aT,fv.aT⟩;have st:∀{b':Nat}{a0 a1 a2 a3 a4:AV},lH 5 0 (.agg x.row) b' (.b [a0,a1,a2,a3,a4])=some (az,.set b' (.b x.row)):=λ{_ _ _ _ _ _}=>ox.st
  by_cases he:er=0
  case neg=>
   have d2:decide (er≠0)=true:=aaj he;rw[aas he]at TT;refine Rs (A5 t0 t5 t6 @st @d2) ?_;rw[TT];exact⟨L',_,rfl,rfl,((hfr.app g1).app g2).app _,λx hx=>(((hin x hx).app g1).app g2).app _⟩
  have d2:decide (er≠0)=false:=aaf (λz=>z he);rw[aao (λz=>z he)]at TT;have ox2:bd (h++g++g1++g2++[ak.b x.row]) x:=ox.ext ⟨_,rfl⟩;have bs:=@bd.D7 _ _ ox2;refine Rs (A7 t0 t5 t6 @st @d2 @bZ @bs) ?_;refine WR.ga (h0:=h) (cs:=L'.map EV.row) (ys:=[x.row]) ((((hfr.app _).app _).app _).app _) (Fr.push (N:=0) (aaQ _) [x.row] (by intro y hy;rw[aaG]at hy;rw[hy];rfl)).aT De Si (by simp only[aak,aah,aal];omega) Xx ?_;intro g' TB hff hkp;have hrow:L'.map EV.row++[x.row]=(L'++[x]).map EV.row:=by rw[aap];rfl
  rw[hrow]at hff;rw[hrow];obtain⟨sn,Ua⟩:∃sn,sn=AV.slice (h++g++g1++g2++[ak.b x.row]++[ak.cells x.row true true]).length 0 ((L'++[x]).map EV.row).length 5:=⟨_,rfl⟩;rw[<-Ua]at hff ⊢;have VZ:∀i,sB sn=some i->(h++g++g1++g2).length+2=i:=λi hi=>by rw[Ua]at hi;cases hi;simp only[aac,aav]<;>omega
  have hout:∀b,sB out=some b->b<(h++g).length:=λb hb=>(hfr.bM hb).2
  have kp:∀i,i<(h++g++g1++g2).length->sB out≠some i->(h++g')[i]? =(h++g++g1++g2)[i]? :=λi hi hne=>by
   rw[hkp i (by simp only[aac,aav]at hi ⊢;omega) (λb0 o n e he zz=>hne (by rw[he,zz];rfl)),aae (h++g++g1++g2),aag hi]
  have w2:IntKind.i64.wrap ((ln.length:Int)+1)=((ln.length+1:Nat):Int):=wrapN Om;have w3:IntKind.i64.wrap ((a:Int)+((ln.length+1:Nat):Int))=((a+ln.length+1:Nat):Int):=by rw[aY Om Om];omega
  refine Rs (A5 t0 t5 t6 @w2 @w3) ?_;refine⟨s.length-(a+ln.length+1),Om,a+ln.length+1,f',sn,L'++[x],g',Om,rfl,rfl,by simp;omega,?_,Om,hff,λy hy=>?_,rfl,rfl⟩
  ·rw[TT,Ut,aap];rfl
  ·have lg:∀{i},i<(h++g).length->i<(h++g++g1++g2).length:=λ{i} hi=>by simp only[aac]at hi ⊢;omega
   rcases aam.1 hy with hy|hy
   ·have oy:=hin y hy;have ln:=λj (hj:sB y.sn=some j)=>(oy.n.bM hj).2
    have lv:=λj (hj:sB y.sv=some j)=>(oy.v.bM hj).2
    refine⟨((oy.n.app g1).app g2).aB λj hj=>kp j (lg (ln j hj)) (oy.dn j hj),((oy.v.app g1).app g2).aB λj hj=>kp j (lg (lv j hj)) (oy.dv j hj),λj hj e=>?_,λj hj e=>?_⟩
    ·have h1:=lg (ln j hj);have h2:=VZ j e;omega
    ·have h1:=lg (lv j hj);have h2:=VZ j e;omega
   ·rw[aaG]at hy;subst hy;have ln:=λj (hj:sB y.sn=some j)=>fn.bM hj
    have lv:=λj (hj:sB y.sv=some j)=>fv.bM hj
    have en:(h++g++g1).length=(h++g).length+g1.length:=aac;exact Sy
 ·have e3:decide ((a:Int)<s.length)=false:=aaf Om;have e4:a=s.length:=Om
  have hnil:s.drop a=[]:=List.drop_eq_nil_of_le Om;rw[gk,aas hnil]at TT;refine Rs (A4 t0 t5 t6 e3) ?_;rw[TT];exact⟨L',_,rfl,rfl,hfr,hin⟩
end
def qF:Nat->Nat
 | 0=>198
 | 1=>126
 | 2=>200
 | 3=>201
 | 4=>202
 | 5=>203
 |_=>204
def jJ(q:Nat×Bool×Nat):AV:=.agg [.bool q.2.1,.i (q.2.2:Nat),.func (.func (qF q.1)) [] []]
def Bg:List (AV×AV):=[(.str [108,101,102,116],jJ (0,true,4)),(.str [102,114,111,109],jJ (1,true,5)),(.str [108,105,110,101,115],jJ (2,true,3)),(.str [117,110,115,97,102,101],jJ (3,false,2)),(.str [116,97,112,101,115],jJ (4,true,2)),(.str [114,101,108,101,97,115,101,100],jJ (5,false,5)),(.str [119,97,110,116],jJ (6,true,0))]
def JO(k:By):jO .s (.str k) Bg=some ((jI k).map jJ):=by
 unfold jI Bg;by_cases h0:k=[108,101,102,116]
 ·subst h0;rfl
 have b0:(k==[108,101,102,116])=false:=by simp[h0]
 by_cases h1:k=[102,114,111,109]
 ·subst h1;rfl
 have b1:(k==[102,114,111,109])=false:=by simp[h1]
 by_cases h2:k=[108,105,110,101,115]
 ·subst h2;rfl
 have b2:(k==[108,105,110,101,115])=false:=by simp[h2]
 by_cases h3:k=[117,110,115,97,102,101]
 ·subst h3;rfl
 have b3:(k==[117,110,115,97,102,101])=false:=by simp[h3]
 by_cases h4:k=[116,97,112,101,115]
 ·subst h4;rfl
 have b4:(k==[116,97,112,101,115])=false:=by simp[h4]
 by_cases h5:k=[114,101,108,101,97,115,101,100]
 ·subst h5;rfl
 have b5:(k==[114,101,108,101,97,115,101,100])=false:=by simp[h5]
 by_cases h6:k=[119,97,110,116]
 ·subst h6;rfl
 have b6:(k==[119,97,110,116])=false:=by simp[h6]
 simp only[jO,dz,b0,b1,b2,b3,b4,b5,b6,aao h0,aao h1,aao h2,aao h3,aao h4,aao h5,aao h6];rfl
def yX{h:ah}{r:Nat}(hb:h[r]? =some (.bg Bg)){z:AV}{ok:Bool}{k:By}:iC .s z ok (.map r) (.str k) (λb=>h[b]?)=lK z ok ((jI k).map jJ):=si hb (JO k)
theorem sD:∀{l}{i:Nat},∀y∈cY l i,(i:Int)<=y/\y<(i:Int)+l.length
 |[],i,y,h=>by simp[cY]at h
 |x::r,i,y,h=>by
  rw[cY]at h;have key:y∈cY r (i+1)->(i:Int)<=y/\y<(i:Int)+(x::r).length:=λh=>by
   have:=sD y h;rw[aah];omega
  split at h
  ·rcases aaN.1 h with rfl|h
   ·rw[aah];omega
   ·exact key h
  ·exact key h
section
variable {P:Program}(T:eD P) {h:ah}
include T
theorem sF{h ks ts Q g es a l z ps k v es'}(ha:a+1<=ts.length)(h1:(a=1)=False)(t1:slot ts 1=.map h.length)
  (hv:sZ (eT z (ps.map λp=>(p.1,p.2.1,val ts p.2.2)))=some v) (hu:pR .s (.str k) v es=some es')
  (K:∀ts',ts'.length=ts.length->slot ts' 1=slot ts 1->WP P bP l ks ts' (h++[.bg es']++g) Q):
  WP P bP (.o a (.build z ps):: .x (.fY .s (.t 1) (.c (.str k)) (.t a))::l) ks ts (h++[.bg es]++g) Q:=by
 have e1:vd .s (.map h.length) (.str k) v (λb=>(h++[ak.bg es]++g)[b]?)=some (az,.set h.length (.bg es')):=vc vB hu;unfold bO.o bO.x;rw[tj,hv,vH,vM];have e2:val (put ts (some a) v) (.t 1)=.map h.length:=by
  simp only[qv,v8,bC,h1,t1]
 have e3:val (put ts (some a) v) (.t a)=v:=by simp only[qv,v8,bC,ha]
 rw[jG,e2,e3,zx,e1,ti,Dg,qv];have e4:(h++[ak.bg es]++g).set h.length (.bg es')=h++[.bg es']++g:=zL;rw[e4];exact K _ (by simp only[bC]) (by simp only[bC,h1])
def r109:ay P 109 [] h (λv h'=>v=.map h.length/\h' =h++[.bg Bg]):=by
 refine .of T.mix T.c109 ?_;obtain⟨ts,Tp⟩:∃ts,ts=aR 10 []:=⟨_,rfl⟩;have hlen:ts.length=10:=by rw[Tp];rfl
 unfold fn109;show WC P bP _ [] (aR 10 []) h _;rw[<-Tp];clear Tp;have m0:slot ((ts.set 0 AV.dq).set 1 (.map h.length)) 1=.map h.length:=by simp only[bC,hlen,reduceAdd,reduceLeDiff]
 have l0:((ts.set 0 AV.dq).set 1 (.map h.length)).length=10:=by simp only[bC,hlen]
 dsimp only[ai.j,ai.s,ai.r];rw[tn,tq,Nv T,vP,tn,tq,Nw T];rw[<-aaF (h++[ak.bg []])];generalize (ts.set 0 AV.dq).set 1 (.map h.length)=ts0 at *;clear hlen;refine sF T (v:=jJ (0,true,4)) (es':=[(.str [108,101,102,116],jJ (0,true,4))]) (by rw[l0];decide) (abR De) m0 rfl rfl ?_;intro U1 lx mx;have l1:=lx.trans l0;have m1:=mx.trans m0;clear lx mx l0 m0;refine sF T (v:=jJ (1,true,5)) (es':=[(.str [108,101,102,116],jJ (0,true,4)),(.str [102,114,111,109],jJ (1,true,5))]) (by rw[l1];decide) (abR De) m1 rfl rfl ?_;intro Vb lx mx;have l2:=lx.trans l1;have m2:=mx.trans m1;clear lx mx l1 m1
 refine sF T (v:=jJ (2,true,3)) (es':=[(.str [108,101,102,116],jJ (0,true,4)),(.str [102,114,111,109],jJ (1,true,5)),(.str [108,105,110,101,115],jJ (2,true,3))]) (by rw[l2];decide) (abR De) m2 rfl rfl ?_;intro ts3 lx mx;have l3:=lx.trans l2;have m3:=mx.trans m2;clear lx mx l2 m2;refine sF T (v:=jJ (3,false,2)) (es':=[(.str [108,101,102,116],jJ (0,true,4)),(.str [102,114,111,109],jJ (1,true,5)),(.str [108,105,110,101,115],jJ (2,true,3)),(.str [117,110,115,97,102,101],jJ (3,false,2))]) (by rw[l3];decide) (abR De) m3 rfl rfl ?_;intro ts4 lx mx;have l4:=lx.trans l3;have m4:=mx.trans m3;clear lx mx l3 m3
 refine sF T (v:=jJ (4,true,2)) (es':=[(.str [108,101,102,116],jJ (0,true,4)),(.str [102,114,111,109],jJ (1,true,5)),(.str [108,105,110,101,115],jJ (2,true,3)),(.str [117,110,115,97,102,101],jJ (3,false,2)),(.str [116,97,112,101,115],jJ (4,true,2))]) (by rw[l4];decide) (abR De) m4 rfl rfl ?_;intro ts5 lx mx;have l5:=lx.trans l4;have m5:=mx.trans m4;clear lx mx l4 m4;refine sF T (v:=jJ (5,false,5)) (es':=[(.str [108,101,102,116],jJ (0,true,4)),(.str [102,114,111,109],jJ (1,true,5)),(.str [108,105,110,101,115],jJ (2,true,3)),(.str [117,110,115,97,102,101],jJ (3,false,2)),(.str [116,97,112,101,115],jJ (4,true,2)),(.str [114,101,108,101,97,115,101,100],jJ (5,false,5))]) (by rw[l5];decide) (abR De) m5 rfl rfl ?_
 intro ts6 lx mx;have l6:=lx.trans l5;have m6:=mx.trans m5;clear lx mx l5 m5;refine sF T (v:=jJ (6,true,0)) (es':=[(.str [108,101,102,116],jJ (0,true,4)),(.str [102,114,111,109],jJ (1,true,5)),(.str [108,105,110,101,115],jJ (2,true,3)),(.str [117,110,115,97,102,101],jJ (3,false,2)),(.str [116,97,112,101,115],jJ (4,true,2)),(.str [114,101,108,101,97,115,101,100],jJ (5,false,5)),(.str [119,97,110,116],jJ (6,true,0))]) (by rw[l6];decide) (abR De) m6 rfl rfl ?_;intro ts7 lx mx;have l7:=lx.trans l6;have m7:=mx.trans m6;clear lx mx l6 m6;have hlen:=l7;rw[aaF];refine Rs @m7 ?_;rfl
section
variable {V:RV}(o:aC h V) (w:fM V.an)
include o w
def r198(Z:nB P)(pw:Pw h){n}(hn:n∈jk V.an):ay P 198 [.agg V.row,.str n] h (λv k=>aI k v 1 ((lB V.an n 0).map aq)):=by
 refine .eQ 10 T.mix T.c198 ?_;intro ts hlen t0 t1;unfold fn198 gA;have To:=@aC.box _ _ o;have l:=w.len;refine Rs (A4 t0 t1 @To @aE) ?_;refine WF.res T.c124 (r124 T (o.ext Xx) l hn) ?_;rintro _ g1 ⟨x,hx,WA,rfl⟩;have hj:=w.jb x.1 (aaH hx);refine Rs (A2 t0 t1) ?_;refine WF.res T.c125 (r125 T ((o.e4 x hx).ext Xx) Om (λs hs=>(hj.2.2.2 s hs).1)) ?_;intro v g2 hv;have Ve:=kF (l:=x.1.bu) (i:=0);refine Rs (A2 t0 t1) ?_;refine WF.res T.c199 (r199 T hv Om dS (λy hy k ek=>by
  have:=sD y hy;exact zv T Z Om Om (pw.ext (Ext.trans Xx ek)))) ?_
 intro v3 g3 hv3;have hr:=hv3.aT;refine Rs t0 ?_;rw[WA]at hr;exact hr
def r200(n:By):ay P 200 [.agg V.row,.str n] h (λv k=>aI k v 1 ((lB V.an n 2).map aq)):=by
 refine .eQ 9 T.mix T.c200 ?_;intro ts hlen t0 t1;unfold fn200 gA;have To:=@aC.box _ _ o;have l:=w.len;have hin:∀x∈V.aD,x.1.bp.length<2^30:=λx hx=>by have:=(w.md x.1 (aaH hx)).2.1;omega
 refine Rs (A4 t0 t1 @To @aE) ?_;refine WF.res T.c122 (r122 T (o.ext Xx) l hin _) ?_;rintro v3 g3 h3;have hsl:(jn V.an n).length<2^30:=by
  have h1:(jn V.an n).length<=V.an.lines.length:=by unfold jn;exact aa0 _ _
  have:=w.l0;omega
 refine Rs (A2 t0 t1) ?_;refine WF.res T.c121 (r121 T h3 Om (λx=>x.name) (λx _ k _=>bH.of (a:=[]) (c:=[]) T.c123 (r123 T x))) ?_;intro v4 g4 h4;have hr:=h4.aT;refine Rs t0 ?_;exact hr
def r201(n:By):ay P 201 [.agg V.row,.str n] h (λv k=>aI k v 1 ((lB V.an n 3).map aq)):=by
 refine .eQ 9 T.mix T.c201 ?_;intro ts hlen t0 t1;unfold fn201 gA;have To:=@aC.box _ _ o;have l:=w.len;refine Rs (A5 t0 t1 @To @aE @tT) ?_;refine WF.res T.c80 (r80 T (o.ext Xx) l w.Ai _) ?_;intro v4 g4 h4;refine Rs t0 ?_;exact h4
def r202{n}(hn:n∈nH V.an):ay P 202 [.agg V.row,.str n] h (λv k=>aI k v 1 ((lB V.an n 4).map aq)):=by
 refine .eQ 9 T.mix T.c202 ?_;intro ts hlen t0 t1;unfold fn202 gA;have To:=@aC.box _ _ o;have l:=w.len;refine Rs (A4 t0 t1 @To @aE) ?_;refine WF.res T.c77 (r77 T (o.ext Xx) l hn) ?_;rintro _ g1 ⟨x,hx,WA,rfl⟩;have hr:=(o.e2 x hx);unfold bj;refine Rs (A2 t0 t1) ?_;rw[WA]at hr;exact hr.ext Xx
end
end
def A1{l x}:tA (l++[x])=tA l++(if x.rel then [x.name,dS x.nT]else []):=by
 unfold tA;simp only[aap,abK,abd,ab7,abr,List.flatten_nil,aaF]
theorem rQ:∀{l},(tA l).length<=2*l.length
 |[]=>by simp[tA]
 |x::r=>by
  have:=rQ (l:=r);unfold tA at this ⊢;rw[abd,abr,aac,aah];split
  ·simp only[aah,aal];omega
  ·simp only[aal];omega
section
variable {P:Program}(T:eD P) {h:ah}
include T
section
variable {V:RV}(o:aC h V) (w:fM V.an)
include o w
def r203(Z:nB P)(pw:Pw h)(n:By):ay P 203 [.agg V.row,.str n] h (λv k=>aI k v 1 ((lB V.an n 5).map aq)):=by
 refine .eQ 27 T.mix T.c203 ?_;intro ts hlen t0 t1;unfold fn203 gA;have To:=@aC.box _ _ o;have l5:V.aP.length<=16:=w.l5;refine Rs (A5 t0 t1 @To @iP o.i5.aK) ?_;refine WL.inv T.mix (λn ts h'=>∃(k:Nat) (out:AV) (g:ah),k<=V.aP.length/\n=V.aP.length-k/\h' =h++g/\Fr h.length (h++g) out 1 ((tA (V.aP.take k)).map aq)/\
   ts.length=27/\slot ts 5=out/\slot ts 9=V.s5/\slot ts 10=.i V.aP.length/\slot ts 11=.i k) V.aP.length
  ⟨0,.af,_,Om,rfl,rfl,.nil,Sn,(Sq t1),Sw,(Sq t0),gX⟩ ?_
 rintro _ ts _ ⟨k,out,g,hk,rfl,rfl,hfr,hlen,t5,t9,t10,t11⟩;by_cases hlt:k<V.aP.length
 ·have e3:=eO hlt;have e5:=wrapN (n:=k) Om;have ix:=o.i5.dK (kk:=.i64) hlt;have ld:∀{k'},Ext (h++g) k'->ao (some 4) (cT V.s5 4 k) (λb=>k'[b]?)=some (.agg (dx V.aP[k]),.ar):=λ{k'} e=>o.i5.lL hlt (Ext.trans Xx e)
  obtain⟨x,hx⟩:∃x,x=V.aP[k]:=⟨_,rfl⟩;have U8:x∈V.aP:=by rw[hx];exact aat _
  have hpc:=w.pc x U8;have TI:V.aP.take (k+1)=V.aP.take k++[x]:=by rw[hx,aa1,aai hlt];rfl
  have UC:=rQ (l:=V.aP.take k);have htl:(V.aP.take k).length<=16:=by rw[aaZ];omega
  have Ua:=A1 (l:=V.aP.take k) (x:=x);rw[<-hx]at ld;unfold dx at ld;cases hrel:x.rel with
  |false=>
   rw[hrel]at ld Ua;rw[aao Si,aaF,<-TI]at Ua;rw[<-Ua]at hfr;refine Rs (A8 t5 t9 t10 t11 e3 e5 ix @ld) ?_;exact⟨V.aP.length-(k+1),Om,k+1,out,_,Om,rfl,aae _ _ _,by rw[<-aae];exact hfr.app _,rfl,rfl⟩
  |true=>
   rw[hrel]at ld Ua;rw[aas rfl,<-TI]at Ua;refine Rs (A7 t5 t9 t10 t11 e3 ix @ld) ?_;refine WF.ce T.c113 (Z.itoa Om Om (pw.ext Xx)) λg1=>?_
   rw[gS hpc.2.1];refine Rs (A4 t5 t9 t10 t11) ?_;refine WR.GY (h0:=h) (cs:=(tA (V.aP.take k)).map aq) (ys:=([x.name,dS x.nT] :List (By)).map aq) (((hfr.app _).app _).app _) (Fr.push (N:=0) (aaQ _) (([x.name,dS x.nT] :List (By)).map aq) (by simp[aq])).aT De (by simp;omega) Xx ?_;intro s' g' hff hkp hle;rw[<-aap,<-Ua]at hff;refine Rs (A5 t5 t9 t10 t11 e5) ?_;exact⟨V.aP.length-(k+1),Om,k+1,s',g',Om,rfl,rfl,hff,rfl,rfl⟩
 ·have e3:=fC hlt;have e4:k=V.aP.length:=Om
  refine Rs (A5 t5 t9 t10 t11 e3) ?_;rw[e4,aaS]at hfr;exact hfr.aT
def r204(Z:nB P)(pw:Pw h){n}(hn:n∈gZ V.an):ay P 204 [.agg V.row,.str n] h (λv k=>aI k v 1 ((lB V.an n 6).map aq)):=by
 refine .eQ 22 T.mix T.c204 ?_;intro ts hlen t0 t1;unfold fn204 gA;have To:=@aC.box _ _ o;have l:=w.len;have Xq:=w.ln _ (iV (f:=iO.name) (l:=V.an.lines) (n:=n) (d:=Dr) hn);have Ve:(V.aj.filter λx=>decide (x.1.line=n)).length<=V.aj.length:=aa0 _ _;have hl2:=l.l2;have hof:(Bj V.an n).length=(V.aj.filter λx=>decide (x.1.line=n)).length:=by
  unfold Bj;simp only[RV.an,acn,aak];rfl
 refine Rs (A4 t0 t1 @To @aE) ?_;refine WF.ce T.c205 (r205 T (o.ext Xx) l hn) λg1=>?_
 have WZ:lB V.an n 6=[dS (Bj V.an n).length,dS (dU V.an n).want,if(dU V.an n).acc then [97,99,99,101,112,116,101,100]else [111,112,101,110]]:=rfl;have Xq:1<=(dU V.an n).want/\(dU V.an n).want<=64:=Xq;generalize dU V.an n=y at WZ Xq ⊢;unfold cF;rw[hof]at WZ;cases Vs:y.acc with
 |true=>
  rw[Vs]at WZ;refine Rs (A4 t0 t1 @aE @Vs) ?_;refine WF.res T.c206 (r206 T (o.ext Xx) l n) ?_;intro v2 g2 h2;refine Rs (A3 t0 t1 h2.aK) ?_;refine WF.ce T.c113 (Z.itoa Om Om (pw.ext Xx)) λg3=>?_
  rw[gS Om];refine Rs (A2 t0 t1) ?_;refine WF.ce T.c113 (Z.itoa Om Om (pw.ext Xx)) λg4=>?_
  rw[gS Om];refine Rs (A2 t0 t1) ?_;rw[WZ];exact(Fr.push (es:=1) (N:=0) (aaQ _) (([dS ((V.aj.filter λx=>decide (x.1.line=n)).length:Nat),dS y.want,[97,99,99,101,112,116,101,100]] :List (By)).map aq) (by simp[aq])).aT
 |false=>
  rw[Vs]at WZ;refine Rs (A4 t0 t1 @aE @Vs) ?_;refine WF.res T.c206 (r206 T (o.ext Xx) l n) ?_;intro v2 g2 h2;refine Rs (A3 t0 t1 h2.aK) ?_;refine WF.ce T.c113 (Z.itoa Om Om (pw.ext Xx)) λg3=>?_
  rw[gS Om];refine Rs (A2 t0 t1) ?_;refine WF.ce T.c113 (Z.itoa Om Om (pw.ext Xx)) λg4=>?_
  rw[gS Om];refine Rs (A2 t0 t1) ?_;rw[WZ];exact(Fr.push (es:=1) (N:=0) (aaQ _) (([dS ((V.aj.filter λx=>decide (x.1.line=n)).length:Nat),dS y.want,[111,112,101,110]] :List (By)).map aq) (by simp[aq])).aT
end
end
def wT{n}(h:dY n=true):n.length<=24:=by
 cases n with
 |nil=>cases h
 |cons c r=>
  unfold dY at h;simp only[aaM,aaX]at h;rw[aah];omega
def uZ{l}(h:qp l){n}(hn:n∈l):n.length<=24:=wT (h.nm n hn)
theorem p7{c}:∀{l},(∀x∈l,x.length<=64)->(fy c l).length<=65*l.length
 |[],_=>aaQ _
 |x::r,h=>by
  have ih:=p7 (c:=c) (l:=r) λy hy=>h y (aaP _ hy)
  have hx:=h x Si;by_cases hr:r=[]
  ·subst hr;simp only[fy,aah,aal];omega
  ·rw[fL hr,aac,aah,aah];omega
theorem ue:∀{l m:List (By)},l.Nodup->(∀x∈l,x∈m)->l.length<=m.length
 |[],_,_,_=>aaQ _
 |x::r,m,hd,hs=>by
  rw[ac0]at hd;have hm:=hs x Si;have:=ue (l:=r) (m:=m.erase x) hd.2 λy hy=>(List.mem_erase_of_ne (λe=>hd.1 (by rw[<-e];exact hy))).2 (hs y (aaP _ hy))
  rw[List.length_erase_of_mem hm]at this;have:=List.length_pos_of_mem hm;rw[aah];omega
def Ko{R:fN}(w:fM R){n k:By}{q:Nat×Bool×Nat}(hq:jI k=some q)(hn:q.2.1=true->ez R q.2.2 n=true):(∀x∈lB R n q.1,x.length<=64)/\(lB R n q.1).length<=64:=by
 have dl:∀{y:Int},0<=y->y<99999999->(dS y).length<=64:=λ{y} h0 h1=>by have:=lu (k:=7) (u:=y.toNat) Om;rw[gD];omega
 unfold jI at hq
 repeat' split at hq
 all_goals cases hq
 ·have hm:n∈jk R:=abA (hn rfl);have hj:=w.jb _ (iV (f:=lP.name) (l:=R.aF) (n:=n) (d:=Bk) hm);have Ve:=kF (l:=(gR R n).bu) (i:=0);have hj:(gR R n).bu.length<=32:=hj.2.2.1;refine⟨λx hx=>?_,?_⟩
  ·obtain⟨y,hy,rfl⟩:=aaK.1 hx;have:=sD y hy;exact z175
  ·show((cY _ _).map dS).length<=64;rw[aak];omega
 ·refine⟨λx hx=>?_,?_⟩
  ·exact LV
  ·show(tZ R n).length<=64;unfold tZ;exact Lq
 ·refine⟨λx hx=>?_,?_⟩
  ·obtain⟨y,hy,rfl⟩:=aaK.1 hx;have:=uZ w.n0 (aaH (f:=iO.name) (abw.1 hy).1);omega
  ·show((jn R n).map iO.name).length<=64;unfold jn;rw[aak];have:=aa0 (λl:iO=>decide (l.name∈(ni R n).map iL.line)) R.lines;have:=w.l0;omega
 ·refine⟨λx hx=>?_,?_⟩
  ·exact LV
  ·show(kR R R.tick).length<=64;unfold kR;exact Lq
 ·have hm:n∈nH R:=abA (hn rfl);have hs:=w.sh _ (iV (f:=kr.name) (l:=R.aj) (n:=n) (d:=FH) hm);refine⟨λx hx=>?_,?_⟩
  ·have:=uZ w.n1 (hs.2.2.2 x hx);omega
  ·have:=ue hs.2.2.1 hs.2.2.2;have h1:(ke R).length<=16:=by unfold ke;rw[aak];exact w.l1
   exact aa5 this Om
 ·refine⟨λx hx=>?_,?_⟩
  ·obtain⟨l,hl,hx⟩:=List.mem_flatten.1 hx;obtain⟨p,hp,rfl⟩:=aaK.1 hl;have hpc:=w.pc p hp;split at hx
   ·simp only[aaN,abb,abP]at hx;rcases hx with rfl|rfl
    ·have:=uZ w.n5 (aaH (f:=qR.name) hp);omega
    ·exact dl hpc.2.1 Om
   ·cases hx
  ·have:=rQ (l:=R.aP);have:=w.l5;show(tA R.aP).length<=64;omega
 ·have hm:n∈gZ R:=abA (hn rfl);have hw:=w.ln _ (iV (f:=iO.name) (l:=R.lines) (n:=n) (d:=Dr) hm);have hw:1<=(dU R n).want/\(dU R n).want<=64:=hw;have ho:(Bj R n).length<=64:=aa5 (aa0 _ _) w.l2;refine⟨λx hx=>?_,by show(3:Nat)<=64;omega⟩;have hx:x∈[dS (Bj R n).length,dS (dU R n).want,if(dU R n).acc then [97,99,99,101,112,116,101,100]else [111,112,101,110]]:=hx;simp only[aaN,abb,abP]at hx;rcases hx with rfl|rfl|rfl
  ·exact z175
  ·exact z175
  ·split<;>decide
section
variable {P:Program}(T:eD P) {h:ah}
include T
def SR{V}(o:aC h V)(w:fM V.an)(Z:nB P)(pw:Pw h){n k q}(hq:jI k=some q)(hn:q.2.1=true->ez V.an q.2.2 n=true):
  bH P (.func (.func (qF q.1)) [] []) [.agg V.row,.str n] h (λv k'=>aI k' v 1 ((lB V.an n q.1).map aq)):=by
 unfold jI at hq
 repeat' split at hq
 all_goals cases hq
 ·exact bH.of (a:=[]) (c:=[]) T.c198 (r198 T o w Z pw (abA (hn rfl)))
 ·exact bH.of (a:=[]) (c:=[]) T.c126 (r126 T o w (abA (hn rfl)))
 ·exact bH.of (a:=[]) (c:=[]) T.c200 (r200 T o w n)
 ·exact bH.of (a:=[]) (c:=[]) T.c201 (r201 T o w n)
 ·exact bH.of (a:=[]) (c:=[]) T.c202 (r202 T o w (abA (hn rfl)))
 ·exact bH.of (a:=[]) (c:=[]) T.c203 (r203 T o w Z pw n)
 ·exact bH.of (a:=[]) (c:=[]) T.c204 (r204 T o w Z pw (abA (hn rfl)))
end
def Er(k:Nat):ai:=(fn110).body.dr k
def G0(k:Nat):ai:=(Er k).hd
def RL:fn110=⟨69,2,[(4,none),(5,none)],.seq (G0 0) (.seq (G0 1) (.seq (G0 2) (.seq (G0 3) (.seq (G0 4) (Er 5)))))⟩:=rfl
def RK:Er 5=.seq (G0 5) (.seq (G0 6) (Er 7)):=rfl
def PX{k q}(hq:jI k=some q):q.2.2<6:=by
 unfold jI at hq
 repeat' split at hq
 all_goals cases hq
 all_goals decide
section
variable {P:Program}(T:eD P) {h W:ah}{ts:TS}
include T
def Io{VN n k i wt b6 b8 nm}(oV:aC W VN)(wV:fM VN.an)(Z:nB P)(pw:Pw W)(hq:jI k=some (i,nm,wt))(hn:nm=true->ez VN.an wt n=true)
  (m6:W[b6]? =some (.b [.bool nm,.i (wt:Nat),.func (.func (qF i)) [] []])) (m8:W[b8]? =some (.b VN.row)) (hlen:ts.length=69) (t6:slot ts 6=.ptr b6 0) (t7:slot ts 7=.str n) (t8:slot ts 8=.ptr b8 0) (he:Ext h W):
  WC P bP (Er 7) [] ts W (FQ [(4,none),(5,none)] λv k=>Ext h k/\v=.dQ [.str (zj (lB VN.an n i)),.i 0]):=by
 have l6:∀{k:ah}{n':Option Nat}{a:Nat},Ext W k->ao n' (.ptr b6 a) (λz=>k[z]?)=dO n' a (.b [.bool nm,.i (wt:Nat),.func (.func (qF i)) [] []]):=λe=>aA (e.some m6)
 have l8:∀{k:ah}{n':Option Nat}{a:Nat},Ext W k->ao n' (.ptr b8 a) (λz=>k[z]?)=dO n' a (.b VN.row):=λe=>aA (e.some m8)
 have Yg:=Ko wV hq hn;have hv0:=SR T oV wV Z pw hq hn;unfold Er fn110 gA;simp only[ai.j,ai.s,ai.r,ai.dr,ai.tl,ai.hd];refine Rs (A6 t6 t7 t8 @l6 @l8 @aE) ?_;refine WF.val hv0 ?_;intro v g hv;have Yg:(∀x∈lB VN.an n i,x.length<=64)/\(lB VN.an n i).length<=64:=Yg;have hv:aI (W++g) v 1 ((lB VN.an n i).map aq):=hv;generalize lB VN.an n i=L at Yg hv ⊢;by_cases hL:L=[]
 ·have d0:decide ((L.length:Int)=0)=true:=aaj (by rw[hL];rfl);refine Rs (A5 t6 t7 t8 hv.aK @d0) ?_;exact⟨he.trans Xx,by rw[zj,aas hL]⟩
 ·have XU:0<L.length:=abX.2 hL;have d0:decide ((L.length:Int)=0)=false:=aaf Om;have hj:=p7 (c:=32) Yg.1;refine Rs (A5 t6 t7 t8 hv.aK @d0) ?_;refine WF.ce T.c114 (Z.join hv ⟨by rw[sG];omega,Om⟩) λg2=>?_
  refine Rs t6 ?_;exact⟨he.trans Xx,by rw[zj,aao hL,sG]⟩
def Im{V b n k i wt b6 nm}(o:vY h b V)(w:jU V.bN)(hl:V.cO.length<=1000)(Z:nB P)(pw:Pw h)(hq:jI k=some (i,nm,wt))(he:Ext h W)
  (m6:W[b6]? =some (.b [.bool nm,.i (wt:Nat),.func (.func (qF i)) [] []])) (hlen:ts.length=69) (t0:slot ts 0=.ptr b 0) (t6:slot ts 6=.ptr b6 0) (t7:slot ts 7=.str n) {R}
  (hR:R=if nm=true/\ez V.bN.now wt n=false then([],10)else(zj (lB V.bN.now n i),0)):
  WC P bP (Er 5) [] ts W (FQ [(4,none),(5,none)] λv k=>Ext h k/\v=.dQ [.str R.1,.i R.2]):=by
 have l6:∀{k:ah}{n':Option Nat}{a:Nat},Ext W k->ao n' (.ptr b6 a) (λz=>k[z]?)=dO n' a (.b [.bool nm,.i (wt:Nat),.func (.func (qF i)) [] []]):=λe=>aA (e.some m6)
 have hwt:wt<6:=PX hq;obtain⟨RR,Ug⟩:∃RR,RR=Er 7:=⟨_,rfl⟩;have o2:=o.ext he;have oV:=o2.now;have wV:fM V.now.an:=by rw[V.j5];exact w.now
 rw[<-V.j5]at hR;have st:=λ{b':Nat}{a0 a1 a2 a3 a4 a5 a6:AV}=>@aC.st _ _ oV b' a0 a1 a2 a3 a4 a5 a6 false
 rw[RK,<-Ug];unfold G0 Er fn110 gA;simp only[ai.j,ai.s,ai.r,ai.dr,ai.tl,ai.hd];refine Rs (A3 t0 t6 t7) ?_;refine WF.ce T.c79 (r79 T o2 hl) λg1=>?_
 cases nm with
 |false=>
  rw[aao Si]at hR;refine Rs (A6 t0 t6 t7 @st @l6 @aE) ?_;rw[hR,Ug];exact Io T (VN:=V.now) (b6:=b6) (b8:=(W++g1).length) (oV.ext Xx) wV Z (pw.ext (he.trans Xx)) hq (λe=>by cases e) (Ext.some Xx m6) (by rw[aan (aar _),abi];rfl) (Sq t0) (Sq t6) (Sq t7) (Sq t0) (he.trans Xx)
 |true=>
  refine Rs (A6 t0 t6 t7 @st @l6 @aE) ?_;refine WF.ce T.c86 (r86 T (oV.ext Xx) wV.len hwt n) λg2=>?_
  cases hhs:ez V.now.an wt n with
  |false=>
   rw[aas ⟨rfl,hhs⟩]at hR;refine Rs (A5 t0 t6 t7 @hhs @aaI) ?_;exact⟨he.trans Xx,by rw[hR]⟩
  |true=>
   rw[aao (by rw[hhs];simp)]at hR;refine Rs (A5 t0 t6 t7 @hhs @aaD) ?_;rw[hR,Ug];exact Io T (VN:=V.now) (b6:=b6) (b8:=(W++g1).length) (oV.ext Xx) wV Z (pw.ext (he.trans Xx)) hq (λ_=>hhs) (Ext.some Xx m6) (Ext.some (h:=W++g1++[ak.b V.now.row]) Xx (by rw[aan (aar _),abi];rfl)) (Sq t0) (Sq t6) (Sq t7) (Sq t0) (he.trans Xx)
end
def BO:((false:Bool)==false)=true:=rfl
def BL:((true:Bool)==true)=true:=rfl
def BM:((true:Bool)==false)=false:=rfl
def BN:((false:Bool)==true)=false:=rfl
section
variable {P:Program}(T:eD P) {h:ah}
include T
def r110{V b}(o:vY h b V)(w:jU V.bN)(hl:V.cO.length<=1000)(Z:nB P)(pw:Pw h){s ws}(hs:aI h s 1 (ws.map aq))(hne:0<ws.length)(hwl:ws.length<2^62){q}(hq:jI (ws.headD [])=some q):
  ay P 110 [.ptr b 0,s] h (λv _=>v=.dQ [.str (nX V.bN.now ws q).1,.i (nX V.bN.now ws q).2]):=by
 refine .of T.mix (acP T.c110 (aaR some RL)) ?_;obtain⟨ts,Tp⟩:∃ts,ts=aR 69 [.ptr b 0,s]:=⟨_,rfl⟩;have hlen:ts.length=69:=by rw[Tp];rfl
 have t0:slot ts 0=.ptr b 0:=by rw[Tp];rfl
 have t1:slot ts 1=s:=by rw[Tp];rfl
 obtain⟨RR,Ug⟩:∃RR,RR=Er 5:=⟨_,rfl⟩;obtain⟨i,nm,wt⟩:=q;show WC P bP _ [] (aR 69 [.ptr b 0,s]) h (FQ _ (λv k=>Ext h k/\v=.dQ [.str (nX V.bN.now ws (i,nm,wt)).1,.i (nX V.bN.now ws (i,nm,wt)).2]));rw[<-Tp,<-Ug];clear Tp;have Yp:ws[0]=ws.headD []:=by cases ws with|nil=>simp at hne|cons a r=>rfl
 have n7:=hs.n7 (kk:=.i64) hne;have ld0:∀{k:ah},Ext h k->ao none (cT s 1 0) (λb=>k[b]?)=some (.str (ws.headD []),.ar):=λ{k} e=>by rw[<-Yp];exact hs.jS (i:=0) hne rfl e
 unfold G0 Er fn110 gA;simp only[ai.j,ai.s,ai.r,ai.dr,ai.tl,ai.hd];refine Rs (A2 t0 t1) ?_;refine WF.res T.c109 (r109 T) ?_;rintro _ g1 ⟨rfl,hg⟩;have hg:g1=[.bg Bg]:=abM hg;subst hg;have lk:∀{z:AV},iC .s z false (.map h.length) (.str (ws.headD [])) (λb=>(h++[ak.bg Bg])[b]?)=lK z false ((jI (ws.headD [])).map jJ):=yX (by rw[aan (aar _),abi];rfl);rw[hq]at lk;have TX:∀{z:AV},_=some (AV.agg [.bool nm,.i (wt:Nat),.func (.func (qF i)) [] []],ja.ar):=@lk;have m6:∀{k:ah},Ext (h++[ak.bg Bg]++[ak.b [.bool nm,.i (wt:Nat),.func (.func (qF i)) [] []]]) k->k[(h++[ak.bg Bg]).length]? =some (ak.b [.bool nm,.i (wt:Nat),.func (.func (qF i)) [] []]):=λe=>e.some (by rw[aan (aar _),abi];rfl)
 have hsyn:∀{x:By×Int},x=([],25)->nX V.bN.now ws (i,nm,wt)=([],25)->∀{k:ah},Ext h k->(Ext h k/\AV.dQ [.str [],.i 25]=.dQ [.str (nX V.bN.now ws (i,nm,wt)).1,.i (nX V.bN.now ws (i,nm,wt)).2]):=λ_ he k e=>⟨e,by rw[he]⟩
 cases nm with
 |false=>
  have UL:nX V.bN.now ws (i,false,wt)=if ws.length≠1 then([],25)else(zj (lB V.bN.now [] i),0):=by
   unfold nX;simp
  by_cases e1:ws.length=1
  ·have d1:decide ((ws.length:Int)≠1)=false:=aaf (λz=>z Om);have d2:decide ((ws.length:Int)=2)=false:=aaf Om;refine Rs (Iv t0 t1 @n7 @ld0 @bV @TX @iF @BO @BL @BM @BN hs.aK @d1 @d2 @aaI @aaD) ?_;rw[Ug];exact Im T (n:=[]) o w hl Z pw hq Xx (m6 Xx) (Sq t0) (Sq t0) (Sq t0) (Sq t0) (by rw[UL,aao (by simpa using e1),aao Si])
  ·have d1:decide ((ws.length:Int)≠1)=true:=aaj Om;rw[aas e1]at UL;by_cases e2:ws.length=2
   ·have d2:decide ((ws.length:Int)=2)=true:=aaj Om;have d3:decide (([] :By)≠[])=false:=rfl;refine Rs (K3 t0 t1 @n7 @ld0 @bV @TX @iF @BO @BL @BM @BN hs.aK @d1 @d2 @d3 @aaI @aaD) ?_;rw[UL]
   ·have d2:decide ((ws.length:Int)=2)=false:=aaf Om;refine Rs (Iv t0 t1 @n7 @ld0 @bV @TX @iF @BO @BL @BM @BN hs.aK @d1 @d2 @aaI @aaD) ?_;rw[UL]
 |true=>
  by_cases e2:ws.length=2
  ·have d2:decide ((ws.length:Int)=2)=true:=aaj Om;have hw1:ws[1]=ws.getD 1 []:=by rw[aaW,aai Om];rfl
   have ix1:aZ 1 s (.i 1)=some (cT s 1 1,.ar):=hs.dK (kk:=.i64) (i:=1) Om;have Xm:∀{k:ah},Ext h k->ao none (cT s 1 1) (λb=>k[b]?)=some (.str (ws.getD 1 []),.ar):=λ{k} e=>by rw[<-hw1];exact hs.jS (i:=1) Om rfl e
   have UL:nX V.bN.now ws (i,true,wt)=if ws.getD 1 []=[]then([],25)else if ez V.bN.now wt (ws.getD 1 [])=false then([],10)else(zj (lB V.bN.now (ws.getD 1 []) i),0):=by
    unfold nX;simp only[e2,and_true,aaB,ac3,ne_eq,Bool.true_eq_false,false_and,abP,abN]
   generalize ws.getD 1 []=n at Xm UL;by_cases hn:n=[]
   ·have d3:decide (n≠[])=false:=aaf (λz=>z hn);rw[aas hn]at UL;refine Rs (Iu t0 t1 @n7 @ld0 @ix1 @Xm @bV @TX @iF @BO @BL @BM @BN hs.aK @d2 @d3 @aaI @aaD) ?_;rw[UL]
   ·have d3:decide (n≠[])=true:=aaj hn;rw[aao hn]at UL;refine Rs (Iu t0 t1 @n7 @ld0 @ix1 @Xm @bV @TX @iF @BO @BL @BM @BN hs.aK @d2 @d3 @aaI @aaD) ?_;rw[Ug];exact Im T (n:=n) o w hl Z pw hq Xx (m6 Xx) (Sq t0) (Sq t0) (Sq t0) (Sq t0) (by rw[UL];simp)
  ·have d2:decide ((ws.length:Int)=2)=false:=aaf Om;have UL:nX V.bN.now ws (i,true,wt)=([],25):=by
    unfold nX;simp[e2]
   refine Rs (B4 t0 t1 @n7 @ld0 @bV @TX @iF @BO @BL @BM @BN hs.aK @d2 @aaI @aaD) ?_;rw[UL]
end
def mD(B h0:ah)(b:Nat)(V:HV)(R:iZ×By×Int)(v:AV)(k:ah):Prop:=∃g' V',k=B++g'/\v=.dQ [.str R.2.1,.i R.2.2]/\b9 B.length (B++g') b V'/\V'.bN=R.1/\
 (∀i,i<h0.length->some i∉V.ex b->(B++g')[i]? =h0[i]?)/\∀j,some j∈V'.ex b->some j∈V.ex b\/h0.length<=j
def mD.same{B W k b V m c}(o:b9 B.length W b V)(e:Ext B W)(e2:Ext W k){R}(hR:R=(V.bN,m,c)):mD B W b V R (.dQ [.str m,.i c]) k:=by
 obtain⟨z,rfl⟩:=e;obtain⟨y,rfl⟩:=e2;exact⟨z++y,V,by rw[aae],by rw[hR],by rw[<-aae];exact o.app y,by rw[hR],λi hi _=>by rw[<-aae,aag hi],λj hj=>.inl hj⟩
def mD.low{B h0 W k b V R v}(s:mD B W b V R v k)(e:Ext h0 W):mD B h0 b V R v k:=by
 obtain⟨g',V',h1,h2,h3,h4,h5,h6⟩:=s;obtain⟨z,rfl⟩:=e;refine⟨g',V',h1,h2,h3,h4,λi hi hn=>?_,λj hj=>?_⟩
 ·rw[h5 i (by rw[aac];omega) hn,aag hi]
 ·rcases h6 j hj with h|h
  ·exact .inl h
  ·exact .inr (by rw[aac]at h;omega)
def rP(H:iZ)(ws:List (By)):iZ×By×Int:=
 if(de ws).2=false then(H,[],25)else
 if 1000<=H.cK.length then(H,[],5)else
 if eM H { (de ws).1 with num:=(H.cK.length:Int)+1}≠0 then(H,[],eM H { (de ws).1 with num:=(H.cK.length:Int)+1})
 else(iY H { (de ws).1 with num:=(H.cK.length:Int)+1},[100,111,110,101,32]++dS ((H.cK.length:Int)+1),0)
def y8{H s}:sR H s=if 4096<s.length then(H,[],26)else if s=[]then(H,[],25)else
  match jI ((bh 32 s).headD [])with
  |some q=>(H,nX H.now (bh 32 s) q)
  |none=>
   match fk ((bh 32 s).headD [])with
   |none=>(H,[],13)
   |some _=>rP H (bh 32 s):=by
 unfold sR;by_cases h1:4096<s.length
 ·rw[aas h1,aas h1]
 rw[aao h1,aao h1];by_cases h2:s=[]
 ·rw[aas h2,aas h2]
 rw[aao h2,aao h2];cases jI ((bh 32 s).headD [])with
 |some q=>rfl
 |none=>
  cases fk ((bh 32 s).headD [])with
  |none=>rfl
  |some d=>
   simp only;unfold rP;cases (de (bh 32 s)).2<;>rfl
def Ij(k:Nat):ai:=(fn43).body.dr k
def Ik(k:Nat):ai:=(Ij k).hd
def N6:fn43=⟨97,2,[(4,none),(5,none)],.seq (Ik 0) (.seq (Ik 1) (.seq (Ik 2) (.seq (Ik 3) (.seq (Ik 4) (.seq (Ik 5) (Ij 6))))))⟩:=rfl
section
variable {P:Program}(T:eD P) {B W:ah}{ts:TS}
include T
def Oo{V b x}(he:Ext B W)(o:b9 B.length W b V)(w:jU V.bN)(hl:V.cK.length<1000)(ox:bd W x)(hxl:x.ev.names.length<=2^40/\x.ev.bK.length<=2^40)(gl:Gl B):
  dy P 112 [.ptr b 0,.agg x.row] W (λv k=>KZ B W b V x.ev v k):=by
 obtain⟨g,rfl⟩:=he;exact NO T o w hl ox hxl gl
def Rt{V b}(he:Ext B W)(o:b9 B.length W b V)(w:jU V.bN)(hl:V.cK.length<=1000)(gl:Gl B)(pw:Pw B)(Z:nB P){sv ws}(hs:aI W sv 1 (ws.map aq))(hwl:∀x∈ws,x.length<=2^40)
  (hlen:ts.length=97) (t0:slot ts 0=.ptr b 0) (t7:slot ts 7=sv):WC P bP (Ij 6) [] ts W (FQ [(4,none),(5,none)] λv k=>mD B W b V (rP V.bN ws) v k):=by
 have UC:=wI ws;have Xi:V.bN.cK.length=V.cK.length:=by simp[HV.bN]
 have lb:=@fx _ _ _ o.hb;have V5:=o.rd.ie.aK;unfold Ij fn43;simp only[ai.j,ai.s,ai.r,ai.dr,ai.tl,ai.hd];refine Rs (A2 t0 t7) ?_;refine WF.res T.c111 (r111 T Z hs hwl) ?_;rintro _ g1 ⟨x,hx,rfl,fn,fv⟩;have ox:bd (W++g1) x:=⟨fn.aT,fv.aT⟩;obtain⟨x',Tu⟩:∃x':EV,x' =⟨{x.ev with num:=(V.cK.length:Int)+1},x.sn,x.sv⟩:=⟨_,rfl⟩;have hrow:x'.row=x.row.set 0 (.i ((V.cK.length:Int)+1)):=by rw[Tu];rfl
 have U7:x'.ev.num=(V.cK.length:Int)+1:=by rw[Tu]
 have hev:({ (de ws).1 with num:=(V.bN.cK.length:Int)+1}:cQ)=x'.ev:=by rw[Tu,hx,Xi]
 have YP:bd (W++g1) x':=by rw[Tu];exact⟨ox.n,ox.v⟩
 have Tt:rP V.bN ws=if(de ws).2=false then(V.bN,[],25)else if 1000<=V.cK.length then(V.bN,[],5)else if eM V.bN x'.ev≠0 then(V.bN,[],eM V.bN x'.ev)else(iY V.bN x'.ev,[100,111,110,101,32]++dS ((V.cK.length:Int)+1),0):=by
  unfold rP;rw[hev,Xi]
 have st:∀{b':Nat}{a0 a1 a2 a3 a4:AV},lH 5 0 (.agg x.row) b' (.b [a0,a1,a2,a3,a4])=some (az,.set b' (.b x.row)):=λ{_ _ _ _ _ _}=>ox.st
 have lI:∀{b':Nat},lH 1 0 (.i ((V.cK.length:Int)+1)) b' (.b x.row)=some (az,.set b' (.b x'.row)):=λ{b'}=>by
  rw[hrow];exact cg rfl (by show 0+1<=5;omega)
 have hpost:rP V.bN ws=rP V.bN ws:=rfl;generalize hfm:(de ws).2=fm at Tt ⊢;cases fm with
 |false=>
  refine Rs (A4 t0 t7 @st @aaI) ?_;refine WF.ce T.c85 (r85 T _ _) λg2=>?_
  refine Rs (A4 t0 t7 @lb @V5) ?_;refine WF.ce T.c85 (r85 T _ _) λg3=>?_
  refine Rs (A2 t0 t7) ?_;refine WF.ce T.c74 (r74 T (cE [_,_]) Si) λg4=>?_
  have e0:∀c,bt [bX true 25,bX c 5]=25:=λc=>by cases c<;>rfl
  have d0:decide ((25:Int)≠0)=true:=rfl;refine Rs (A3 t0 e0 @d0) ?_;exact mD.same o he Xx (by rw[Tt];rfl)
 |true=>
  rw[aao Si]at Tt;refine Rs (A4 t0 t7 @st @aaD) ?_;refine WF.ce T.c85 (r85 T _ _) λg2=>?_
  refine Rs (A4 t0 t7 @lb @V5) ?_;refine WF.ce T.c85 (r85 T _ _) λg3=>?_
  refine Rs (A2 t0 t7) ?_;refine WF.ce T.c74 (r74 T (cE [_,_]) Si) λg4=>?_
  by_cases hk:1000<=V.cK.length
  ·have dk:decide ((1000:Int)<=(V.cK.length:Int))=true:=aaj Om;have e0:bt [bX false 25,bX true 5]=5:=rfl;have d0:decide ((5:Int)≠0)=true:=rfl;rw[aas hk]at Tt;refine Rs (A4 t0 @dk e0 @d0) ?_;exact mD.same o he Xx Tt
  ·have dk:decide ((1000:Int)<=(V.cK.length:Int))=false:=aaf Om;have e0:bt [bX false 25,bX false 5]=0:=rfl;have d0:decide ((0:Int)≠0)=false:=rfl;rw[aao hk]at Tt;have w1:IntKind.i64.wrap ((V.cK.length:Int)+1)=(V.cK.length:Int)+1:=aY Om Om;refine Rs (A9 t0 @dk e0 @d0 @lb @V5 @w1 @lI @bZ) ?_;obtain⟨Y,hY⟩:∃Y,Y=W++g1++[ak.b x'.row]++g2++g3++[ak.cells [.i (bX false 25),.i (bX false 5)] true true]++g4:=⟨_,rfl⟩;rw[<-hY];have Ww:Ext W Y:=by rw[hY];exact Xx
   have oY:b9 B.length Y b V:=by obtain⟨z,hz⟩:=Ww;rw[hz];exact o.app z
   have oxY:bd Y x':=by rw[hY];exact YP.ext Xx
   have m12:Y[(W++g1).length]? =some (.b x'.row):=by rw[hY];exact Ext.some (h:=W++g1++[ak.b x'.row]) Xx (by rw[aan (aar _),abi];rfl)
   refine WF.gen T.c112 (Oo T (he.trans Ww) oY w Om oxY ⟨by rw[Tu];show x.ev.names.length<=_;rw[hx];omega,by rw[Tu];show x.ev.bK.length<=_;rw[hx];omega⟩ gl) ?_;rintro _ _ ⟨g',V',rfl,rfl,ZI,hV',hkp,hexn⟩;have hYl:W.length<=Y.length:=by obtain⟨z,hz⟩:=Ww;rw[hz,aac];omega
   have hkW:∀i,i<W.length->some i∉V.ex b->(B++g')[i]? =W[i]? :=λi hi hn=>by
    rw[hkp i Om hn];obtain⟨z,hz⟩:=Ww;rw[hz,aag hi]
   have hexW:∀j,some j∈V'.ex b->some j∈V.ex b\/W.length<=j:=λj hj=>(hexn j hj).imp id λh=>by omega
   by_cases UY:eM V.bN x'.ev=0
   ·have d:decide (eM V.bN x'.ev≠0)=false:=aaf (λz=>z UY);rw[aas UY]at hV';rw[aao (λz=>z UY)]at Tt;have m12':(B++g')[(W++g1).length]? =some (.b x'.row):=by
     rw[hkp _ (aad.1 m12).1 (λhj=>by have:=o.DU hj;simp only[aac]at this;omega)];exact m12
    have l12:ao none (.ptr (W++g1).length 0) (λz=>(B++g')[z]?)=some (.i ((V.cK.length:Int)+1),.ar):=by rw[aA m12',<-U7];rfl
    refine Rs (A3 t0 @d @l12) ?_;refine WF.ce T.c113 (Z.itoa Om Om (pw.ext ⟨_,rfl⟩)) λg5=>?_
    have hdl:=lu (k:=7) (u:=((V.cK.length:Int)+1).toNat) Om;rw[gS Om];have hdl:(dS ((V.cK.length:Int)+1)).length<=8:=by rw[gD];exact hdl
    have hbc:([100,111,110,101,32] :By).length+(dS ((V.cK.length:Int)+1)).length<2^62:=by
     simp only[aah,aal];omega
    have bc:=fA hbc;refine Rs (A2 t0 @bc) ?_;exact⟨g'++g5,V',by rw[aae],by rw[Tt],by rw[<-aae];exact ZI.app g5,by rw[Tt,hV'],λi hi hn=>by
     rw[<-aae,<-hkW i hi hn];have hil:i<(B++g').length:=by
      have e:=hkW i hi hn;rw[aai hi]at e;exact(aad.1 e).1
     exact aag hil,hexW⟩
   ·have d:decide (eM V.bN x'.ev≠0)=true:=aaj UY;rw[aao UY]at hV';rw[aas UY]at Tt;refine Rs (A2 t0 @d) ?_;exact⟨g',V',rfl,by rw[Tt],ZI,by rw[Tt,hV'],hkW,hexW⟩
end
def b9.ext{N h k b V}(o:b9 N h b V)(e:Ext h k):b9 N k b V:=by obtain⟨z,rfl⟩:=e;exact o.app z
def p8{b o}:p9 R2.Bl (.ptr b o) .nilPtr=some false:=rfl
section
variable {P:Program}(T:eD P) {B g:ah}
include T
def S0{V b}(o:b9 B.length (B++g) b V)(w:jU V.bN)(hl:V.cK.length<=1000)(gl:Gl B)(pw:Pw B)(X:vW P)(Z:nB P)(s:By)(hs:s.length<=2^36):
  dy P 43 [.ptr b 0,.str s] (B++g) (λv k=>mD B (B++g) b V (sR V.bN s) v k):=by
 refine .of T.mix (acP T.c43 (aaR some N6)) ?_;obtain⟨ts,Tp⟩:∃ts,ts=aR 97 [.ptr b 0,.str s]:=⟨_,rfl⟩;have hlen:ts.length=97:=by rw[Tp];rfl
 have t0:slot ts 0=.ptr b 0:=by rw[Tp];rfl
 have t1:slot ts 1=.str s:=by rw[Tp];rfl
 obtain⟨RR,Ug⟩:∃RR,RR=Ij 6:=⟨_,rfl⟩;show WC P bP _ [] (aR 97 [.ptr b 0,.str s]) (B++g) (FQ _ (λv k=>mD B (B++g) b V (sR V.bN s) v k));rw[<-Tp,<-Ug];clear Tp;have he:Ext B (B++g):=⟨g,rfl⟩;obtain⟨W,hW⟩:∃W,W=B++g:=⟨_,rfl⟩;rw[<-hW]at o he ⊢;have eW:Ext W W:=Ext.refl W;have Xv:V.cO.length<=1000:=by
  have e1:=w.ln;have e2:=w.le;exact O6
 have Us:=y8 (H:=V.bN) (s:=s);unfold Ik Ij fn43;simp only[ai.j,ai.s,ai.r,ai.dr,ai.tl,ai.hd];refine Rs (A3 t0 t1 @p8) ?_;refine WF.ce T.c85 (r85 T _ _) λg1=>?_
 refine Rs (A2 t0 t1) ?_;refine WF.ce T.c85 (r85 T _ _) λg2=>?_
 refine Rs (A2 t0 t1) ?_;refine WF.ce T.c74 (r74 T (cE [_,_]) Si) λg3=>?_
 by_cases h1:4096<s.length
 ·have d1:decide ((4096:Int)<(s.length:Int))=true:=aaj Om;have e0:∀c,bt [bX true 26,bX c 25]=26:=λc=>by cases c<;>rfl
  have d0:decide ((26:Int)≠0)=true:=rfl;rw[aas h1]at Us;refine Rs (A5 t0 t1 @d1 e0 @d0) ?_;exact mD.same o he Xx Us
 have d1:decide ((4096:Int)<(s.length:Int))=false:=aaf Om;rw[aao h1]at Us;by_cases h2:s=[]
 ·have d2:decide (s=[])=true:=aaj h2;have e0:bt [bX false 26,bX true 25]=25:=rfl;have d0:decide ((25:Int)≠0)=true:=rfl;rw[aas h2]at Us;refine Rs (A6 t0 t1 @d1 @d2 e0 @d0) ?_;exact mD.same o he Xx Us
 have d2:decide (s=[])=false:=aaf h2;rw[aao h2]at Us;have e0:bt [bX false 26,bX false 25]=0:=rfl;have d0:decide ((0:Int)≠0)=false:=rfl;refine Rs (A6 t0 t1 @d1 @d2 e0 @d0) ?_;refine WF.res T.c64 (r64 T X s 32 Om) ?_;intro sv g4 hv;have hwl:=tQ (c:=32) (s:=s) (n:=2^40) Om;have hwn:(bh 32 s).length<=s.length+1:=by
  exact Lw
 have hne:0<(bh 32 s).length:=abX.2 iD;obtain⟨ws,VA⟩:∃ws,ws=bh 32 s:=⟨_,rfl⟩;rw[<-VA]at hv hwl hwn hne Us;have Yp:ws[0]=ws.headD []:=by
  clear hv hwl hwn Us VA;cases ws with|nil=>simp at hne|cons a r=>rfl
 obtain⟨Y,hY⟩:∃Y,Y=W++g1++g2++[ak.cells [.i (bX false 26),.i (bX false 25)] true true]++g3++g4:=⟨_,rfl⟩;rw[<-hY]at hv ⊢;have Ww:Ext W Y:=by rw[hY];exact Xx
 have oY:b9 B.length Y b V:=o.ext Ww;have eB:=he.trans Ww;have n7:=hv.n7 (kk:=.i64) hne;have ld0:∀{k:ah},Ext Y k->ao none (cT sv 1 0) (λb=>k[b]?)=some (.str (ws.headD []),.ar):=λ{k} e=>by rw[<-Yp];exact hv.jS (i:=0) hne rfl e
 clear o he;refine Rs (A2 t0 t1) ?_;refine WF.res T.c109 (r109 T) ?_;rintro _ g5 ⟨rfl,hg⟩;have hg:g5=[.bg Bg]:=abM hg;subst hg;have lk:∀{z:AV},iC .s z true (.map Y.length) (.str (ws.headD [])) (λb=>(Y++[ak.bg Bg])[b]?)=lK z true ((jI (ws.headD [])).map jJ):=yX (by rw[aan (aar _),abi];rfl);cases hq:jI (ws.headD [])with
 |some q=>
  obtain⟨i,nm,wt⟩:=q;rw[hq]at lk Us;have TX:∀{z:AV},_=some (AV.dQ [.agg [.bool nm,.i (wt:Nat),.func (.func (qF i)) [] []],.bool true],ja.ar):=@lk;refine Rs (A7 t0 t1 @n7 @ld0 @bV @TX @iF) ?_;refine WF.ce T.c110 (r110 T (oY.rd.ext Xx) w Xv Z (pw.ext (eB.trans Xx)) (hv.ext Xx) hne Om hq) λg6=>?_
  refine Rs t0 ?_;exact(mD.same oY eB Xx Us).low Ww
 |none=>
  rw[hq]at lk Us;have TX:∀{z:AV},_=some (AV.dQ [z,.bool false],ja.ar):=@lk;refine Rs (A7 t0 t1 @n7 @ld0 @bV @TX @iF) ?_;clear lk TX;refine WF.res T.c90 (r90 T) ?_;rintro _ g6 ⟨vf,rfl,hk⟩;obtain⟨Y2,Vt⟩:∃Y2,Y2=Y++[ak.bg Bg]++[ak.b [.bool false,.i 0,.nilFunc]]:=⟨_,rfl⟩;rw[<-Vt]at hk ⊢;have VO:Ext Y Y2:=by rw[Vt];exact Xx
  have ld2:∀{k:ah},Ext Y2 k->ao none (cT sv 1 0) (λb=>k[b]?)=some (.str (ws.headD []),.ar):=λ{k} e=>ld0 (VO.trans e)
  have lk:∀{z:AV},iC .s z true (.map Y2.length) (.str (ws.headD [])) (λb=>(Y2++g6)[b]?)=lK z true ((fk (ws.headD [])).map vf):=hk.look;cases hd:fk (ws.headD [])with
  |none=>
   rw[hd]at lk Us;have TX:∀{z:AV},_=some (AV.dQ [z,.bool false],ja.ar):=@lk;refine Rs (A8 t0 t1 @n7 @ld2 @bV @TX @iF @aaI) ?_;exact(mD.same oY eB (VO.trans Xx) Us).low Ww
  |some d=>
   rw[hd]at lk Us;have TX:∀{z:AV},_=some (AV.dQ [vf d,.bool true],ja.ar):=@lk;obtain⟨rs,a,hvf,hr,ha,hab⟩:=(hk.k d).ex;rw[hvf]at TX;have c1:=mP d;have c2:=mq d;have c3:=hr.one;refine Rs (n6 t0 t1 @n7 @ld2 @bV @TX @aaD @c1 @c2 @c3 @ha) ?_;have Us:sR V.bN s=rP V.bN ws:=Us;rw[Ug,Us];refine WC.HS (Rt T (eB.trans (VO.trans Xx)) (oY.ext (VO.trans Xx)) w hl gl pw Z (hv.ext (VO.trans Xx)) hwl (Sq t0) (Sq t0) (Sq t0)) ?_;rintro e ts' h' ⟨q1,v,q2,q3⟩;exact⟨q1,v,q2,mD.low q3 (Ww.trans (VO.trans Xx))⟩
end
def V0:HV:=⟨[],[],[],.af,.af,.af⟩
def OA{h}:b9 h.length (h++[.b [.af,.af,.af]]) h.length V0:=
 ⟨aar _,by rw[aan (aar _),abi];rfl,.nil,.nil,.nil,sS.2 ⟨λ_ _=>⟨by simp[sB,V0],by simp[sB,V0],by simp[sB,V0]⟩,λ_ z=>by simp[sB,V0]at z,λ_ z=>by simp[sB,V0]at z⟩,
  λx hx=>(by cases hx),λx hx=>(by cases hx),λx hx=>(by cases hx),λx hx=>(by cases hx)⟩
def OB{b}:∀j,some j∈V0.ex b->j=b:=λj hj=>by
 simp only[HV.ex,V0,sB,aaN,abb,abP,aaL,reduceCtorEq]at hj;exact hj
def IE{H ws}(w:jU H):jU (rP H ws).1/\(rP H ws).1.cK.length<=H.cK.length+1:=by
 unfold rP;split
 ·exact⟨w,ac2 _⟩
 split
 ·exact⟨w,ac2 _⟩
 split
 ·exact⟨w,ac2 _⟩
 ·rename_i h;exact⟨w.add (abN.1 h),by rw[yf];omega⟩
def L7{H s}(w:jU H):jU (sR H s).1/\(sR H s).1.cK.length<=H.cK.length+1:=by
 rw[y8];split
 ·exact⟨w,ac2 _⟩
 split
 ·exact⟨w,ac2 _⟩
 split
 ·exact⟨w,ac2 _⟩
 split
 ·exact⟨w,ac2 _⟩
 exact IE w
def tY(x:By×By×Int):List AV:=[.str x.1,.str x.2.1,.i x.2.2]
def nw:iZ->List (By×By×Int)->Option iZ
 |H,[]=>some H
 |H,x::r=>if(sR H x.1).2.1=x.2.1/\(sR H x.1).2.2=x.2.2 then nw (sR H x.1).1 r else none
section
variable {P:Program}(T:eD P) {h:ah}
include T
def r70:ay P 70 [] h (λv h'=>v=.ptr h.length 0/\h' =h++[.b [.af,.af,.af]]):=by
 refine .of T.mix T.c70 ?_;unfold fn70 gA;exact Wn Tv
def r44{V b}(o:vY h b V)(w:jU V.bN)(hl:V.cK.length<=1000):
  ay P 44 [.ptr b 0] h (λv h'=>∃L':List EV,L'.map EV.ev=V.bN.cK/\dJ h' L' v):=by
 refine .lI 11 T.mix T.c44 ?_;intro ts hlen t0;unfold fn44 gA;have lb:=@fx _ _ _ o.hb;refine Rs (A3 t0 @p8 @lb) ?_;refine WF.res T.c87 (r87 T ⟨o.ie,o.ae⟩ Om (λx hx=>by
  obtain⟨d,we⟩:=w.ev x.ev (aaH hx);have h3:(aM d).length<=3/\bQ d<=3:=by cases d<;>decide
  have:=we.nl;have:=we.vl;exact⟨Om,Om⟩)) ?_
 rintro v g ⟨L',hL,hf,hx⟩;refine Rs t0 ?_;exact⟨L',hL,hf.aT,λx Tu=>(hx x Tu).ok⟩
end
def JH(d:Kd):(bf d).length<=16:=by cases d<;>decide
def sO{e d}(we:jf e d):OV e/\(cC e).length<=520:=by
 have h3:(aM d).length<=3/\bQ d<=3:=by cases d<;>decide
 have h1:=we.nl;have h2:=we.vl;have h4:=we.nu;have dl:∀{y:Int},0<=y->y<=999999999->(dS y).length<=64:=λ{y} h0 h1=>by have:=lu (k:=9) (u:=y.toNat) Om;rw[gD];omega
 have hb:(cC e).length<=520:=by
  have hj:=p7 (c:=32) (l:=td e) λx hx=>by
   unfold td at hx;simp only[aam,aaN,abb,abP,aaK]at hx;rcases hx with((rfl|rfl)|hx)|⟨y,hy,rfl⟩
   ·exact z175
   ·have:=JH d;rw[bY we.kd];omega
   ·have:=wT (we.nm x hx);omega
   ·have:=we.vr y hy;exact dl Om Om
  have hl:(td e).length<=8:=by
   unfold td;simp only[aac,aah,aal,aak];omega
  unfold cC;omega
 exact⟨⟨Om,λx hx=>by have:=we.vr x hx;omega,Om,Om,Om⟩,hb⟩
section
variable {P:Program}(T:eD P) {h:ah}
include T
def r45(Z:nB P)(pw:Pw h){V b}(o:vY h b V)(w:jU V.bN)(hl:V.cK.length<=1000):
  ay P 45 [.ptr b 0] h (λv _=>v=.str (aJ V.bN.cK)):=by
 refine .lI 12 T.mix T.c45 ?_;intro ts hlen t0;unfold fn45 gA;have lb:=@fx _ _ _ o.hb;refine Rs (A3 t0 @p8 @lb) ?_;refine WF.res T.c115 (r115 T o.ie (λx hx=>⟨(o.ae x hx).n.one,(o.ae x hx).v.one⟩) Om (λx=>fB x.ev) (λx hx k e=>by
  obtain⟨d,we⟩:=w.ev x.ev (aaH hx);exact bH.of (a:=[]) (c:=[]) T.c97 (r97 T Z ((o.ae x hx).ext e) (sO we).1 (pw.ext e)))) ?_
 rintro v g hf;refine Rs t0 ?_;have T0:(V.cK.map λx=>fB x.ev).flatten.length<=V.cK.length*529:=by
  have:∀L:List EV,(∀x∈L,(fB x.ev).length<=529)->(L.map λx=>fB x.ev).flatten.length<=L.length*529:=by
   intro L
   induction L with
   |nil=>intro _;simp
   |cons x r ih=>
    intro hx;have h1:=ih λy hy=>hx y (aaP _ hy)
    have h2:=hx x Si;rw[abd,abr,aac,aah,aby];omega
  refine this _ λx hx=>?_
  obtain⟨d,we⟩:=w.ev x.ev (aaH hx);have:=(sO we).2;rw[Db T Z];omega
 refine WF.ce T.c114 (Z.join hf.aT ⟨by rw[DG];omega,by rw[aak];omega⟩) λg2=>?_
 refine Rs t0 ?_;rw[DG,aJ,HV.bN,abQ];rfl
end
section
variable {P:Program}(T:eD P) {B:ah}
include T
def N5{W V b}(he:Ext B W)(o:b9 B.length W b V)(w:jU V.bN)(hl:V.cK.length<=1000)(gl:Gl B)(pw:Pw B)(X:vW P)(Z:nB P)(s:By)(hs:s.length<=2^36):
  dy P 43 [.ptr b 0,.str s] W (λv k=>mD B W b V (sR V.bN s) v k):=by
 obtain⟨g,rfl⟩:=he;exact S0 T o w hl gl pw X Z s hs
omit T in
theorem Fa{h k s es cs}(hs:aI h s es cs)(hk:∀j,sB s=some j->j<h.length->k[j]? =h[j]?):aI k s es cs:=by
 cases hs with
 |nil=>exact .nil
 |mk hb hf ho he=>
  have:=hk _ rfl (aad.1 hb).1;exact .mk (this.trans hb) hf ho he
omit T in
theorem My{h s es cs}(hs:aI h s es cs){j}(hj:sB s=some j):j<h.length:=by
 cases hs with
 |nil=>cases hj
 |mk hb _ _ _=>cases hj;exact(aad.1 hb).1
def SZ{g V b}(o:b9 B.length (B++g) b V)(w:jU V.bN)(gl:Gl B)(pw:Pw B)(X:vW P)(Z:nB P){s L}(hs:aI (B++g) s 3 (L.map tY))(hns:∀j,sB s=some j->some j∉V.ex b)
  (hlL:V.cK.length+L.length<=1000) (bN:∀x∈L,x.1.length<=2^36) {H'}(ha:nw V.bN L=some H'):
  dy P 71 [.ptr b 0,s] (B++g) (λv k=>v=.bool true/\∃g' V',k=B++g'/\b9 B.length (B++g') b V'/\V'.bN=H'/\jU V'.bN/\V'.cK.length<=1000):=by
 refine .eQ 35 T.mix T.c71 ?_;intro ts hlen t0 t1;unfold fn71 gA;refine Rs (A4 t0 t1 @p8 hs.aK) ?_;refine WL.inv T.mix (λn ts h'=>∃(k:Nat) (V':HV) (g':ah),k<=L.length/\n=L.length-k/\h' =B++g'/\b9 B.length (B++g') b V'/\jU V'.bN/\V'.cK.length<=V.cK.length+k/\nw V'.bN (L.drop k)=some H'/\aI (B++g') s 3 (L.map tY)/\(∀j,sB s=some j->some j∉V'.ex b)/\
   ts.length=35/\slot ts 0=.ptr b 0/\slot ts 11=s/\slot ts 12=.i L.length/\slot ts 13=.i k) L.length
  ⟨0,V,g,Om,rfl,rfl,o,w,Om,ha,hs,hns,Sn,(Sq t0),(Sq t1),(Sq t0),gX⟩ ?_
 clear t0 t1 hlen o w hs hns ha;clear ts;rintro _ ts _ ⟨k,V',g',hk,rfl,rfl,o,w,Yh,ha,hs,hns,hlen,t0,t11,t12,t13⟩;by_cases hlt:k<L.length
 ·have e3:=eO hlt;have e5:=wrapN (n:=k) Om;have ix:=hs.dK (kk:=.i64) hlt;have ld:∀{k'},Ext (B++g') k'->ao (some 3) (cT s 3 k) (λb=>k'[b]?)=some (.agg (tY L[k]),.ar):=λ{k'} e=>hs.lL hlt e
  obtain⟨⟨a,m,c⟩,hx⟩:∃x,x=L[k]:=⟨_,rfl⟩;have hm:(a,m,c)∈L:=by rw[hx];exact aat _
  have hd:L.drop k=(a,m,c)::L.drop (k+1):=by rw[hx];simp
  rw[<-hx]at ld;unfold tY at ld;rw[hd,nw]at ha;split at ha
  case isFalse=>cases ha
  case isTrue hc=>
  have hc1:(sR V'.bN a).2.1=m:=hc.1;have hc2:(sR V'.bN a).2.2=c:=hc.2;have hwd:=L7 (s:=a) w;obtain⟨W,hW⟩:∃W,W=B++g'++[ak.b [.str a,.str m,.i c]]:=⟨_,rfl⟩;have eW:Ext (B++g') W:=by rw[hW];exact Xx
  have mW:W[(B++g').length]? =some (.b [.str a,.str m,.i c]):=by rw[hW,aan (aar _),abi];rfl
  have lW:∀{kk:ah}{n':Option Nat}{q:Nat},kk[(B++g').length]? =some (.b [.str a,.str m,.i c])->ao n' (.ptr (B++g').length q) (λz=>kk[z]?)=dO n' q (.b [.str a,.str m,.i c]):=λe=>aA e
  refine Rs (A7 t0 t11 t12 t13 e3 ix @ld) ?_;rw[<-hW];have lW1:=λ{n':Option Nat}{q:Nat}=>@lW W n' q mW
  refine Rs (A5 t0 t11 t12 t13 @lW1) ?_;refine WF.gen T.c43 (N5 T ((Ext.app _ (Ext.refl _):Ext B (B++g')).trans eW) (o.ext eW) w Om gl pw X Z a (bN _ hm)) ?_;rintro _ _ ⟨g2,V2,rfl,rfl,o2,hV2,hkp,hex⟩;have hWl:W.length=(B++g').length+1:=by rw[hW,aac];rfl
  have m2:(B++g2)[(B++g').length]? =some (.b [.str a,.str m,.i c]):=by
   rw[hkp _ Om (λhj=>by have:=o.DU hj;omega)];exact mW
  have lW2:=λ{n':Option Nat}{q:Nat}=>@lW (B++g2) n' q m2
  have d1:decide (m≠m)=false:=aaf (λz=>z rfl);have d2:decide (c≠c)=false:=aaf (λz=>z rfl);rw[hc1,hc2];refine Rs (A8 t0 t11 t12 t13 @lW2 @d1 @d2 e5) ?_;have hsW:=hs.ext eW;refine⟨L.length-(k+1),Om,k+1,V2,g2,Om,rfl,rfl,o2,by rw[hV2];exact hwd.1,?_,by rw[hV2];exact ha,Fa hsW λj hj hl=>hkp j hl (hns j hj),λj hj hx=>?_,rfl⟩
  ·have e1:V2.cK.length=V2.bN.cK.length:=by simp[HV.bN]
   have e2:V'.cK.length=V'.bN.cK.length:=by simp[HV.bN]
   have:=hwd.2;rw[<-hV2]at this;omega
  ·rcases hex j hx with hx|hx
   ·exact hns j hj hx
   ·have:=My hs hj;omega
 ·have e3:=fC hlt;have e4:k=L.length:=Om
  rw[e4,abh,nw]at ha;cases ha;refine Rs (A5 t0 t11 t12 t13 e3) ?_;exact⟨g',V',rfl,o,rfl,w,Om⟩
end
def KU:List (By×By×Int):=[
 ([116,97,112,101,32,97,32,49,32,49,48],[100,111,110,101,32,49],0),
 ([116,97,112,101,32,98,32,53,32,49,48,48],[100,111,110,101,32,50],0),
 ([108,105,110,101,32,108,49,32,53,32,50],[100,111,110,101,32,51],0),
 ([115,104,111,116,32,115,49,32,108,49,32,97,32,54],[100,111,110,101,32,52],0),
 ([115,104,111,116,32,115,50,32,108,49,32,98,32,55],[100,111,110,101,32,53],0),
 ([99,111,112,121,32,97,32,98,32,56],[100,111,110,101,32,54],0),
 ([116,97,112,101,115,32,115,49],[97,32,98],0),
 ([99,111,112,121,32,97,32,98,32,49,50],[],30),
 ([119,97,110,116,32,108,49],[50,32,50,32,111,112,101,110],0),
 ([97,99,99,101,112,116,32,108,49,32,57],[100,111,110,101,32,55],0),
 ([115,104,111,116,32,115,51,32,108,49,32,98,32,57],[],23),
 ([115,111,117,114,99,101,32,109,49,32,108,49,32,57],[100,111,110,101,32,56],0),
 ([109,111,100,117,108,101,32,109,50,32,109,49,32,57,32,50],[100,111,110,101,32,57],0),
 ([109,111,100,117,108,101,32,109,51,32,109,50,32,57,32,51],[100,111,110,101,32,49,48],0),
 ([109,111,100,117,108,101,32,109,52,32,109,49,32,57,32,51],[],2),
 ([109,101,114,103,101,32,109,52,32,109,49,32,109,50,32,57],[],2),
 ([114,117,110,32,106,49,32,109,51,32,49,48,32,51],[100,111,110,101,32,49,49],0),
 ([116,105,108,101,32,106,49,32,49,48,32,50,32,55],[100,111,110,101,32,49,50],0),
 ([116,105,108,101,32,106,49,32,49,48,32,48,32,53],[100,111,110,101,32,49,51],0),
 ([108,101,102,116,32,106,49],[49],0),
 ([102,97,105,108,32,106,49,32,49,49,32,50],[100,111,110,101,32,49,52],0),
 ([108,101,102,116,32,106,49],[49,32,50],0),
 ([112,105,99,116,117,114,101,32,112,49,32,106,49,32,49,49],[],32),
 ([116,105,108,101,32,106,49,32,49,49,32,49,32,54],[100,111,110,101,32,49,53],0),
 ([116,105,108,101,32,106,49,32,49,49,32,50,32,55],[100,111,110,101,32,49,54],0),
 ([112,105,99,116,117,114,101,32,112,49,32,106,49,32,49,50],[100,111,110,101,32,49,55],0),
 ([102,114,111,109,32,112,49],[115,49,32,115,50],0),
 ([108,105,110,101,115,32,109,51],[108,49],0),
 ([117,110,115,97,102,101],[110,111,110,101],0),
 ([114,101,108,101,97,115,101,32,112,49,32,49,50],[100,111,110,101,32,49,56],0),
 ([117,110,100,111],[],21),
 ([114,101,108,101,97,115,101,100],[112,49,32,53,50,57,49,55,52],0)]
def vV:iZ:=(nw iZ.zero KU).getD iZ.zero
set_option maxRecDepth 100000 in
def Od:(nw iZ.zero KU).isSome=true:=by decide+kernel
set_option maxRecDepth 100000 in
def Ki:vV.cK.length=18:=by decide+kernel
set_option maxRecDepth 100000 in
def Eh:wB (vV.cK.take 5) [115,49] 12=(false,0):=by decide+kernel
set_option maxRecDepth 100000 in
def Eg:wB vV.cK [115,49] 105=(true,0):=by decide+kernel
set_option maxRecDepth 100000 in
def Ke:qU vV.cK 106=([[115,49],[115,50]],0):=by decide+kernel
set_option maxRecDepth 100000 in
def GO:zZ vV.cK [109,51]=([[109,49],[109,50],[109,51]],0):=by decide+kernel
set_option maxRecDepth 100000 in
def Kj:Gi [5,6,7]=(529174,0):=by decide+kernel
set_option maxRecDepth 100000 in
def yd:(nE vV.cK [108,49]).1.length=8/\(nE vV.cK [108,49]).2=0:=by decide+kernel
set_option maxRecDepth 100000 in
def Kh:(aJ vV.cK).length<=100000:=by decide+kernel
set_option maxRecDepth 100000 in
def Kg:(cD (aJ vV.cK++[49])).2.2=28/\(cD (aJ vV.cK++[49])).1.length=18/\(cD (aJ vV.cK++[49])).2.1=(aJ vV.cK).length:=by decide+kernel
set_option maxRecDepth 100000 in
def Kf:hP [49,49]=[48,49,51,49,53,56,49]:=by decide+kernel
def vz{h c N}:nv .Ob (.slice h.length 0 1 1) (λb=>(h++[ak.cells [.int .u8 c] true true])[b]?) N=some (.str [UInt8.ofNat c.toNat],.ar):=by
 simp only[nv,fp,aaB,ba];rfl
def Ao{n}(h0:0<=n)(h1:n<10):UInt8.ofNat (IntKind.u8.wrap (IntKind.i64.wrap (48+n))).toNat=UInt8.ofNat (48+n.toNat):=by
 rw[aY Om Om,Cj Om Om];congr 1;omega
section
variable {P:Program}(T:eD P)
include T
set_option maxRecDepth 10000 in
def r197:∀{k}{n}{h},0<=n->n<10^(k+1)->k<=15->ay P 197 [.i n] h (λv _=>v=.str (dS n)):=by
 intro k
 induction k with
 |zero=>
  intro n h h0 h1 _;refine .of T.mix T.c197 ?_;unfold fn197 gA;have h10:n<10:=by simpa using h1
  have d0:decide (n<0)=false:=aaf Om;exact R6
 |succ k ih=>
  intro n h h0 h1 hk;refine .of T.mix T.c197 ?_;unfold fn197 gA;have d0:decide (n<0)=false:=aaf Om;by_cases h10:n<10
  ·exact R6
  ·have d1:decide (n<10)=false:=aaf h10;have hb:n<=10^17:=by
    have:(10:Int)^(k+1+1)<=10^17:=by
     have:=Nat.pow_le_pow_right (n:=10) De (show k+1+1<=17 by omega)
     exact_mod_cast this
    omega
   have eq:n.tdiv 10=n / 10:=Int.tdiv_eq_ediv_of_nonneg h0;have em:n.tmod 10=n%10:=abO h0;have w1:IntKind.i64.wrap (n / 10)=n / 10:=aY Om Om;have bq:eG .quo (.i n) (.i 10)=some (.i (n / 10)):=by rw[GA De,eq,w1]
   have bm:eG .rem (.i n) (.i 10)=some (.i (n%10)):=by rw[jw De,em]
   refine Ws (A4 @d0 @d1 @bq @bm) ?_;refine WF.ce T.c197 (ih Om (by rw[Int.pow_succ]at h1;omega) Om) λg1=>?_
   have hd:=lu (k:=k) (u:=(n / 10).toNat) (by
    have h2:n / 10<10^(k+1):=by rw[Int.pow_succ]at h1;omega
    have h3:(((n / 10).toNat:Nat):Int)<((10^(k+1):Nat):Int):=by rw[acT Om];exact_mod_cast h2
    exact_mod_cast h3)
   have bc:∀{c:UInt8},eG .add (.str (dS (n / 10))) (.str [c])=some (.str (dS (n / 10)++[c])):=fA (by rw[gD];simp;omega);refine Ws (A5 @bq @bm @vO @vz @bc) ?_;rw[Ao Om Om,gD,gD,Lib.decDigits.eq_def n.toNat,dif_neg Om];congr 3
   ·omega
   ·congr 2;omega
def r108{k n h}(h0:0<=n)(h1:n<10^(k+1))(hk:k<=15):ay P 108 [.i n] h (λv _=>v=.str (dS n)):=by
 refine .of T.mix T.c108 ?_;unfold fn108 gA;refine Wn ?_;refine WF.ce T.c197 (r197 T h0 h1 hk) λg=>?_
 exact Wn Tv
set_option maxRecDepth 10000 in
def r72{h}(s:By)(hs:s.length<=2^40):ay P 72 [.str s] h (λv _=>v=.str (hP s)):=by
 refine .lI 28 T.mix T.c72 ?_;intro ts hlen t0;unfold fn72 gA;refine Rs t0 ?_;refine WL.inv T.mix (λn ts' h'=>∃k:Nat,k<=s.length/\n=s.length-k/\h' =h/\ts'.length=28/\slot ts' 0=.str s/\slot ts' 3=.i (gg (s.take k))/\slot ts' 4=.i k) s.length
  ⟨0,Om,rfl,rfl,(Sq t0),(Sq t0),gX,gX⟩ ?_
 rintro _ ts' hz ⟨k,hk,rfl,hh,UH,u0,u3,u4⟩;rw[hh];clear hh hz;clear hlen t0;have hlen:=UH;clear UH;by_cases hlt:k<s.length
 ·have e3:=eO hlt;have hb:=kT (s.take k);have hcn:=UInt8.toNat_lt s[k];have w1:IntKind.i64.wrap (339*gg (s.take k))=339*gg (s.take k):=aY Om Om;have w2:IntKind.i64.wrap (s[k].toNat:Int)=(s[k].toNat:Int):=aY Om Om;have w3:IntKind.i64.wrap (339*gg (s.take k)+(s[k].toNat:Int))=339*gg (s.take k)+(s[k].toNat:Int):=aY Om Om;have er:=jw (k:=.i64) (a:=339*gg (s.take k)+(s[k].toNat:Int)) (b:=9999749) De;rw[<-wk,<-fD hlt]at er
  repeat (first|simp (config:={maxSteps:=1000000}) only[aU,aX,bz,bA,reduceAdd,reduceMul,reduceLeDiff,reduceEqDiff,bC,hlen,aay,aaB,u0,u3,u4,e3,jN hlt,w1,w2,w3,er,wrapN (show k+1<2^63 by omega)]|simp (config:={maxSteps:=1000000}) (disch:=first|(simp only[aac,aah,aal]<;>omega)|rfl|omega|fail) only[gp,aU,aX,bz,bA,reduceAdd,reduceMul,reduceLeDiff,reduceEqDiff,bC,hlen,aay,aaB,u0,u3,u4,e3,jN hlt,w1,w2,w3,er,wrapN (show k+1<2^63 by omega)])
  exact Lp
 ·have e3:=fC hlt;have ek:k=s.length:=Om
  rw[ek,aaS]at u3;have hb:=kT s;have hl:=uN s;refine Rs (A4 @u0 @u3 @u4 e3) ?_;refine WF.ce T.c108 (r108 T (k:=7) hb.1 Om Om) λg=>?_
  refine Rs @u0 ?_;generalize hd:dS (gg s)=d at hl;have hT:hP s=List.replicate (7-d.length) 48++d:=by unfold hP;rw[hd]
  refine WL.inv T.mix (λn ts' h'=>∃j:Nat,d.length+j<=7/\n=7-(d.length+j)/\Ext h h'/\ts'.length=28/\slot ts' 5=.str (List.replicate j 48++d)) (7-d.length)
   ⟨0,Om,rfl,Xx,(Sq @u0),gX⟩ ?_
  rintro _ Vb _ ⟨j,hj,rfl,⟨g2,rfl⟩,XH,v5⟩;clear hlen;have hlen:=XH;by_cases h7:d.length+j<7
  ·have e7:decide (((List.replicate j (48:UInt8)++d).length:Int)<7)=true:=aaj (by rw[aac,abo];omega);have hbc:([48] :By).length+(List.replicate j (48:UInt8)++d).length<2^62:=by rw[aac,abo];simp only[aah,aal];omega
   have bc:=fA hbc;refine Rs (A3 @v5 e7 @bc) ?_;exact⟨7-(d.length+(j+1)),Om,j+1,Om,rfl,rfl⟩
  ·have e7:decide (((List.replicate j (48:UInt8)++d).length:Int)<7)=false:=aaf (by rw[aac,abo];omega);have ej:j=7-d.length:=Om
   refine Rs (A2 @v5 e7) ?_;rw[hT,ej]
end
def KT(k:Nat):ai:=(fn15).body.dr k
def GM(k:Nat):ai:=(KT k).hd
def Oc:fn15=⟨158,0,[(0,none)],.seq (GM 0) (.seq (GM 1) (.seq (GM 2) (KT 3)))⟩:=rfl
def xE{h:ah}{M:List (By)}:aI (h++[ak.cells (M.map aq).flatten true true]) (.slice h.length 0 (M.map aq).length 1) 1 (M.map aq):=(Fr.push (es:=1) (N:=0) (aaQ _) (M.map aq) (by simp[aq])).aT
section
variable {P:Program}(T:eD P) {h:ah}
include T
omit T in
theorem GN:nw iZ.zero KU=some vV:=by
 have:=Od;unfold vV;generalize nw iZ.zero KU=o at this ⊢;cases o with
 |none=>cases this
 |some x=>rfl
def Oi{B W V b}(he:Ext B W)(o:b9 B.length W b V)(w:jU V.bN)(gl:Gl B)(pw:Pw B)(X:vW P)(Z:nB P){s L}(hs:aI W s 3 (L.map tY))(hns:∀j,sB s=some j->some j∉V.ex b)
  (hlL:V.cK.length+L.length<=1000) (bN:∀x∈L,x.1.length<=2^36) {H'}(ha:nw V.bN L=some H'):
  dy P 71 [.ptr b 0,s] W (λv k=>v=.bool true/\∃g' V',k=B++g'/\b9 B.length (B++g') b V'/\V'.bN=H'/\jU V'.bN/\V'.cK.length<=1000):=by
 obtain⟨g,rfl⟩:=he;exact SZ T o w gl pw X Z hs hns hlL bN ha
def RI(X:vW P)(Z:nB P){W:ah}(gl:Gl W)(pw:Pw W){V:HV}{b:Nat}(o:vY W b V)(w:jU V.bN)(hl:V.cK.length<=1000)(hV:V.bN=vV){ts:TS}(hlen:ts.length=158)(t1:slot ts 1=.ptr b 0)(he:Ext h W):
  WC P bP (KT 3) [] ts W (FQ [(0,none)] λv k=>Ext h k/\v=.bool true):=by
 unfold KT fn15 gA;simp only[ai.j,ai.s,ai.r,ai.dr,ai.tl,ai.hd];refine Rs t1 ?_;refine WF.res T.c44 (r44 T o w hl) ?_;rintro sv g1 ⟨L,hL,oL⟩;rw[hV]at hL;have XU:L.length=18:=by have:=aaR List.length hL;rw[aak,Ki]at this;exact this
 have hsh:∀x∈L,x.ev.names.length<=2^30/\x.ev.bK.length<=2^30:=λx hx=>by
  obtain⟨d,we⟩:=w.ev x.ev (by rw[hV,<-hL];exact aaH hx);have h3:(aM d).length<=3/\bQ d<=3:=by cases d<;>decide
  have:=we.nl;have:=we.vl;exact⟨Om,Om⟩
 have sh:B0 L:=⟨Om,hsh⟩;have d18:decide ((L.length:Int)≠18)=false:=aaf (λz=>z Om);obtain⟨s5,e5,h5⟩:=oL.sl.EG (lo:=none) (hi:=some (.i 5)) (l:=0) (u:=5) (ju (k:=5) Om);have h5':aI (W++g1) s5 5 ((L.take 5).map EV.row):=h5;have o5:dJ (W++g1) (L.take 5) s5:=⟨h5',λx hx=>oL.all x (abc hx)⟩;have sh5:B0 (L.take 5):=⟨by rw[aaZ];omega,λx hx=>hsh x (abc hx)⟩;have m5:(L.take 5).map EV.ev=vV.cK.take 5:=by rw[acv,hL]
 refine Rs (A4 t1 oL.sl.aK @d18 e5) ?_;refine WF.ce T.c16 (r16 T o5 sh5 (gl.ext Xx) [115,49] 12) λg2=>?_
 rw[m5,Eh];refine Rs t1 ?_;refine WF.ce T.c16 (r16 T (oL.ext Xx) sh (gl.ext Xx) [115,49] 105) λg3=>?_
 rw[hL,Eg];refine Rs t1 ?_;refine WF.res T.c17 (r17 T (oL.ext Xx) sh (gl.ext Xx) 106) ?_;rintro _ g4 ⟨su,rfl,hu⟩;rw[hL,Ke]at hu ⊢;refine Rs t1 ?_;refine WF.res T.c51 (r51 T (oL.ext Xx) sh (gl.ext Xx) [109,51]) ?_;rintro _ g5 ⟨sn,rfl,hn⟩;rw[hL,GO]at hn ⊢;refine Rs t1 ?_;refine WF.ce T.c27 (r27 T (cE [5,6,7]) De) λg6=>?_
 rw[Kj];refine Rs t1 ?_;refine WF.res T.c26 (r26 T (oL.ext Xx) sh (gl.ext Xx) [108,49]) ?_;rintro _ g7 ⟨ss,Ls,rfl,os,hLs⟩;rw[hL]at hLs ⊢;have hLsl:Ls.length=8:=by have:=aaR List.length hLs;rw[aak,yd.1]at this;exact this
 rw[yd.2];refine Rs t1 ?_;refine WF.ce T.c45 (r45 T Z (pw.ext Xx) (o.ext Xx) w hl) λg8=>?_
 rw[hV];have hlg:=Kh;have hrc:=Kg;generalize aJ vV.cK=lg at hlg hrc ⊢;have bc:=fA (show lg.length+([49] :By).length<2^62 by simp only[aah,aal];omega);refine Rs (A2 t1 @bc) ?_;refine WF.res T.c37 (r37 T X Z (pw.ext Xx) (lg++[49]) (by rw[aac];simp only[aah,aal];omega)) ?_;rintro _ g9 ⟨Lr,sr,hLr,rfl,fr,-⟩;have hLrl:Lr.length=18:=by have:=aaR List.length hLr;rw[aak,hrc.2.1]at this;exact this
 rw[hrc.1,hrc.2.2];have d8:decide ((Ls.length:Int)=8)=true:=aaj Om;have d19:decide ((Lr.length:Int)=18)=true:=aaj Om;have wz:IntKind.i64.wrap ((0:Int)+0)=0:=rfl;have z0:decide ((0:Int)=0)=true:=rfl;refine Rs (A5 t1 @wz @z0 @aaI @aaE) ?_;refine WF.res T.c25 (r25 T (L:=[[115,49],[115,50]]) (M:=[[115,49],[115,50]]) ?hu (xE (M:=[[115,49],[115,50]])) De De) ?_
 case hu=>exact hu.ext Xx
 rintro _ k1 rfl;have q1:decide (([[115,49],[115,50]] :List (By))=[[115,49],[115,50]])=true:=rfl;have q2:decide (([[109,49],[109,50],[109,51]] :List (By))=[[109,49],[109,50],[109,51]])=true:=rfl;rw[q1];refine Rs (A2 t1 @aaE) ?_;refine WF.res T.c25 (r25 T (L:=[[109,49],[109,50],[109,51]]) (M:=[[109,49],[109,50],[109,51]]) ?hn (xE (M:=[[109,49],[109,50],[109,51]])) De De) ?_
 case hn=>exact hn.ext Xx
 rintro _ k2 rfl;rw[q2];have q3:decide ((529174:Int)=529174)=true:=rfl;have q4:decide ((28:Int)=28)=true:=rfl;have q5:decide ((lg.length:Int)=(lg.length:Int))=true:=aaj rfl;refine Rs (A9 t1 q3 q4 q5 @d8 @d19 os.sl.aK fr.aT.aK @aaE) ?_;refine WF.ce T.c72 (r72 T [49,49] De) λk3=>?_
 have q6:decide (([48,49,51,49,53,56,49] :By)=[48,49,51,49,53,56,49])=true:=aaj rfl;rw[Kf];refine Rs (A3 t1 q6 @aaE) ?_;exact⟨he.trans Xx,trivial⟩
def r15(X:vW P)(Z:nB P)(gl:Gl h)(pw:Pw h):ay P 15 [] h (λv _=>v=.bool true):=by
 refine .of T.mix (acP T.c15 (aaR some Oc)) ?_;obtain⟨ts,Tp⟩:∃ts,ts=aR 158 []:=⟨_,rfl⟩;have hlen:ts.length=158:=by rw[Tp];rfl
 obtain⟨RR,Ug⟩:∃RR,RR=KT 3:=⟨_,rfl⟩;show WC P bP _ [] (aR 158 []) h (FQ _ _);rw[<-Tp,<-Ug];clear Tp;unfold GM KT fn15 gA;simp only[ai.j,ai.s,ai.r,ai.dr,ai.tl,ai.hd];refine Rs @hlen ?_;refine WF.res T.c70 (r70 T) ?_;rintro _ g0 ⟨rfl,hg⟩;have hg:g0=[.b [.af,.af,.af]]:=abM hg;subst hg;refine Rs @hlen ?_;refine WF.gen T.c71 (Oi T (B:=h) (V:=V0) (b:=h.length) (L:=KU) (H':=vV) Xx (OA.app _) jU.zero gl pw X Z (Fr.push (N:=0) (h:=h++[ak.b [.af,.af,.af]]) (es:=3) (aaQ _) (KU.map tY) (λx hx=>by obtain⟨y,_,rfl⟩:=aaK.1 hx;rfl)).aT (λj hj hx=>by
  have:=OB j hx;have e:(h++[ak.b [.af,.af,.af]]).length=j:=abf hj;rw[aac]at e;simp at e;omega) De De GN) ?_
 rintro _ _ ⟨rfl,g',V',rfl,oV,hV,wV,Yh⟩;refine Rs (A2 @hlen @aaD) ?_;rw[Ug];exact RI T X Z (gl.ext ⟨_,rfl⟩) (pw.ext ⟨_,rfl⟩) oV.rd wV Yh hV (Sq @hlen) (Sq @hlen) ⟨_,rfl⟩
end
def yW:Go.Proofs.Tryz.prog.globals.size=9:=by kernel_rfl
def Ga:Gb Go.Proofs.Tryz.prog 2=20:=by kernel_rfl
open Go.RowKit in
def F4{h:ah}{n:Int}(h0:-9223372036854775808<=n)(h1:n<=9223372036854775807){mu tl:Bool}(hb:h[2]? =some (.cells (Lib.pow10Tab.map (AV.int .u64)) mu tl)):
  jQ Go.Proofs.Tryz.prog 113 [.int .i64 n] h (.str (Lib.itoa n)) h:=by
 intro m w vs hr ha;obtain⟨v,vs1,rfl,hv,hr1⟩:=aQ.1 ha;rw[bE]at hr1;subst hr1;rw[VR]at hv;subst hv;obtain⟨e,he,hcb,hd,-,dV⟩:=hr.fS 2 (by rw[yW];omega);obtain⟨cc,el,fz,hw,⟨hle,V6,hsz2⟩,Ty,-,-⟩:=hr.dW 2 e _ he hb;have htab:Lib.TabIs Go.Proofs.Tryz.prog w "internal/strconv.uint64pow10" .u64 Lib.pow10Tab:=by
  unfold Lib.TabIs World.var?;rw[Go.Proofs.Tryz.Ab.m17];show(match w.heap[2]? with|some (.cells cs _ _)=>some cs|_=>none)=_;rw[hcb]at hw;rw[hw];have h20:cc.size=20:=by rw[hsz2,dV,Ga]
  refine aaR some (Array.ext_getElem? λi=>?_);by_cases hi:i<20
  ·have hl:i<Lib.pow10Tab.length:=by rw[Lib.pow10Tab_length];exact hi
   obtain⟨_,cv,Vp,Ts⟩:=Ty i (.int .u64 Lib.pow10Tab[i]) (by rw[abz,aai hl];rfl);rw[VR]at Ts;rw[hd,aa4]at Vp;rw[Vp,Ts,abJ,abz,aai hl];rfl
  ·rw[abS Om,abS (by rw[List.size_toArray,aak,Lib.pow10Tab_length];omega)]
 refine(Go.Proofs.Any.strconv_Itoa Go.Proofs.Tryz.Ab n h0 h1 w htab).mono ?_;rintro e' w' ⟨rfl,k,os,rfl⟩;have hh:∀i,i<w.heap.size->(Go.Sort.grow (w.drewN k) os).heap[i]? =w.heap[i]? :=λi hi=>by
  show(w.heap++os)[i]? =_;rw[Array.getElem?_append_left hi]
 have hs:w.heap.size<=(Go.Sort.grow (w.drewN k) os).heap.size:=by
  show w.heap.size<=(w.heap++os).size;simp
 exact⟨_,m,rfl,rfl,⟨hr.cM,λb' e' k' a1 a2=>(hr.dW b' e' k' a1 a2).heap (hh _ (hr.lt b' e' a1)),hr.sep,hr.fS,λb' e' a1=>aa7 (hr.lt b' e' a1) hs⟩,
  ⟨λ_ _=>rfl,aar _,λb' e' a1 a2=>absurd (hr.cM b' e' a2) Om,λ_ _ x=>x,hs,rfl,rfl,rfl,λi hi _=>hh i hi⟩⟩
theorem tO:∀xs:List (By),(xs.map λx=>[AV.str x]).flatten=xs.map AV.str
 |[]=>rfl
 |x::xs=>by rw[abd,abr,tO xs];rfl
def aI.inv{h:ah}{b o n e es:Nat}{cs:List (List AV)}(hs:aI h (.slice b o n e) es cs):n=cs.length/\∃c mu tl,h[b]? =some (.cells c mu tl)/\(c.drop o).take (cs.length*es)=cs.flatten:=by
 generalize hx:AV.slice b o n e=x at hs;cases hs with
 |nil=>cases hx
 |mk hb hf ho he=>cases hx;exact⟨rfl,_,_,_,hb,hf⟩
open Go.RowKit in
def F3{h:ah}{s:AV}{sep:By}{xs:List (By)}(hs:aI h s 1 (xs.map λx=>[AV.str x]))(hl:(Lib.join xs sep).length<=140737488355328/\xs.length<=140737488355328):jQ Go.Proofs.Tryz.prog 114 [s,.str sep] h (.str (Lib.join xs sep)) h:=by
 intro m w vs hr hargs;obtain⟨v1,vs1,rfl,X8,hr1⟩:=aQ.1 hargs;obtain⟨v2,vs2,rfl,WI,UE⟩:=aQ.1 hr1;rw[bE]at UE;subst UE;rw[VR]at WI;subst WI;have fin:∀e w',(e=.returned (.string ⟨(Lib.join xs sep).toArray⟩)/\Below w.heap.size w w')->Rel Go.Proofs.Tryz.prog m h w (.str (Lib.join xs sep)) h e w':=by
  rintro e w' ⟨rfl,hb⟩;exact⟨_,m,rfl,rfl,⟨hr.cM,λb e k h1 h2=>(hr.dW b e k h1 h2).heap (hb.block _ (hr.lt b e h1)),hr.sep,hr.fS,λb e h1=>aa7 (hr.lt b e h1) hb.size⟩,
   ⟨λ_ _=>rfl,aar _,λb e h1 h2=>absurd (hr.cM b e h2) Om,λ_ _ h=>h,hb.size,hb.os,hb.output,hb.tape,λi hi _=>hb.block i hi⟩⟩
 have zero:xs=[]->∀(a:Option Addr) (c:Nat),Calls Go.Proofs.Tryz.prog 114 #[.slice a 0 c,.string ⟨⟨sep⟩⟩] w (Rel Go.Proofs.Tryz.prog m h w (.str (Lib.join xs sep)) h):=λhx a c=>by
  refine(Go.Proofs.Tryz.strings_Join_none a c ⟨⟨sep⟩⟩ w).mono λe w' ⟨he,hw⟩=>fin e w' ⟨?_,hw▸Below.refl _ _⟩
  rw[he,hx];rfl
 have hlen:=hs.aK (λ_=>none);cases s with
 |af=>
  rw[VR]at X8;subst X8;simp only[Go.Abs.kg,aaB,aaL]at hlen;exact zero (abg.1 hlen.symm) none 0
 |slice b o n es=>
  simp only[Go.Abs.kg,aaB,aaL]at hlen;subst hlen;rw[VR]at X8;obtain⟨ent,ca,cap,he,rfl,hcap,T7,dV⟩:=X8;by_cases hz:xs.length=0
  ·have Vh:=abg.1 hz;have:=zero Vh (some ca) cap;rw[hz];exact this
  ·have hca':=T7 Om;subst hca';generalize VS:xs.map (λx=>[AV.str x])=cs at hs;have hcl:cs.length=xs.length:=by rw[<-VS];simp
   obtain⟨_,c,mu,tl,hb,hf⟩:=hs.inv
   ·obtain⟨cc,el,fz,hheap,_,Uj,_⟩:=hr.dW b ent _ he hb;have key:=Go.Proofs.Tryz.strings_Join ent.cb (o+ent.d) cap (xs.map λl=>⟨⟨l⟩⟩) ⟨⟨sep⟩⟩ w ?_ (hr.lt b ent he) (by rw[aak];exact hl.2) (by rw[aak];omega) ?_
    ·rw[aak]at key;refine key.mono λe w' ⟨he,hw⟩=>fin e w' ⟨?_,hw⟩
     rw[he,abQ];simp[acI]
    ·intro j x hx;rw[abz,aaC]at hx;obtain⟨l,TB,rfl⟩:=hx;have hj:j<xs.length:=(aad.1 TB).1;have Zb:cs.flatten[j]? =some (.str l):=by
      rw[<-VS];have:=tO xs;rw[this,abz,TB];rfl
     rw[<-hf,List.getElem?_take,aas Om,acB]at Zb;obtain⟨_,cv,Vp,Ts⟩:=Uj _ _ Zb;rw[VR]at Ts;subst Ts;simp only[World.cell?,hheap,Option.isSome_none,aa2,aay];rw[show o+ent.d+j=ent.d+(o+j) by omega];exact Vp
    ·rw[abQ]
     simpa [acI]using hl.1
 |_=>cases hs
open Go.RowKit in
def tU{P:Program}{m:cw}{h:ah}{w:World}(hr:HR P m h w){a:AV}{v:Value}{e:Ending}{w':World}(hv:VR m a v)(he:e=.returned v)(hb:Below w.heap.size w w'):Rel P m h w a h e w':=
 ⟨v,m,he,hv,⟨hr.cM,λb e k h1 h2=>(hr.dW b e k h1 h2).heap (hb.block _ (hr.lt b e h1)),hr.sep,hr.fS,λb e h1=>aa7 (hr.lt b e h1) hb.size⟩,
  ⟨λ_ _=>rfl,aar _,λb e h1 h2=>absurd (hr.cM b e h2) Om,λ_ _ h=>h,hb.size,hb.os,hb.output,hb.tape,λi hi _=>hb.block i hi⟩⟩
theorem qM:∀{s:By}{a:Nat},s.all du=true->∃n,Lib.decFrom a s=some n/\(n:Int)=s.foldl (λn c=>10*n+((c.toNat:Int)-48)) (a:Int)
 |[],a,_=>⟨a,rfl,rfl⟩
 |c::s,a,h=>by
  simp only[abC,aaM]at h;have hc:=gB.1 h.1;have hd:Lib.digitVal c=some (c.toNat-48):=by unfold Lib.digitVal;rw[aas hc]
  obtain⟨n,h1,h2⟩:=qM (s:=s) (a:=a*10+(c.toNat-48)) h.2;refine⟨n,by rw[Lib.decFrom,hd];exact h1,?_⟩;rw[h2,ab2];congr 1;omega
def Ej{s:By}(h:s.all du=true)(hn:s≠[]):Lib.atoi s=some (jT s):=by
 obtain⟨n,h1,h2⟩:=qM (a:=0) h;cases s with
 |nil=>exact absurd rfl hn
 |cons c r=>
  have hc:=gB.1 (by simp only[abC,aaM]at h;exact h.1);have n1:(c==45)=false:=by
   exact Li
  have n2:(c==43)=false:=by
   exact Li
  rw[Lib.atoi,n1,n2,aao De,aao De,Lib.decNat,aao Si,h1,aca,h2];rfl
open Go.RowKit in
def GP{h:ah}{s:By}(hd:s.all du=true)(hn:s≠[])(hl:s.length<=9):jQ Go.Proofs.Tryz.prog 254 [.str s] h (.dQ [.int .i64 (jT s),.k8]) h:=by
 intro m w vs hr ha;obtain⟨v,vs1,rfl,hv,hr1⟩:=aQ.1 ha;rw[bE]at hr1;subst hr1;rw[VR]at hv;subst hv;refine(Go.Proofs.Any.strconv_Atoi Go.Proofs.Tryz.FT ⟨⟨s⟩⟩ (jT s) (by show s.length<=18;omega) (Ej hd hn) w).mono ?_;rintro e' w' ⟨rfl,t,rfl⟩;exact tU hr ⟨_,rfl,aQ.2 ⟨_,_,rfl,rfl,aQ.2 ⟨_,_,rfl,rfl,rfl⟩⟩⟩ rfl (Lib.bytesWorld_below _ _ _)
open Go.RowKit in
def I3{h:ah}{n:Nat}(hn:n<=7):jQ Go.Proofs.Tryz.prog 252 [.str [48],.int .i64 (n:Nat)] h (.str (List.replicate n 48)) h:=by
 intro m w vs hr ha;obtain⟨v1,vs1,rfl,X8,hr1⟩:=aQ.1 ha;obtain⟨v2,vs2,rfl,WI,UE⟩:=aQ.1 hr1;rw[bE]at UE;subst UE;have X8:v1=.string ⟨⟨[48]⟩⟩:=X8;have WI:v2=.int .i64 (n:Int):=WI;subst X8;subst WI;have hs:(⟨⟨[48]⟩⟩:ByteArray).size=1:=rfl;refine(Go.Proofs.Any.strings_Repeat Go.Proofs.Tryz.FU Go.Proofs.Tryz.pO ⟨⟨[48]⟩⟩ n w Om (by rw[hs];omega)).mono ?_;rintro e' w' ⟨rfl,hb⟩;have er:Lib.repeatL [48] n=List.replicate n 48:=by
  have:=Lib.repeatL_replicate 48 1 n;rw[acu]at this;exact this
 refine tU (v:=.string ⟨(Lib.repeatL [48] n).toArray⟩) hr ?_ rfl hb;show Value.string ⟨(Lib.repeatL [48] n).toArray⟩=.string ⟨⟨List.replicate n 48⟩⟩;rw[er]
def P1:nB Go.Proofs.Tryz.prog:=by
 refine⟨λh0 h1 w=>?_,λhs hl=>⟨_,[],by rw[aaF];exact F3 hs hl,rfl⟩,λh1 h2 h3=>⟨_,[],by rw[aaF];exact GP h1 h2 h3,rfl⟩,λh1=>⟨_,[],by rw[aaF];exact I3 h1,rfl⟩⟩;obtain⟨mu,tl,hb⟩:=w;exact⟨_,[],by rw[aaF];exact F4 h0 h1 hb,rfl⟩
def Ph:vW Go.Proofs.Tryz.prog:=
 ⟨run_callFunc_extern Go.Proofs.Tryz.func288 (by kernel_rfl) (by kernel_rfl) (by kernel_rfl) (by kernel_rfl),run_callFunc_extern Go.Proofs.Tryz.func262 (by kernel_rfl) (by kernel_rfl) (by kernel_rfl) (by kernel_rfl)⟩
open Go.ChangeShapes Go.WideShapes Go.Deep
inductive CT where
 |int (k:IntKind)
 |bool
 |str
 |sl (row:List CT)
def mz(P:Program)(f:TypeId->Option (List CT)):List Field->Nat->Option (List CT)
 |[],_=>some []
 |x::r,o=>
  match f x.type with
  |some a=>
   if x.offset=o/\a.length=P.cellsOf x.type then
    match mz P f r (o+a.length)with
    |some b=>some (a++b)
    |none=>none
   else none
  |none=>none
def BE(P:Program):Nat->TypeId->Option (List CT)
 | 0,_=>none
 |n+1,t=>
  match P.underlying t with
  |some (.int k)=>some [.int k]
  |some .bool=>some [.bool]
  |some .string=>some [.str]
  |some (.slice e)=>
   match BE P n e with
   |some r=>if r.length=P.cellsOf e/\0<r.length then some [.sl r]else none
   |none=>none
  |some (.struct fs)=>
   match mz P (BE P n) fs.toList 0 with
   |some r=>if r.length=P.cellsOf t then some r else none
   |none=>none
  |_=>none
mutual
def TY(h:ah):CT->AV->Prop
 |.int k,a=>∃z,a=.int k z/\(Lit.int k z).wf=true
 |.bool,a=>∃b,a=.bool b
 |.str,a=>∃s:By,a=.str s/\s.length<=maxLen
 |.sl r,a=>∃cs:List (List AV),aI h a r.length cs/\cs.length<=maxLen/\∀c∈cs,jA h r c
def jA(h:ah):List CT->List AV->Prop
 |[],l=>l=[]
 |t::ts,l=>∃a l',l=a::l'/\TY h t a/\jA h ts l'
end
mutual
theorem TY.ext{h k}(e:Ext h k):∀{t}{a},TY h t a->TY k t a
 |.int _,a,x=>x
 |.bool,a,x=>x
 |.str,a,x=>x
 |.sl r,a,x=>by
  rw[TY]at x ⊢;obtain⟨cs,h1,h2,h3⟩:=x;exact⟨cs,h1.ext e,h2,λc hc=>jA.ext e (h3 c hc)⟩
theorem jA.ext{h k}(e:Ext h k):∀{ts}{l},jA h ts l->jA k ts l
 |[],l,x=>x
 |t::ts,l,x=>by
  rw[jA]at x ⊢;obtain⟨a,l',h1,h2,h3⟩:=x;exact⟨a,l',h1,TY.ext e h2,jA.ext e h3⟩
end
theorem TY.one{h}:∀{t}{a},TY h t a->a.one=true
 |.int _,a,x=>by rw[TY]at x;obtain⟨z,rfl,_⟩:=x;rfl
 |.bool,a,x=>by rw[TY]at x;obtain⟨z,rfl⟩:=x;rfl
 |.str,a,x=>by rw[TY]at x;obtain⟨z,rfl,_⟩:=x;rfl
 |.sl r,a,x=>by rw[TY]at x;obtain⟨z,h1,_⟩:=x;exact h1.one
theorem jA.one{h}:∀{ts}{l},jA h ts l->l.all AV.one=true
 |[],l,x=>by rw[jA]at x;subst x;rfl
 |t::ts,l,x=>by
  rw[jA]at x;obtain⟨a,l',rfl,h1,h2⟩:=x;rw[abC,h1.one,jA.one h2];rfl
theorem jA.length{h}:∀{ts}{l},jA h ts l->l.length=ts.length
 |[],l,x=>by rw[jA]at x;subst x;rfl
 |t::ts,l,x=>by
  rw[jA]at x;obtain⟨a,l',rfl,h1,h2⟩:=x;rw[aah,aah,jA.length h2]
theorem jA.append{h}:∀{ts us}{l m},jA h ts l->jA h us m->jA h (ts++us) (l++m)
 |[],us,l,m,x,y=>by rw[jA]at x;subst x;exact y
 |t::ts,us,l,m,x,y=>by
  rw[jA]at x;obtain⟨a,l',rfl,h1,h2⟩:=x;show jA h (t:: (ts++us)) (a:: (l'++m));rw[jA];exact⟨a,_,rfl,h1,jA.append h2 y⟩
def gU(E:List tJ):cw:=λb=>E[b]?
def kK(E F:List tJ):(gU E).le (gU (E++F)):=λb e hb=>by
 unfold gU at hb ⊢;rw[aag (aad.1 hb).1];exact hb
structure AW(P:Program)(w:World)(E:List tJ)(B:ah):Prop where
 len:E.length=B.length
 own:∀(b:Nat) e,E[b]? =some e->e.own=false/\e.cb<w.heap.size
 dW:∀(b:Nat) e k,E[b]? =some e->B[b]? =some k->BR P (gU E) w e k/\(k=.dead\/∃c,k=.cells c false false)
 fS:∀g,g<P.globals.size->∃e,E[g]? =some e/\e.cb=g/\e.d=0/\e.own=false/\e.sz=Gb P g
variable {P:Program}{w:World}{E:List tJ}{B:ah}
def AW.hr(a:AW P w E B):HR P (gU E) B w where
 cM:=λb e hb=>by rw[<-a.len];exact(aad.1 hb).1
 dW:=λb e k hb hk=>(a.dW b e k hb hk).1
 sep:=λb1 b2 e1 e2 k1 k2 _ h1 h2 hk1 Tr _=>by
  rcases(a.dW b1 e1 k1 h1 hk1).2 with rfl|⟨c1,rfl⟩
  ·cases k2<;>trivial
  ·rcases(a.dW b2 e2 k2 h2 Tr).2 with rfl|⟨c2,rfl⟩
   ·trivial
   ·exact⟨rfl,rfl,λx=>by cases x⟩
 fS:=a.fS
 lt:=λb e hb=>(a.own b e hb).2
def AW.push(a:AW P w E B){e k}(ho:e.own=false)(hlt:e.cb<w.heap.size)(hb:BR P (gU E) w e k)(hk:k=.dead\/∃c,k=.cells c false false):AW P w (E++[e]) (B++[k]) where
 len:=by simp[a.len]
 own:=λb e' h=>by
  by_cases hlb:b<E.length
  ·rw[aag hlb]at h;exact a.own b e' h
  ·have:=(aad.1 h).1;simp at this;have:b=E.length:=Om
   subst this;simp at h;subst h;exact⟨ho,hlt⟩
 dW:=λb e' k' h h'=>by
  by_cases hlb:b<E.length
  ·rw[aag hlb]at h;rw[aag (by rw[<-a.len];exact hlb)]at h';exact⟨(a.dW b e' k' h h').1.mono (kK E [e]),(a.dW b e' k' h h').2⟩
  ·have:=(aad.1 h).1;simp at this;have UO:b=E.length:=Om
   have hbb:b=B.length:=by rw[UO,a.len]
   rw[UO]at h;rw[hbb]at h';simp at h h';subst h;subst h';exact⟨hb.mono (kK E [e]),hk⟩
 fS:=λg hg=>by
  obtain⟨e',h1,h2⟩:=a.fS g hg;exact⟨e',kK E [e] g e' h1,h2⟩
def Laid(P:Program)(w:World)(E:List tJ)(B:ah)(row:List CT)(cs:List Value):Prop:=
 ∃F C ax,AW P w (E++F) (B++C)/\cL (gU (E++F)) ax cs/\jA (B++C) row ax
def Laid.app{row row2 cs Wy}(h1:Laid P w E B row cs)(h2:∀F C,AW P w (E++F) (B++C)->Laid P w (E++F) (B++C) row2 Wy):Laid P w E B (row++row2) (cs++Wy):=by
 obtain⟨F,C,ax,a1,a2,a3⟩:=h1;obtain⟨F',C',ax',b1,b2,b3⟩:=h2 F C a1;refine⟨F++F',C++C',ax++ax',by rw[<-aae,<-aae];exact b1,?_,?_⟩
 ·rw[<-aae];exact(cL.mono (kK _ _) _ _ a2).append b2
 ·rw[<-aae];exact jA.append (a3.ext ⟨C',rfl⟩) b3
def DD(a:AW P w E B):Laid P w E B [] []:=⟨[],[],[],by simpa using a,by rw[bE],rfl⟩
def o8(a:AW P w E B){t x v}(hv:VR (gU E) x v)(ht:TY B t x):Laid P w E B [t] [v]:=
 ⟨[],[],[x],by simpa using a,by simpa using aQ.2 ⟨v,[],rfl,hv,by rw[bE]⟩,by
  rw[aaF,jA];exact⟨x,[],rfl,ht,rfl⟩⟩
section
variable {H:Type}{enc:TypeId×Value->H}{base:Nat}{held:Bool}
theorem uk{es:Nat}{r:List CT}{a:Addr}{m:Nat}(row:∀i,i<m->∃cs,w.cells? base (a.add (i*es)) es=some cs/\∀E B,AW P w E B->Laid P w E B r cs):∀(k:Nat) {E:List tJ}{B:ah},k<=m->AW P w E B->
  ∃(F:List tJ) (C:ah) (rows:List (List AV)) (VL:List Value),AW P w (E++F) (B++C)/\rows.length=k/\cL (gU (E++F)) rows.flatten VL/\(∀c∈rows,jA (B++C) r c)/\VL.length=k*es/\∀i,i<k*es->w.cell? (a.add i)=VL[i]?
 | 0,E,B,_,aw=>⟨[],[],[],[],by rw[aaF,aaF];exact aw,rfl,rfl,λc hc=>by(cases hc),by rw[aco];rfl,λi hi=>by rw[aco]at hi;exact absurd hi (Nat.not_lt_zero _)⟩
 |k+1,E,B,hkm,aw=>by
  obtain⟨F,C,rows,VL,h1,h2,h3,h4,h5,h6⟩:=uk row k Om aw;obtain⟨cs,VS,hl⟩:=row k Om;obtain⟨F',C',ax,a1,a2,a3⟩:=hl _ _ h1;obtain⟨_,hlen,Uj⟩:=World.cells?_some VS;refine⟨F++F',C++C',rows++[ax],VL++cs,by rw[<-aae,<-aae];exact a1,by rw[aac,h2];rfl,?_,?_,by rw[aac,h5,hlen,aby],?_⟩
  ·rw[<-aae,abK];refine(cL.mono (kK _ _) _ _ h3).append ?_;have:[ax].flatten=ax:=Si
   rw[this];exact a2
  ·intro c Yf;rw[<-aae];rcases aam.1 Yf with hm|hm
   ·exact(h4 c hm).ext ⟨C',rfl⟩
   ·rw[aaG]at hm;subst hm;exact a3
  ·intro i hi;rw[aby]at hi;by_cases hlt:i<k*es
   ·rw[h6 i hlt,aag Om]
   ·rw[aan Om,h5,<-Uj (i-k*es) Om,add_add,show k*es+(i-k*es)=i by omega]
theorem qE{f:TypeId->Option (List CT)}{cs:List Value}:∀(l:List Field) (o:Nat) {row:List CT},mz P f l o=some row->
  (∀x∈l,∀a,f x.type=some a->∀E B,AW P w E B->Laid P w E B a ((cs.drop x.offset).take (P.cellsOf x.type)))->∀E B,AW P w E B->Laid P w E B row ((cs.drop o).take row.length)
 |[],o,row,h,_,E,B,aw=>by
  unfold mz at h;cases h;rw[aal,acM];exact DD aw
 |x::l,o,row,h,hf,E,B,aw=>by
  unfold mz at h;split at h
  case h_2=>cases h
  rename_i a ha;split at h
  case isFalse=>cases h
  rename_i hc;split at h
  case h_2=>cases h
  rename_i b hb;cases h;have h1:=hf x (aba ..) a ha E B aw;rw[hc.1,<-hc.2]at h1;rw[aac,List.take_add,abB];exact h1.app λF C aw'=>qE l _ hb (λy hy=>hf y (aaP _ hy)) _ _ aw'
theorem jt(hz:∃(z:Nat) (cc:Array Value) (el:TypeId) (fz:Nat×Nat),w.heap[z]? =some (Obj.cells cc el fz)):∀(n:Nat) (t:TypeId) (row:List CT),BE P n t=some row->∀(fuel:Nat) (cs:List Value) (x:DataW H×List MemPlace),
  DataW.trod enc P w base (λ_=>true) held fuel t cs=some x->∀E B,AW P w E B->Laid P w E B row cs
 | 0,t,row,h,_,_,_,_,_,_,_=>by cases h
 |n+1,t,row,h,fuel,cs,x,ht,E,B,aw=>by
  unfold BE at h;split at h
  ·rename_i k hu;cases h;obtain⟨z,rfl,_,VQ⟩:=DataW.trod_int hu ht;exact o8 aw (x:=.int k z) (by rw[VR]) (by rw[TY];exact⟨z,rfl,VQ⟩)
  ·rename_i hu;cases h;obtain⟨b,rfl,_⟩:=DataW.trod_bool hu ht;exact o8 aw (x:=.bool b) (by rw[VR]) (by rw[TY];exact⟨b,rfl⟩)
  ·rename_i hu;cases h;obtain⟨s,rfl,_,hs⟩:=DataW.trod_string hu ht;refine o8 aw (x:=.str s.data.toList) (by rw[VR]) (by rw[TY];exact⟨_,rfl,by simpa using hs⟩)
  ·rename_i e hu;split at h
   case h_2=>cases h
   rename_i r hr;split at h
   case isFalse=>cases h
   rename_i hc;cases h;obtain⟨UC,hpos⟩:=hc;rcases open_slice hu ht with⟨rfl,_⟩|⟨a,len,cap,m,n',D,Pl,rfl,hb,hl,hm,Yw,_,hx⟩
   ·exact o8 aw (x:=.af) (by rw[VR]) (by rw[TY];exact⟨[],.nil,aaQ _,λc hc=>by cases hc⟩)
   simp only[aaB]at Yw;subst Yw;rw[<-UC]at hx;by_cases hcap:m=0
   ·have TJ:len=0:=Om
    subst TJ;subst hcap;obtain⟨z,cc,el,fz,ZM⟩:=hz;have h0lt:z<w.heap.size:=(aax.1 ZM).1;have hbr:BR P (gU E) w ⟨z,0,cc.size,false⟩ (.cells [] false false):=
     ⟨cc,el,fz,ZM,⟨aaQ _,aaQ _,rfl⟩,λi x hx=>by(rw[List.getElem?_nil]at hx;cases hx),⟨λx=>absurd x acf,λx=>by rcases x with x|x<;>exact absurd x acf⟩⟩
    have aw2:=aw.push (e:=⟨z,0,cc.size,false⟩) (k:=.cells [] false false) rfl h0lt hbr (.inr ⟨[],rfl⟩);refine⟨[⟨z,0,cc.size,false⟩],[.cells [] false false],[.slice B.length 0 0 r.length],aw2,?_,?_⟩
    ·refine aQ.2 ⟨_,[],rfl,?_,by rw[bE]⟩;rw[VR];exact⟨⟨z,0,cc.size,false⟩,a,0,by unfold gU;rw[<-aw.len];simp,rfl,aar _,λx=>absurd x Om,by rw[aco];exact aaQ _⟩
    ·rw[jA];refine⟨_,[],rfl,?_,by rw[jA]⟩;rw[TY];refine⟨[],?_,aaQ _,λc hc=>by cases hc⟩;exact aI.mk (cs:=[]) (b:=B.length) (o:=0) (c:=[]) (mu:=false) (tl:=false) Si Si Si (λx hx=>by cases hx)
   ·obtain⟨cs0,h00,_⟩:=hx 0 Om;obtain⟨csl,Ve,_⟩:=hx (m-1) Om;obtain⟨_,TJ,hc0⟩:=World.cells?_some h00;obtain⟨_,hlenl,hcl⟩:=World.cells?_some Ve;have Up:=hc0 0 hpos;have hlast:=hcl (r.length-1) Om;rw[add_add]at hlast;rw[add_add,aco,acW]at Up;have ha0:a.add 0=a:=by unfold Addr.add;simp
    rw[ha0,aai Om]at Up;unfold World.cell? at Up;split at Up
    case h_2=>cases Up
    rename_i cc el fz VM;split at Up
    ·cases Up
    rename_i hspot;have XS:a=⟨a.block,a.off,none⟩:=by
     cases a with
     |mk b o s=>cases s with
      |none=>rfl
      |some s=>exact absurd rfl hspot
    have Wg:∀i,a.add i=⟨a.block,a.off+i,none⟩:=λi=>by
     unfold Addr.add;by_cases hi:i=0
     ·subst hi;rw[aas rfl];exact XS
     ·rw[aao hi]
    have Wx:∀i,w.cell? (a.add i)=cc[a.off+i]? :=λi=>by
     rw[Wg];unfold World.cell?;simp only[VM,Option.isSome_none,aa2,aay]
    have hmr:(m-1)*r.length+(r.length-1)+1=m*r.length:=by
     obtain⟨m',rfl⟩:∃m',m=m'+1:=⟨m-1,Om⟩;rw[aby];simp only[Nat.add_sub_cancel];omega
    have dV:a.off+m*r.length<=cc.size:=by
     rw[Wx,aai Om]at hlast;have:=(aax.1 hlast).1;omega
    obtain⟨F,C,rows,VL,h1,h2,h3,h4,h5,h6⟩:=uk (P:=P) (w:=w) (base:=base) (es:=r.length) (r:=r) (a:=a) (m:=m)
     (λi hi=>by
      obtain⟨cs',q1,q2⟩:=hx i hi;exact⟨cs',q1,λE B aw=>jt hz n e r hr _ _ _ q2 E B aw⟩) len hl aw
    have T0:rows.flatten.length=len*r.length:=by rw[<-h5,h3.length]
    have hmul:len*r.length<=m*r.length:=abl _ hl;have Vd:∀c∈rows,c.length=r.length:=λc hc=>(h4 c hc).length
    have hone:∀x∈rows.flatten,x.one=true:=λx hx=>by
     obtain⟨c,hc,X7⟩:=List.mem_flatten.1 hx;exact aaO.1 (h4 c hc).one x X7
    have hlt:a.block<w.heap.size:=(aax.1 VM).1;have hbr:BR P (gU (E++F)) w ⟨a.block,a.off,cc.size,false⟩ (.cells rows.flatten false false):=
     ⟨cc,el,fz,VM,⟨by rw[T0];show a.off+_<=_;omega,by rw[T0];show a.off+_<=cc.size;omega,rfl⟩,λi x hx=>by
       refine⟨hone x (aa8 hx),?_⟩;obtain⟨v,hv,Ts⟩:=h3.get hx;have hi:i<len*r.length:=by rw[<-T0];exact(aad.1 hx).1
       refine⟨v,?_,Ts⟩;show cc[a.off+i]? =some v;rw[<-Wx,h6 i hi,hv],⟨λx=>absurd x acf,λx=>by rcases x with x|x<;>exact absurd x acf⟩⟩
    have aw2:=h1.push (e:=⟨a.block,a.off,cc.size,false⟩) (k:=.cells rows.flatten false false) rfl hlt hbr (.inr ⟨_,rfl⟩);rw[aae,aae]at aw2;refine⟨F++[⟨a.block,a.off,cc.size,false⟩],C++[.cells rows.flatten false false],[.slice (B++C).length 0 len r.length],aw2,?_,?_⟩
    ·refine aQ.2 ⟨_,[],rfl,?_,by rw[bE]⟩;rw[VR];refine⟨⟨a.block,a.off,cc.size,false⟩,a,m,?_,rfl,hl,λ_=>?_,?_⟩
     ·unfold gU;rw[<-h1.len,<-aae,aan (aar _),abi];rfl
     ·show a=⟨a.block,0+a.off,none⟩;rw[aa4];exact XS
     ·show 0+a.off+m*r.length<=cc.size;omega
    ·rw[jA];refine⟨_,[],rfl,?_,by rw[jA]⟩;rw[TY];refine⟨rows,?_,Om,λc hc=>?_⟩
     ·rw[<-h2];refine aI.mk (c:=rows.flatten) (mu:=false) (tl:=false) ?_ ?_ ?_ Vd
      ·rw[<-aae,aan (aar _),abi];rfl
      ·rw[abH,h2,<-T0,aaS]
      ·rw[h2,T0];omega
     ·rw[<-aae];exact(h4 c hc).ext ⟨_,rfl⟩
  ·rename_i fs hu;split at h
   case h_2=>cases h
   rename_i r hr;split at h
   case isFalse=>cases h
   rename_i hc;cases h;obtain⟨xs,n',rfl,rfl,hlen,hxl,hf⟩:=DataW.trod_struct hu ht;have:=qE (P:=P) (w:=w) (cs:=cs) fs.toList 0 hr (λx hx a ha E B aw=>by
    obtain⟨i,hi⟩:=List.getElem?_of_mem hx;have hi':fs[i]? =some x:=by rw[<-abI];exact hi
    have hlt:i<xs.length:=by rw[hxl];exact(aax.1 hi').1
    have h1:=hf i x hi';rw[aai hlt]at h1;exact jt hz n x.type a ha _ _ _ h1 E B aw) E B aw
   rw[abH,hc,<-hlen,aaS]at this;exact this
  ·cases h
inductive AT where
 |one (t:CT)
 |agg (r:List CT)
def Il(P:Program)(e:TypeId):Option CT:=
 match P.underlying e with
 |some (.int k)=>some (.int k)
 |some .string=>some .str
 |_=>none
def Kl(P:Program)(n:Nat)(t:TypeId):Option AT:=
 match P.underlying t with
 |some (.struct _)=>
  match BE P n t with
  |some r=>some (.agg r)
  |none=>none
 |some (.int k)=>some (.one (.int k))
 |some .bool=>some (.one .bool)
 |some .string=>some (.one .str)
 |some (.slice _)=>
  match BE P n t with
  |some [c]=>some (.one c)
  |_=>none
 |some (.array m e)=>
  match Il P e with
  |some c=>if P.cellsOf e=1/\P.cellsOf t=m then some (.agg (List.replicate m c))else none
  |none=>none
 |_=>none
def uX{w r b0}{t e:TypeId}{m v}(ht:P.underlying t=some (.array m e))(h:Value.okWide P w r b0 t v):∃cs,v=.agg cs/\cs.size=P.cellsOf t:=by
 simp only[Value.okWide,ht]at h;obtain⟨cs,h1,h2,_⟩:=h;exact⟨cs,h1,h2⟩
theorem uc{M B c}:∀(L:List Value),(∀i (hi:i<L.length),∃a,VR M a L[i]/\TY B c a)->∃l:List AV,cL M l L/\jA B (List.replicate L.length c) l
 |[],_=>⟨[],by rw[bE],by rw[aal,acR,jA]⟩
 |v::L,h=>by
  obtain⟨a,e,hz⟩:=h 0 Si;obtain⟨l,h1,h2⟩:=uc L λi hi=>h (i+1) (by simpa using hi)
  simp only[List.getElem_cons_zero]at e;refine⟨a::l,aQ.2 ⟨_,_,rfl,e,h1⟩,?_⟩;rw[aah,abW,jA];exact⟨_,_,rfl,hz,h2⟩
def uF(P:Program)(n:Nat):List TypeId->Option (List AT)
 |[]=>some []
 |t::ts=>
  match Kl P n t,uF P n ts with
  |some a,some l=>some (a::l)
  |_,_=>none
def Iq(h:ah):AT->AV->Prop
 |.one t,a=>TY h t a
 |.agg r,a=>∃l,a=.agg l/\jA h r l
theorem Iq.ext{h k}(e:Ext h k):∀{t}{a},Iq h t a->Iq k t a
 |.one _,_,x=>TY.ext e x
 |.agg _,_,⟨l,e1,x⟩=>⟨l,e1,jA.ext e x⟩
def tG(h:ah):List AT->List AV->Prop
 |[],l=>l=[]
 |t::ts,l=>∃a l',l=a::l'/\Iq h t a/\tG h ts l'
def DE(hz:∃(z:Nat) (cc:Array Value) (el:TypeId) (fz:Nat×Nat),w.heap[z]? =some (Obj.cells cc el fz)){n}{t:TypeId}{at'}(h:Kl P n t=some at'){v d ps}(ht:DataW.Trod enc P w base (λ_=>true) held t v d ps)
  {r}{b0}(ho:Value.okWide P w r b0 t v) (aw:AW P w E B):∃(F:List tJ) (C:ah) (a:AV),AW P w (E++F) (B++C)/\VR (gU (E++F)) a v/\Iq (B++C) at' a:=by
 obtain⟨fuel,ht⟩:=ht;unfold Kl at h;split at h
 ·rename_i fs hu;split at h
  case h_2=>cases h
  rename_i r hr;cases h;obtain⟨cs,rfl,_⟩:=okWide_struct hu ho;obtain⟨F,C,ax,h1,h2,h3⟩:=jt hz n t r hr fuel _ _ ht E B aw;refine⟨F,C,.agg ax,h1,?_,ax,rfl,h3⟩;rw[VR];exact⟨_,rfl,h2⟩
 ·rename_i k hu;cases h;obtain⟨z,rfl⟩:=okWide_int hu ho;obtain⟨z',e,_,VQ⟩:=DataW.trod_int hu ht;cases e;exact⟨[],[],.int k z,by rw[aaF,aaF];exact aw,by rw[VR],by show TY _ _ _;rw[TY];exact⟨z,rfl,VQ⟩⟩
 ·rename_i hu;cases h;obtain⟨z,rfl⟩:=okWide_bool hu ho;exact⟨[],[],.bool z,by rw[aaF,aaF];exact aw,by rw[VR],by show TY _ _ _;rw[TY];exact⟨z,rfl⟩⟩
 ·rename_i hu;cases h;obtain⟨s,rfl⟩:=okWide_string hu ho;obtain⟨s',e,_,hs⟩:=DataW.trod_string hu ht;cases e;exact⟨[],[],.str s.data.toList,by rw[aaF,aaF];exact aw,by rw[VR],by show TY _ _ _;rw[TY];exact⟨_,rfl,by simpa using hs⟩⟩
 ·rename_i e hu;split at h
  case h_2=>cases h
  rename_i c hc;cases h;obtain⟨a,len,cap,rfl⟩:=okWide_slice hu ho;obtain⟨F,C,ax,h1,h2,h3⟩:=jt hz n t _ hc fuel _ _ ht E B aw;rw[jA]at h3;obtain⟨x,l',rfl,h4,h5⟩:=h3;rw[jA]at h5;subst h5;obtain⟨y,ys,e,h6,_⟩:=aQ.1 h2;cases e;exact⟨F,C,x,h1,h6,h4⟩
 ·rename_i m e hu;split at h
  case h_2=>cases h
  rename_i c hk;split at h
  case isFalse=>cases h
  rename_i hc;cases h;obtain⟨cs,rfl,VS⟩:=uX hu ho;obtain⟨xs,n',rfl,_,hlen,hxl,hf⟩:=DataW.trod_array hu ht;have hcl:(Value.agg cs).cells.toList=cs.toList:=rfl;rw[hcl]at hlen hf;rw[hc.2]at hlen;obtain⟨l,h1,h2⟩:=uc (M:=gU E) (B:=B) (c:=c) cs.toList λi hi=>by
   have hi':i<xs.length:=Om
   have h3:=hf i Om;rw[hc.1,acu,aai hi',abj hi,abV,acM]at h3;unfold Il at hk;split at hk
   ·rename_i k hk';cases hk;obtain⟨z,e1,_,VQ⟩:=DataW.trod_int hk' h3;exact⟨.int k z,by rw[(List.cons.inj e1).1,VR],by rw[TY];exact⟨z,rfl,VQ⟩⟩
   ·rename_i hk';cases hk;obtain⟨s',e1,_,hs⟩:=DataW.trod_string hk' h3;exact⟨.str s'.data.toList,by rw[(List.cons.inj e1).1,VR],by rw[TY];exact⟨_,rfl,by simpa using hs⟩⟩
   ·cases hk
  rw[hlen]at h2;exact⟨[],[],.agg l,by rw[aaF,aaF];exact aw,by rw[VR,aaF];exact⟨_,rfl,h1⟩,l,rfl,by rw[aaF];exact h2⟩
 ·cases h
theorem um(hz:∃(z:Nat) (cc:Array Value) (el:TypeId) (fz:Nat×Nat),w.heap[z]? =some (Obj.cells cc el fz)){n r b0}:∀(tys:List TypeId) {ats},uF P n tys=some ats->∀(vs:List Value) (ds:List (DataW H)) (ps:List MemPlace),
  DataW.TrodAll enc P w base (λ_=>true) held tys vs ds ps->(∀(j:Nat) t v,tys[j]? =some t->vs[j]? =some v->Value.okWide P w r b0 t v)->∀{E}{B},AW P w E B->
  ∃(F:List tJ) (C:ah) (ax:List AV),AW P w (E++F) (B++C)/\cL (gU (E++F)) ax vs/\tG (B++C) ats ax
 |[],ats,h,vs,ds,ps,ht,_,E,B,aw=>by
  unfold uF at h;cases h;cases vs with
  |cons v vs=>cases ds<;>exact ht.elim
  |nil=>exact⟨[],[],[],by rw[aaF,aaF];exact aw,by rw[bE],by rw[tG]⟩
 |t::tys,ats,h,vs,ds,ps,ht,ho,E,B,aw=>by
  unfold uF at h;split at h
  case h_2=>cases h
  rename_i a l ha hl;cases h;cases vs with
  |nil=>cases ds<;>exact ht.elim
  |cons v vs=>
   cases ds with
   |nil=>exact ht.elim
   |cons d ds=>
    obtain⟨p,q,h1,h2,_⟩:=ht;obtain⟨F,C,x,a1,a2,a3⟩:=DE hz ha h1 (ho 0 t v rfl rfl) aw;obtain⟨F',C',xs,b1,b2,b3⟩:=um hz tys hl vs ds q h2 (λj t v h h'=>ho (j+1) t v h h') a1;refine⟨F++F',C++C',x::xs,by rw[<-aae,<-aae];exact b1,?_,?_⟩
    ·rw[<-aae];exact aQ.2 ⟨v,vs,rfl,VR.mono (kK _ _) _ _ a2,b2⟩
    ·rw[<-aae,tG];exact⟨x,xs,rfl,a3.ext ⟨C',rfl⟩,b3⟩
end
open Go.ChangeShapes Go.WideShapes Go.RowKit
def Ei(f:DataW Unit->Option (List AV)):List (DataW Unit)->Option (List AV)
 |[]=>some []
 |d::r=>
  match f d,Ei f r with
  |some a,some b=>some (a++b)
  |_,_=>none
def Ax(P:Program):Nat->TypeId->DataW Unit->Option (List AV)
 | 0,_,_=>none
 |n+1,t,d=>
  match P.underlying t with
  |some (.int k)=>
   match d with
   |.lit (.int _ z)=>some [.int k z]
   |_=>none
  |some .string=>
   match d with
   |.lit (.string s)=>some [.str s]
   |_=>none
  |some (.array m e)=>
   match d with
   |.agg l=>
    match Ei (Ax P n e) l with
    |some r=>if P.cellsOf t=m*P.cellsOf e then some r else none
    |none=>none
   |_=>none
  |_=>none
section
variable {P:Program}{w:World}{base:Nat}{sp:Nat->Bool}{held:Bool}
theorem Ay{f:DataW Unit->Option (List AV)}{m:cw}{ce:Nat}{cs:List Value}{g:List Value->Option (DataW Unit×List MemPlace)}(hf:∀c d p ax,g c=some (d,p)->f d=some ax->cL m ax c/\ax.all AV.one=true):
  ∀(l:List (DataW Unit×List MemPlace)) (o:Nat) {ax:List AV},Ei f (l.map (·.1))=some ax->(∀i (hi:i<l.length),g ((cs.drop ((o+i)*ce)).take ce)=some l[i])->cL m ax ((cs.drop (o*ce)).take (l.length*ce))/\ax.all AV.one=true
 |[],o,ax,h,_=>by
  unfold Ei at h;cases h;rw[aal,aco,acM];exact⟨by rw[bE],rfl⟩
 |x::l,o,ax,h,hx=>by
  rw[abd]at h;unfold Ei at h;split at h
  case h_2=>cases h
  rename_i a b ha hb;cases h;have h0:=hx 0 (by rw[aah];omega);rw[acW,List.getElem_cons_zero]at h0;obtain⟨p1,p2⟩:=hf _ x.1 x.2 a h0 ha;obtain⟨q1,q2⟩:=Ay hf l (o+1) hb (λi hi=>by
   have:=hx (i+1) (by rw[aah];omega);rw[List.getElem_cons_succ]at this;rw[show o+1+i=o+(i+1) by omega];exact this)
  refine⟨?_,by rw[acm,p2,q2];rfl⟩;rw[aah,aby,Nat.add_comm (l.length*ce) ce,List.take_add,abB];refine p1.append ?_;rw[<-aby];exact q1
theorem ye{m:cw}:∀(n:Nat) (t:TypeId) (fuel:Nat) (cs:List Value) (d:DataW Unit) (p:List MemPlace) (ax:List AV),
  DataW.trod (λ_=>()) P w base sp held fuel t cs=some (d,p)->Ax P n t d=some ax->cL m ax cs/\ax.all AV.one=true
 | 0,_,_,_,_,_,_,_,h=>by cases h
 |n+1,t,fuel,cs,d,p,ax,ht,h=>by
  unfold Ax at h;split at h
  ·rename_i k hu;obtain⟨z,rfl,e,_⟩:=DataW.trod_int hu ht;cases e;cases h;exact⟨aQ.2 ⟨_,[],rfl,by rw[VR],by rw[bE]⟩,rfl⟩
  ·rename_i hu;obtain⟨s,rfl,e,_⟩:=DataW.trod_string hu ht;cases e;cases h;exact⟨aQ.2 ⟨_,[],rfl,rfl,by rw[bE]⟩,rfl⟩
  ·rename_i mm e hu;obtain⟨xs,m',_,ex,hlen,hxl,hf⟩:=DataW.trod_array hu ht;cases ex;simp only at h;split at h
   case h_2=>cases h
   rename_i r hr;split at h
   case isFalse=>cases h
   rename_i hc;cases h;have:=Ay (m:=m) (ce:=P.cellsOf e) (cs:=cs) (g:=DataW.trod (λ_=>()) P w base sp held m' e) (λc d p ax h1 h2=>ye n e m' c d p ax h1 h2) xs 0 hr (λi hi=>by
    have:=hf i Om;rw[aai hi]at this;rw[aa4];exact this)
   rw[aco,abH,hxl,<-hc,<-hlen,aaS]at this;exact this
  ·cases h
def H4(P:Program)(laid:List (String×DataW Unit))(n:Nat)(g:Nat):ak:=
 match laid.find? (λx=>P.globalNamed x.1==some g)with
 |some x=>
  match (P.globals[g]?).map (·.type)with
  |some t=>
   match Ax P n t x.2 with
   |some ax=>if ax.length=Gb P g then .cells ax false false else .dead
   |none=>.dead
  |none=>.dead
 |none=>.dead
def uv(P:Program):List tJ:=(List.range P.globals.size).map λg=>⟨g,0,Gb P g,false⟩
def xK(P:Program)(laid:List (String×DataW Unit))(n:Nat):ah:=(List.range P.globals.size).map (H4 P laid n)
theorem la:∀{laid}{ps},DataW.LaidVars P w laid ps->∀x∈laid,∃g t cs fuel p,P.globalNamed x.1=some g/\(P.globals[g]?).map (·.type)=some t/\w.var? P x.1=some cs/\
  DataW.trod (λ_=>()) P w 0 (λ_=>true) false fuel t cs.toList=some (x.2,p)
 |[],_,_,x,hx=>by cases hx
 |(n,d)::r,ps,h,x,hx=>by
  obtain⟨g,t,cs,fuel,p,q,h1,h2,h3,h4,h5,_⟩:=h;rcases aaN.1 hx with rfl|hx
  ·exact⟨g,t,cs,fuel,p,h1,h2,h3,h4⟩
  ·exact la h5 x hx
def zw{n g cs}(hg:P.globalNamed n=some g)(h:w.var? P n=some cs):∃el fz,w.heap[g]? =some (.cells cs el fz):=by
 unfold World.var? at h;rw[hg]at h;simp only[Option.bind_some]at h;split at h
 ·rename_i c el fz hb;cases h;exact⟨el,fz,hb⟩
 ·cases h
theorem AW.globals{YQ laid}(hl:laidMet P YQ w)(hsub:∀x∈laid,x∈YQ)(n:Nat){nm d}(hlast:(nm,d)∈laid)(hg:P.globalNamed nm=some (P.globals.size-1)):
  AW P w (uv P) (xK P laid n)/\∃(z:Nat) (cc:Array Value) (el:TypeId) (fz:Nat×Nat),w.heap[z]? =some (Obj.cells cc el fz):=by
 obtain⟨ps,hv,_,_⟩:=hl;obtain⟨g0,t0,cs0,_,_,a1,_,a3,_⟩:=la hv _ (hsub _ hlast);obtain⟨el0,fz0,UA⟩:=zw a1 a3;have dV:P.globals.size-1<w.heap.size:=by
  have e:g0=P.globals.size-1:=abf (a1.symm.trans hg);rw[<-e];exact(aax.1 UA).1
 have hE:∀(b:Nat) e,(uv P)[b]? =some e->b<P.globals.size/\e=⟨b,0,Gb P b,false⟩:=λb e h=>by
  unfold uv at h;rw[abz]at h;have hb:b<P.globals.size:=by
   cases hr:(List.range P.globals.size)[b]? with
   |none=>rw[hr]at h;cases h
   |some y=>have:=(aad.1 hr).1;simpa using this
  rw[List.getElem?_range hb]at h;exact⟨hb,(abf h).symm⟩
 refine⟨⟨by simp[uv,xK],λb e h=>?_,λb e k h h'=>?_,λg hg=>⟨⟨g,0,Gb P g,false⟩,?_,rfl,rfl,rfl,rfl⟩⟩,⟨g0,cs0,el0,fz0,UA⟩⟩
 ·obtain⟨hb,rfl⟩:=hE b e h;exact⟨rfl,by show b<_;omega⟩
 ·obtain⟨hb,rfl⟩:=hE b e h;unfold xK at h';rw[abz,List.getElem?_range hb]at h';have h':=(abf h').symm;subst h';unfold H4;split
  case h_2=>exact⟨trivial,.inl rfl⟩
  rename_i x hx;split
  case h_2=>exact⟨trivial,.inl rfl⟩
  rename_i t ht;split
  case h_2=>exact⟨trivial,.inl rfl⟩
  rename_i ax has;split
  case isFalse=>exact⟨trivial,.inl rfl⟩
  rename_i hlen;refine⟨?_,.inr ⟨ax,rfl⟩⟩;obtain⟨g,t',cs,fuel,p,b1,b2,b3,b4⟩:=la hv x (hsub _ (List.mem_of_find?_eq_some hx));have hgb:P.globalNamed x.1=some b:=by have:=acX hx;simpa using this
  have e1:g=b:=abf (b1.symm.trans hgb);subst e1;have e2:t' =t:=abf (b2.symm.trans ht);subst e2;obtain⟨el,fz,VM⟩:=zw b1 b3;obtain⟨c1,c2⟩:=ye (m:=gU (uv P)) n t' fuel _ _ _ _ b4 has;have hcl:cs.size=ax.length:=by have:=c1.length;simpa using this
  refine⟨cs,el,fz,VM,⟨by show 0+_<=_;omega,by show 0+_<=Gb P g;omega,by show cs.size=Gb P g;omega⟩,λi x hx=>?_,⟨λx=>absurd x acf,λx=>by rcases x with x|x<;>exact absurd x acf⟩⟩;refine⟨aaO.1 c2 x (aa8 hx),?_⟩;obtain⟨v,X8,WI⟩:=c1.get hx;refine⟨v,?_,WI⟩;show cs[0+i]? =some v;rw[aa4,<-abI];exact X8
 ·unfold uv;rw[abz,List.getElem?_range hg];rfl
end
section
variable {P:Program}{W W':World}{E:List tJ}{B h':ah}{m':cw}
def AW.below(aw:AW P W E B)(g:Grow (gU E) B W m' h' W'):Below W.heap.size W W':=
 ⟨g.os,g.tape,g.out,g.size,λk hk=>g.frame k hk λb e hb ho=>by rw[(aw.own b e hb).1]at ho;cases ho⟩
def zh(b:Below W.heap.size W W')(may:MemPlace->Prop):W.keptBut W' may:=by
 refine⟨b.os,b.output,λi hi=>?_⟩;rw[b.block i hi];split
 ·rename_i h1 h2;rw[h1]at h2;simp only[aaL,Obj.cells.injEq]at h2;obtain⟨rfl,rfl,rfl⟩:=h2;exact⟨rfl,rfl,rfl,λ_ _=>rfl⟩
 ·rename_i h1 h2;rw[h1]at h2;simp only[aaL,Obj.map.injEq]at h2;obtain⟨rfl,rfl⟩:=h2;exact .inr ⟨rfl,rfl⟩
 ·rfl
variable {H:Type}{enc:TypeId×Value->H}
theorem nh(hlo:laidOutB P=true)(hb:Below W.heap.size W W'){sp}:∀{tys}{vs}{ds}{ps},(∀t∈tys,P.readableRec t=true/\t<P.types.size)->
  DataW.TrodAll enc P W 0 (λ_=>true) true tys vs ds ps->(∀p∈ps,p.block<W.heap.size)->(∀p∈ps,sp p.block=true)->DataW.TrodAll enc P W' 0 sp true tys vs ds ps
 |[],[],[],ps,_,h,_,_=>h
 |[],[],_::_,_,_,h,_,_=>h.elim
 |[],_::_,_,_,_,h,_,_=>h.elim
 |_::_,[],_,_,_,h,_,_=>h.elim
 |_::_,_::_,[],_,_,h,_,_=>h.elim
 |t::tys,v::vs,d::ds,ps,hr,h,hl,hs=>by
  obtain⟨p,q,h1,h2,rfl⟩:=h;exact⟨p,q,WideElems.Trod_stays hlo (hr t (aba ..)).1 (hr t (aba ..)).2 h1 (λx hx=>hb.same (hl x (List.mem_append_left _ hx))) (λx hx=>hs x (List.mem_append_left _ hx)),
   nh hlo hb (λt ht=>hr t (aaP _ ht)) h2 (λx hx=>hl x (List.mem_append_right _ hx)) (λx hx=>hs x (List.mem_append_right _ hx)),rfl⟩
def Bi{f:Func}{s:ChangeSpec}{apart fresh handsOn again:Bool}{args:Array Value}{ds gs:List (DataW H)}{before:List MemPlace}{tb:TypeId}
  (hlo:laidOutB P=true) (hpar:∀t∈f.params.toList,P.readableRec t=true/\t<P.types.size) (hrt:f.resultTypes=#[tb]) (htb:P.underlying tb=some .bool) (hvars:s.vars=[])
  (hfn:(s.fn H (ds++gs))={results:=[.lit (.bool true)],args:=ds}) (hW:DataW.Whole enc P f.params.toList s.vars apart W args.toList ds gs before) (hb:Below W.heap.size W W'):
  s.post enc P f apart fresh handsOn again W args (.bool true) W':=by
 have hlt:=hW.lt;have hW':=hW;obtain⟨p,q,hA,hV,rfl,hz,hn⟩:=hW';rw[hvars]at hV;obtain⟨rfl,rfl⟩:=trodVars_none hV;rw[aaF]at hlt;have hres:∀(b:Nat) (sp:Nat->Bool) (hd:Bool),DataW.TrodAll enc P W' b sp hd f.resultTypes.toList ((Value.bool true).resultList f.resultTypes.size) (s.fn H (ds++[])).results []:=λb sp hd=>by
  rw[hfn,hrt];exact trodAll_mk1 (shut_bool htb _)
 have hargs:∀sp:Nat->Bool,(∀x∈p,sp x.block=true)->DataW.TrodAll enc P W' 0 sp true f.params.toList args.toList (s.fn H (ds++[])).args p:=λsp hs=>by
  rw[hfn];exact nh hlo hb hpar hA hlt hs
 have Um:∀sp:Nat->Bool,DataW.TrodVars enc P W' sp s.vars (s.fn H (ds++[])).vars []:=λsp=>by
  rw[hfn,hvars];rfl
 refine⟨ds,[],p++[],[],p,[],hW,hres _ _ _,hargs _ (λx hx=>by simpa using hlt x hx),Um _,zh hb _,λ_=>?_⟩;refine⟨?_,_,_,([]++p)++[],⟨[]++p,[],trodAll_append (hargs _ (λ_ _=>rfl)) (hres _ _ _),Um _,rfl,?_,?_⟩,?_⟩
 ·exact ok_one hrt rfl (okWide_bool_mk htb _)
 ·intro b off hp;have hp:MemPlace.cell b off∈p:=by simpa using hp
  have:=hz b off (by simpa using hp);unfold World.frozen? at this ⊢;rw[hb.block b (hlt _ hp)];exact this
 ·intro ha;have:=hn ha
  simpa using this
 ·intro x hx _
  simpa using hx
def C0{f:Func}{fid:FuncId}{s:ChangeSpec}{apart fresh handsOn again:Bool}{args:Array Value}{ds gs:List (DataW H)}{before:List MemPlace}{tb:TypeId}{n:Nat}{ats:List AT}{r:Reach}{b0:Nat}
  (hlo:laidOutB P=true) (hpar:∀t∈f.params.toList,P.readableRec t=true/\t<P.types.size) (hrt:f.resultTypes=#[tb]) (htb:P.underlying tb=some .bool) (hvars:s.vars=[])
  (hfn:(s.fn H (ds++gs))={results:=[.lit (.bool true)],args:=ds}) (hats:uF P n f.params.toList=some ats)
  (hval:∀(j:Nat) t v,f.params[j]? =some t->args[j]? =some v->Value.okWide P W r b0 t v)
  (hW:DataW.Whole enc P f.params.toList s.vars apart W args.toList ds gs before) (aw:AW P W E B) (hz:∃(z:Nat) (cc:Array Value) (el:TypeId) (fz:Nat×Nat),W.heap[z]? =some (Obj.cells cc el fz))
  (call:∀k ax,Ext B k->tG k ats ax->ay P fid ax k λv _=>v=.bool true):
  Calls P fid args W λe W'=>∃v,e=.returned v/\s.post enc P f apart fresh handsOn again W args v W':=by
 obtain⟨p,q,hA,_⟩:=id hW;obtain⟨F,C,ax,h1,h2,h3⟩:=um hz f.params.toList hats args.toList ds p hA (λj t v h h'=>hval j t v (by rw[<-abI];exact h) (by rw[<-abI];exact h')) aw;obtain⟨v,g,hs,rfl⟩:=call (B++C) ax ⟨C,rfl⟩ h3;refine(hs (gU (E++F)) W args.toList h1.hr h2).mono λe W' ⟨cv,m',he,hv,_,hg⟩=>?_
 rw[VR]at hv;subst hv;exact⟨_,he,Bi hlo hpar hrt htb hvars hfn hW (h1.below hg)⟩
end
end Go.Abs
namespace Go.Proofs.YtgplmdgpmbegiaaGreatDoor
open Go.Abs
noncomputable def pg:ah:=xK Tryz.prog Rows.houseSafeRow.laid 6
def Gd:pg[0]? =some (.cells SK false false):=by kernel_rfl
def Gc:pg[2]? =some (.cells (Lib.pow10Tab.map (AV.int .u64)) false false):=by kernel_rfl
def QO{k:ah}(e:Ext pg k):Gl k:=⟨_,_,e.some Gd⟩
def PY{k:ah}(e:Ext pg k):Pw k:=⟨_,_,e.some Gc⟩
end Go.Proofs.YtgplmdgpmbegiaaGreatDoor
namespace Go.Proofs.YtgplmdgpmbegiaaGreatDoor
open Go.ChangeShapes Go.WideShapes Go.RowKit Go.Abs
def gE{a b:Bool}(h:a=true)(h':b=true):(a&&b)=true:=by rw[h,h'];rfl
def own:ownKnob Tryz.prog.godebug=none:=by kernel_rfl
def laidOut:laidOutB Tryz.prog=true:=by kernel_rfl
def Ff:mapsRowed Tryz.prog=true:=by kernel_rfl
def CN:(Tryz.prog.stops==[])=true:=by kernel_rfl
def CQ:(Tryz.prog.stopKnobs==[])=true:=by kernel_rfl
def CR:Tryz.prog.stopsHeard=true:=by kernel_rfl
def CS:Tryz.prog.mayEnter=true:=by kernel_rfl
def CP:(Rows.houseSafeRow.lifted==Tryz.prog.liftsFinal)=true:=by kernel_rfl
def Fg:(Tryz.prog.make==some Rows.houseSafeRow.make)=true:=by kernel_rfl
def Fj:(Rows.houseSafeRow.plainKeys==Tryz.prog.plainKeys)=true:=by kernel_rfl
def Fh:Tryz.prog.mainIs=some (true, "99e684478f8cae51b056da3a355f6848a653f6e5f09f29bc4422acb306b2dd43".toList):=by kernel_rfl
def CO:true=Tryz.prog.looks []:=by kernel_rfl
def AS(os:Os)(args:Array Value):((World.laidAll Tryz.prog os Rows.houseSafeRow.laid).forCall (λ_ _=>0) ⟨#[],args,[]⟩).Shaped Tryz.prog:=World.shaped_of_ZipB (by kernel_rfl) (by kernel_rfl)
def Fi(os:Os)(args:Array Value):laidMetH Tryz.prog Rows.houseSafeRow.laid ((World.laidAll Tryz.prog os Rows.houseSafeRow.laid).forCall (λ_ _=>0) ⟨#[],args,[]⟩).memory:=by
 rw[MakeChecks.laidMetH_plain _ _ _ (by kernel_rfl)];exact laidMet_laidAll _ (by kernel_rfl) (by kernel_rfl)
end Go.Proofs.YtgplmdgpmbegiaaGreatDoor
namespace Go.Abs
attribute [local irreducible] WP WC WE WB WR WF WL WG eZ
section
variable {P:Program}(T:eD P) {h:ah}
include T
end
def zt{ws}:(bI ws true).2.2=true:=by
 cases ws with
 |nil=>rfl
 |cons w r=>rw[bI];split<;>rfl
theorem rv:∀{n ws},(cA n ws true).2.2=true
 | 0,_=>rfl
 |n+1,ws=>by rw[cA,zt];exact rv
theorem oQ:∀{n ws},(dh n ws true).2.2=true
 | 0,_=>rfl
 |n+1,ws=>by rw[dh,zt,acq];exact oQ
theorem ry:∀{n ws},n<=ws.length->(∀x∈ws.take n,x≠[])->cA n ws false=(ws.take n,ws.drop n,false)
 | 0,_,_,_=>rfl
 |n+1,[],h,_=>by simp at h
 |n+1,w::r,h,hx=>by
  have hw:w≠[]:=hx w Si;have e:bI (w::r) false=(w,r,false):=by rw[bI,aao hw]
  rw[cA,e,ry (by simpa using h) (λx hm=>hx x (by simp[hm]))];rfl
theorem tM:∀{n ws},(ws.length<n\/[]∈ws.take n)->(cA n ws false).2.2=true
 | 0,ws,h=>by simp at h
 |n+1,[],_=>by rw[cA];exact rv
 |n+1,w::r,h=>by
  rw[cA];by_cases hw:w=[]
  ·rw[show bI (w::r) false=([],[],true)from aas hw];exact rv
  ·rw[show bI (w::r) false=(w,r,false)from aao hw];refine tM (n:=n) (ws:=r) ?_;simp only[aah,abV,aaN]at h;rcases h with h|h|h
   ·exact .inl Om
   ·exact absurd h.symm hw
   ·exact .inr h
def J7{x}(h:dA x=true):x≠[]:=λe=>by rw[e]at h;cases h
theorem uY:∀{n ws},n<=ws.length->(∀x∈ws.take n,dA x=true)->dh n ws false=((ws.take n).map fQ,ws.drop n,false)
 | 0,_,_,_=>rfl
 |n+1,[],h,_=>by simp at h
 |n+1,w::r,h,hx=>by
  have hd:=hx w Si;have e:bI (w::r) false=(w,r,false):=by rw[bI,aao (J7 hd)]
  rw[dh,e];show(fQ w:: (dh n r (false || !dA w)).1,(dh n r (false || !dA w)).2)=_;rw[hd,show(false || !true)=false from rfl,uY (by simpa using h) (λx hm=>hx x (by simp[hm]))];rfl
theorem wR:∀{n ws},(ws.length<n\/∃x∈ws.take n,dA x=false)->(dh n ws false).2.2=true
 | 0,ws,h=>by simp at h
 |n+1,[],_=>by rw[dh];exact oQ
 |n+1,w::r,h=>by
  rw[dh];by_cases hw:w=[]
  ·rw[show bI (w::r) false=([],[],true)from aas hw];exact oQ
  ·rw[show bI (w::r) false=(w,r,false)from aao hw];cases hd:dA w with
   |false=>
    exact oQ
   |true=>
    refine wR (n:=n) (ws:=r) ?_;simp only[aah,abV,aaN]at h;rcases h with h|⟨x,hx|hx,hf⟩
    ·exact .inl Om
    ·rw[hx,hd]at hf;cases hf
    ·exact .inr ⟨x,hx,hf⟩
def Nu{w d}(h:fk w=some d):w≠[]:=λe=>by rw[e]at h;cases h
def wJ{w rest d}(hd:fk w=some d):de (w::rest)=(⟨0,bf d,(cA (aM d).length rest false).1,(dh (bQ d) (cA (aM d).length rest false).2.1 (cA (aM d).length rest false).2.2).1,[]⟩,
  !(dh (bQ d) (cA (aM d).length rest false).2.1 (cA (aM d).length rest false).2.2).2.2&&decide ((dh (bQ d) (cA (aM d).length rest false).2.1 (cA (aM d).length rest false).2.2).2.1.length=0)):=by
 unfold de;rw[show bI (w::rest) false=(w,rest,false)from aao (Nu hd),hd]
def zR{w rest d}(hd:fk w=some d)(hl:rest.length=(aM d).length+bQ d)(hn:∀x∈rest,x≠[])(hv:∀x∈rest.drop (aM d).length,dA x=true):
  de (w::rest)=(⟨0,bf d,rest.take (aM d).length,(rest.drop (aM d).length).map fQ,[]⟩,true):=by
 have el:(rest.drop (aM d).length).length=bQ d:=by rw[abv];omega
 rw[wJ hd,ry Om (λx hx=>hn x (abc hx))];have e:(rest.drop (aM d).length).take (bQ d)=rest.drop (aM d).length:=aaV Om;have e2:(rest.drop (aM d).length).drop (bQ d)=[]:=List.drop_eq_nil_of_le Om;have hN:dh (bQ d) (rest.drop (aM d).length) false=((rest.drop (aM d).length).map fQ,[],false):=by
  rw[uY (Nat.le_of_eq el.symm) (by rw[e];exact hv),e,e2]
 simp only[hN];rfl
def rT{w rest d}(hd:fk w=some d)(hb:rest.length≠(aM d).length+bQ d\/[]∈rest\/∃x∈rest.drop (aM d).length,dA x=false):(de (w::rest)).2=false:=by
 rw[wJ hd];show(!(dh _ _ _).2.2&&_)=false;by_cases h1:rest.length<(aM d).length\/[]∈rest.take (aM d).length
 ·rw[tM h1,oQ];rfl
 have h1a:(aM d).length<=rest.length:=Om
 have h1b:[]∉rest.take (aM d).length:=λz=>h1 (.inr z)
 rw[ry h1a (λx hx e=>h1b (e▸hx))];show(!(dh (bQ d) (rest.drop _) false).2.2&&_)=false;have el:(rest.drop (aM d).length).length=rest.length-(aM d).length:=abv;by_cases h2:(rest.drop (aM d).length).length<bQ d\/∃x∈(rest.drop (aM d).length).take (bQ d),dA x=false
 ·rw[wR h2];rfl
 have h2a:bQ d<=(rest.drop (aM d).length).length:=Om
 have h2b:∀x∈(rest.drop (aM d).length).take (bQ d),dA x=true:=λx hx=>by
  cases hz:dA x with
  |true=>rfl
  |false=>exact absurd (.inr ⟨x,hx,hz⟩) h2
 rw[uY h2a h2b];show(!false&&decide (((rest.drop (aM d).length).drop (bQ d)).length=0))=false;rw[abv,el];have hne:rest.length≠(aM d).length+bQ d:=λhe=>by
  have e:(rest.drop (aM d).length).take (bQ d)=rest.drop (aM d).length:=aaV Om;rw[e]at h2b;rcases hb with hb|hb|⟨x,hx,hf⟩
  ·exact hb he
  ·rw[<-aaT (aM d).length rest]at hb;rcases aam.1 hb with hb|hb
   ·exact h1b hb
   ·have:=h2b _ hb;cases this
  ·rw[h2b x hx]at hf;cases hf
 rw[aaf Om];rfl
def Bc{w rest}(hd:fk w=none):(de (w::rest)).2=false:=by
 unfold de;have:fk (bI (w::rest) false).1=none:=by
  rw[bI];split
  ·rfl
  ·exact hd
 rw[this]
section
variable {A G:ah}{kd:By}{sn sv:AV}{ns:List (By)}{vs:List Int}
end
set_option maxRecDepth 10000
attribute [local irreducible] WQ
section
variable {P:Program}(T:eD P) {h:ah}
include T
end
theorem D0{c}:∀{s:By},(dw c s).2.2=false->(dw c s).2.1=[]
 |[],_=>rfl
 |x::r,h=>by
  rw[dw]at h ⊢;split at h
  ·cases h
  ·rename_i hc;rw[aao hc];exact D0 (s:=r) h
theorem sV{c}:∀{s:By},(dw c s).2.2=true->(dw c s).1.length+1<=s.length/\s.drop ((dw c s).1.length+1)=(dw c s).2.1
 |[],h=>by cases h
 |x::r,h=>by
  rw[dw]at h ⊢;split at h
  ·rename_i hc;rw[aas hc];exact⟨Si,rfl⟩
  ·rename_i hc;rw[aao hc];have:=sV (s:=r) h;exact⟨by simp only[aah];omega,this.2⟩
def Dc{ws}(h:(de ws).2=true):∃w rest d,ws=w::rest/\fk w=some d/\rest.length=(aM d).length+bQ d/\(∀x∈rest,x≠[])/\(∀x∈rest.drop (aM d).length,dA x=true):=by
 cases ws with
 |nil=>cases h
 |cons w rest=>
  cases hd:fk w with
  |none=>rw[Bc hd]at h;cases h
  |some d=>
   refine⟨w,rest,d,rfl,hd,?_,?_,?_⟩
   ·exact Decidable.byContradiction λz=>by rw[rT hd (.inl z)]at h;cases h
   ·intro x hx e;rw[rT hd (.inr (.inl (e▸hx)))]at h;cases h
   ·intro x hx;cases hz:dA x with
    |true=>rfl
    |false=>rw[rT hd (.inr (.inr ⟨x,hx,hz⟩))]at h;cases h
section
variable {P:Program}(T:eD P) {h:ah}
include T
end
theorem sW{c:UInt8}{q}:∀{p:By},c∉p->dw c (p++c::q)=(p,q,true)
 |[],_=>by rw[abF,dw,aas rfl]
 |x::r,h=>by
  rw[abm,dw,aao (λe=>h (by simp[e])),sW (λhr=>h (aaP _ hr))]
theorem x6{c:UInt8}:∀{p:By},c∉p->dw c p=(p,[],false)
 |[],_=>rfl
 |x::r,h=>by
  rw[dw,aao (λe=>h (by simp[e])),x6 (λhr=>h (aaP _ hr))]
section
variable {P:Program}(T:eD P) {h:ah}
include T
end
def uS{l:List cQ}(h:(bF l).2.2=0):l.length<=1000:=by
 unfold bF at h;split at h
 ·exact absurd h De
 ·omega
def qY{l m:List cQ}(h:(bF (l++m)).2.2=0):(bF l).2.2=0:=by
 have hl:=uS h;rw[aac]at hl;rw[bF,aao (by rw[aac];omega),rO]at h;rw[bF,aao Om];by_cases g:(fW iZ.zero l 0).2.2=0
 ·exact g
 ·rw[aas g]at h;exact absurd h g
def C7{l m:List cQ}{e:cQ}(h:(bF (l++e::m)).2.2=0):(bF l).2.2=0/\eM (bF l).1 e=0/\bF (l++[e])=(iY (bF l).1 e,0,0):=by
 have h1:(bF (l++[e])).2.2=0:=qY (m:=m) (by simpa using h);have h2:=qY h1;have hl:=uS h1;rw[aac,aav]at hl;rw[A0 h2 Om]at h1 ⊢;by_cases hb:eM (bF l).1 e=0
 ·rw[aao (λz=>z hb)];exact⟨h2,hb,rfl⟩
 ·rw[aas hb]at h1;exact absurd h1 hb
theorem zN:∀(l:List cQ) (H:iZ) (i:Nat),(fW H l i).2.2=0->(fW H l i).1.cK=H.cK++l
 |[],H,i,_=>by simp[fW]
 |e::l,H,i,h=>by
  rw[fW]at h ⊢;by_cases hb:eM H e=0
  ·rw[aao (λz=>z hb)]at h ⊢;rw[zN l _ _ h];have:(iY H e).cK=H.cK++[e]:=by unfold iY;split<;>rfl
   rw[this,aae];rfl
  ·rw[aas hb]at h;exact absurd h hb
def uT{l:List cQ}(h:(bF l).2.2=0):(bF l).1.cK=l:=by
 have hl:=uS h;have e:bF l=fW iZ.zero l 0:=by rw[bF,aao Om]
 rw[e]at h ⊢;rw[zN l _ _ h];rfl
structure Th(n:By)(R A:fN):Prop where
 tk:A.tick<=R.tick
 ln:A.lines=R.lines.filter λx=>decide (x.name=n)
 tp:A.aG=R.aG
 sh:A.aj=R.aj.filter λx=>decide (x.line=n)
 md:A.aD=R.aD.filter λx=>decide (x.line=n)
section
variable {n:By}{R A:fN}(s:Th n R A) (w:fM R) {e:cQ}{d:Kd}
include s
include w
end
def ud{c:UInt8}(h:du c=true):UInt8.ofNat (48+(c.toNat-48))=c:=by
 have:=gB.1 h;rw[show 48+(c.toNat-48)=c.toNat by omega];simp
theorem xY:∀k (s:By),s.length=k->s.all du=true->s≠[]->s.head?≠some 48->1<=jT s/\Lib.decDigits (jT s).toNat=s
 | 0,s,hl,_,hne,_=>absurd (abg.1 hl) hne
 |k+1,s,hl,hd,hne,hh=>by
  obtain⟨z,c,rfl⟩:∃z c,s=z++[c]:=⟨s.dropLast,s.getLast hne,(List.dropLast_concat_getLast hne).symm⟩;rw[acm,aaM]at hd;have hc:du c=true:=by simpa using hd.2
  have hc2:=gB.1 hc;rw[sU];by_cases hz:z=[]
  ·subst hz;have:c≠48:=by simpa using hh
   have hc3:c.toNat≠48:=λe=>this (acF.1 (by simpa using e))
   have e0:jT []=0:=rfl;rw[e0];refine⟨Om,?_⟩;rw[Lib.decDigits,dif_pos Om];rw[show(10*(0:Int)+((c.toNat:Int)-48)).toNat=c.toNat-48 by omega,ud hc];rfl
  ·have hh':z.head?≠some 48:=by
    cases z with
    |nil=>exact absurd rfl hz
    |cons a b=>simpa using hh
   obtain⟨i1,i2⟩:=xY k z (by simpa using hl) hd.1 hz hh';refine⟨Om,?_⟩;rw[Lib.decDigits,dif_neg Om];rw[show(10*jT z+((c.toNat:Int)-48)).toNat / 10=(jT z).toNat by omega,show(10*jT z+((c.toNat:Int)-48)).toNat%10=c.toNat-48 by omega,i2,ud hc]
def xZ{s:By}(h:dA s=true):dS (jT s)=s:=by
 simp only[dA,aaM,abt,abL,acD,aaX]at h;obtain⟨⟨⟨h1,h2⟩,h3⟩,h4⟩:=h;have hne:s≠[]:=λe=>h1 (by rw[e];rfl)
 by_cases hh:s.head? =some 48
 ·have hl:s.length=1:=by
   rcases h3 with h3|h3
   ·have:=abX.2 hne;omega
   ·exact absurd hh h3
  match s,hl with
  |[c],_=>
   have:c=48:=by simpa using hh
   subst this;rw[gD];have:jT [48]=0:=rfl;rw[this,show(0:Int).toNat=0 from rfl,Lib.decDigits,dif_pos De];rfl
 ·rw[gD];exact(xY _ s rfl h4 hne hh).2
def fK(l:List (By)):By:=(l.map λw=>32::w).flatten
def ur{a b}:fK (a++b)=fK a++fK b:=by rw[fK,aap,abK];rfl
def Bs{w}:fK [w]=32::w:=by simp[fK]
theorem DH:∀{r p},fy 32 (p::r)=p++fK r
 |[],p=>by rw[fy];simp[fK]
 |q::r,p=>by
  rw[fL Si,DH (r:=r) (p:=q)];simp[fK]
def Eb{e:cQ}:cC e=dS e.num++fK ([e.kind]++e.names++e.bK.map dS):=by
 rw[cC,td];show fy 32 (dS e.num:: ([e.kind]++e.names++e.bK.map dS))=_;exact DH
def Ea{e:cQ}{A B:List (By)}(h:[e.kind]++e.names++e.bK.map dS=A++B):(dS e.num++fK A).length<=(cC e).length:=by
 rw[Eb,h,ur];simp only[aac];omega
def Gg(p q:By):cQ:={ (de (bh 32 q)).1 with num:=fQ p}
def ub(p q:By)(n:Int):cQ×Int:=
 if(!dA p || !(de (bh 32 q)).2||decide (eJ (Gg p q)≠0))=true then(lJ,25)else(Gg p q,bX (decide (fQ p≠n)) 11)
def Ja{p q n}(h:(ub p q n).2=0):dA p=true/\(de (bh 32 q)).2=true/\eJ (Gg p q)=0/\(ub p q n).1=Gg p q:=by
 unfold ub at h ⊢;split at h
 ·cases h
 ·rename_i hc;rw[aao hc];simp only[ab3,not_or,abt,Bool.not_eq_false,aaX,ne_eq,abN]at hc;exact⟨hc.1.1,hc.1.2,hc.2,rfl⟩
def sQ{s n}(h1:¬s.length<8)(h2:¬(s.getD (s.length-8) 0≠35\/¬nU (s.drop (s.length-7))=true))(h3:¬hP (s.take (s.length-8))≠s.drop (s.length-7)):cV s n=ub (dw 32 (s.take (s.length-8))).1 (dw 32 (s.take (s.length-8))).2.1 n:=(aao h1).trans ((aao h2).trans (aao h3))
def Dv{l:List (By)}(h:∀x∈l,dA x=true):(l.map fQ).map dS=l:=by
 rw[abQ]
 conv=>rhs;rw[<-List.map_id l]
 refine acS λx hx=>?_
 show dS (fQ x)=x;rw[fQ,aas (h x hx)];exact xZ (h x hx)
def sP{s n}(h:(cV s n).2=0):eJ (cV s n).1=0/\fB (cV s n).1=s++[10]:=by
 by_cases h1:s.length<8
 ·rw[cV,aas h1]at h;cases h
 by_cases h2:s.getD (s.length-8) 0≠35\/¬nU (s.drop (s.length-7))=true
 ·rw[cV,aao h1,aas h2]at h;cases h
 by_cases h3:hP (s.take (s.length-8))≠s.drop (s.length-7)
 ·rw[cV,aao h1,aao h2,aas h3]at h;cases h
 rw[sQ h1 h2 h3]at h ⊢;have h2:s.getD (s.length-8) 0=35:=abN.1 λz=>h2 (.inl z)
 have h3:=abN.1 h3;obtain⟨B,hB⟩:∃B,B=s.take (s.length-8):=⟨_,rfl⟩;have hs:s=B++[35]++hP B:=by
  rw[hB,h3];have e1:=aaT (s.length-8) s;rw[abj (show s.length-8<s.length by omega)]at e1;have e2:s[s.length-8]=35:=by rw[<-h2,aaW,aai (show s.length-8<s.length by omega)];rfl
  rw[e2,show s.length-8+1=s.length-7 by omega]at e1;rw[aae];exact e1.symm
 rw[<-hB]at h ⊢;clear hB h3 h2 h1;have hno:=D0 (c:=32) (s:=B);have hsp:=qa (c:=32) (s:=B);generalize (dw 32 B).1=p at *;generalize (dw 32 B).2.1=q at *;generalize (dw 32 B).2.2=fd at *;obtain⟨hd,hr,hc,he⟩:=Ja h;rw[he];have hfd:fd=true:=by
  cases hf:fd with
  |true=>rfl
  |false=>rw[hno hf]at hr;cases hr
 have hBp:=hsp hfd;obtain⟨w,rest,d,VA,hk,hl,hne,hdg⟩:=Dc hr;have hre:=zR hk hl hne hdg;refine⟨hc,?_⟩;have hb:cC (Gg p q)=B:=by
  have hdn:dS (fQ p)=p:=by rw[fQ,aas hd];exact xZ hd
  have hw2:td (Gg p q)=p::bh 32 q:=by
   unfold Gg;rw[VA,hre];show [dS (fQ p),bf d]++rest.take (aM d).length++((rest.drop (aM d).length).map fQ).map dS=_;rw[hdn,Dv hdg,<-bY hk,aae,aaT];rfl
  rw[cC,hw2,fL iD,iT,<-hBp]
 rw[fB,hb,hs]
def gQ{a b}:aJ (a++b)=aJ a++aJ b:=by rw[aJ,aap,abK];rfl
def sj{e}:aJ [e]=fB e:=by simp[aJ]
def BB{s n}(h:(cV s n).2=0):eJ (cV s n).1=0:=(sP h).1
theorem zQ:∀{f s l a},(∀e∈l,eJ e=0)->∀e∈(gk f s l a).1,eJ e=0
 | 0,s,l,a,hl=>hl
 |f+1,s,l,a,hl=>by
  rw[gk];split
  ·exact hl
  ·split
   ·exact hl
   ·by_cases h2:(cV (dw 10 s).1 ((l.length:Int)+1)).2=0
    ·simp only[];rw[aao (λz=>z h2)];refine zQ λe he=>?_
     rcases aam.1 he with he|he
     ·exact hl e he
     ·rw[aaG.1 he];exact BB h2
    ·simp only[];rw[aas h2];exact hl
def Da{s}:∀e∈(cD s).1,eJ e=0:=by
 unfold cD;split
 ·intro e he;cases he
 ·exact zQ (λe he=>by cases he)
structure R3(e:cQ):Prop where
 num:0<=e.num/\e.num<10^15
 bK:∀x∈e.bK,0<=x/\x<10^15
 nl:e.names.length<=2^30
 vl:e.bK.length<=2^30
def JN{a b c}(h:bt [a,b,c]=0):a=0/\b=0/\c=0:=by
 simp only[bt]at h;by_cases ha:a=0
 ·rw[aas ha]at h;by_cases hb:b=0
  ·rw[aas hb]at h;by_cases hc:c=0
   ·exact⟨ha,hb,hc⟩
   ·rw[aao hc]at h;exact absurd h hc
  ·rw[aao hb]at h;exact absurd h hb
 ·rw[aao ha]at h;exact absurd h ha
def uV{e}:(fB e).length=(cC e).length+9:=by
 have:=lX (cC e);unfold fB;simp;omega
theorem wF:∀{f s l a},(gk f s l a).1.length<=l.length+s.length
 | 0,s,l,a=>Nat.le_add_right _ _
 |f+1,s,l,a=>by
  rw[gk];split
  ·exact Nat.le_add_right _ _
  ·split
   ·exact Nat.le_add_right _ _
   ·rename_i hc;have hf:(dw 10 s).2.2=true:=by simpa using hc
    have:=(sV hf).1;have h2:=aaR List.length (sV hf).2;rw[abv]at h2;simp only[];split
    ·exact Nat.le_add_right _ _
    ·refine aa5 wF ?_;rw[aac,aav];omega
def tW{s}:(cD s).1.length<=s.length:=by
 unfold cD;split
 ·exact aaQ _
 ·have:=wF (f:=s.length+1) (s:=s) (l:=[]) (a:=0)
  simpa using this
structure KW(h:ah)(s:By)(L:List EV)(sl:AV):Prop where
 o:dJ h L sl
 e:L.map EV.ev=(cD s).1
def KW.len{h s L sl}(o:KW h s L sl):L.length<=s.length:=by
 have:=tW (s:=s);rw[<-o.e,aak]at this;exact this
def KW.wf{h s L sl}(o:KW h s L sl):∀x∈L,∃d,jf x.ev d:=λx hx=>ko (Da x.ev (by rw[<-o.e];exact aaH hx))
def zu{e:cQ}{d}(w:jf e d):e.names.length<=3/\e.bK.length<=3:=by
 have h3:(aM d).length<=3/\bQ d<=3:=by cases d<;>decide
 have:=w.nl;have:=w.vl;omega
def L8{e:cQ}{d}(w:jf e d):R3 e:=by
 have h:=zu w;have hn:=w.nu;exact⟨Om,λx hx=>by have:=w.vr x hx;omega,Om,Om⟩
def Em(s:By)(e:cQ):By×Int:=
 let no:=bt [(cD s).2.2,eJ e,bX (decide (e.num≠((cD s).1.length:Int)+1)) 11]
 if no≠0 then([],no)else if 1000000<(s++fB e).length then([],26)else(s++fB e,0)
section
variable {P:Program}(T:eD P) {h:ah}
include T
def r103{x}(ox:bd h x)(b:R3 x.ev)(hl:(cC x.ev).length<=2^40):ay P 103 [.agg x.row] h (λv _=>v=.str (cC x.ev)):=by
 refine .lI 45 T.mix T.c103 ?_;intro ts hlen t0;unfold fn103 gA;have To:=@bd.box _ _ ox;have hnl:=b.nl;have Ud:=b.vl;obtain⟨W,hW⟩:∃W,W=[x.ev.kind]++x.ev.names++x.ev.bK.map dS:=⟨_,rfl⟩;have pre:∀A B:List (By),W=A++B->(dS x.ev.num++fK A).length<=2^40:=λA B e=>aa5 (Ea (hW.symm.trans e)) hl
 have bc:∀{A:List (By)},(dS x.ev.num++fK A).length<=2^40->eG .add (.str (dS x.ev.num++fK A)) (.str [32])=some (.str (dS x.ev.num++fK A++[32])):=λhA=>fA (by rw[aav];omega)
 have bc2:∀{A:List (By)}{w:By},(dS x.ev.num++fK (A++[w])).length<=2^40->eG .add (.str (dS x.ev.num++fK A++[32])) (.str w)=some (.str (dS x.ev.num++fK (A++[w]))):=λ{A w} hA=>by
  have e:dS x.ev.num++fK A++[32]++w=dS x.ev.num++fK (A++[w]):=by rw[ur,Bs];simp
  rw[<-e]at hA ⊢;exact fA (by rw[aac]at hA;omega)
 have pk:=pre [x.ev.kind] (x.ev.names++x.ev.bK.map dS) (by rw[hW];rfl);have p0:=pre [] W rfl;have b0:=bc (A:=[]) p0;have b1:=bc2 (A:=[]) (w:=x.ev.kind) pk;rw[show fK []=[]from rfl,aaF]at b0 b1;rw[abF]at b1;refine Rs (A3 t0 @To @kj) ?_;refine WF.ce T.c108 (r108 T (k:=14) b.num.1 b.num.2 Om) λg1=>?_
 refine Rs (A4 t0 @b0 @bB @b1) ?_;obtain⟨H,hH⟩:∃H,H=h++[ak.cells x.row true false]++g1:=⟨_,rfl⟩;have m1:H[h.length]? =some (.cells x.row true false):=by rw[hH];exact(show Ext (h++[ak.cells x.row true false]) _ from Xx).some ba
 have eH:Ext h H:=by rw[hH];exact Xx
 rw[<-hH];clear hH To;have l1:=@fx _ _ _ m1;refine WL.inv T.mix (λn ts h'=>∃k:Nat,k<=x.ev.names.length/\n=x.ev.names.length-k/\h' =H/\ts.length=45/\slot ts 1=.ptr h.length 0/\slot ts 3=.str (dS x.ev.num++fK ([x.ev.kind]++x.ev.names.take k))/\slot ts 4=.int .i64 k) x.ev.names.length
  ⟨0,Om,rfl,rfl,(Sq t0),(Sq t0),(by simp only[aU,aX,bz,bA,reduceAdd,reduceMul,reduceLeDiff,reduceEqDiff,bC,hlen,aay,aaB,acM,aaF]),gX⟩ ?_
 clear hlen t0;rintro _ ts h2 ⟨k,hk,rfl,hh,hlen,t1,t3,t4⟩;rw[hh];clear hh h2;by_cases hlt:k<x.ev.names.length
 ·have e3:=eO hlt;have ix:=ox.n.dK (kk:=.i64) hlt;have ld:∀{kk:ah},Ext H kk->ao none (cT x.sn 1 k) (λb=>kk[b]?)=some (.str x.ev.names[k],.ar):=λ{kk} e=>ox.n.jS hlt rfl (eH.trans e)
  have TI:[x.ev.kind]++x.ev.names.take (k+1)=([x.ev.kind]++x.ev.names.take k)++[x.ev.names[k]]:=by rw[fD hlt,aae]
  have hsp:∀j,W=([x.ev.kind]++x.ev.names.take j)++(x.ev.names.drop j++x.ev.bK.map dS):=λj=>by
   rw[hW]
   conv=>lhs;rw[<-aaT j x.ev.names]
   simp only[aae]
  have c1:=bc (pre _ _ (hsp k));have c2:=bc2 (A:=[x.ev.kind]++x.ev.names.take k) (w:=x.ev.names[k]) (by rw[<-TI];exact pre _ _ (hsp (k+1)));rw[<-TI]at c2;refine Rs (nZ t1 t3 t4 @l1 @aN ox.n.aK e3 @c1 ix @ld @c2 (wrapN (show k+1<2^63 by omega))) ?_;exact⟨x.ev.names.length-(k+1),Om,k+1,Om,rfl,rfl,rfl⟩
 have e3:=fC hlt;have ek:k=x.ev.names.length:=Om
 rw[ek,aaS]at t3;refine Rs (A7 t1 t3 t4 @l1 @aN ox.n.aK e3) ?_;refine WL.inv T.mix (λn ts h'=>∃(k:Nat),k<=x.ev.bK.length/\n=x.ev.bK.length-k/\Ext H h'/\ts.length=45/\slot ts 1=.ptr h.length 0/\slot ts 3=.str (dS x.ev.num++fK ([x.ev.kind]++x.ev.names++(x.ev.bK.take k).map dS))/\slot ts 5=.int .i64 k) x.ev.bK.length
  ⟨0,Om,rfl,.refl _,(Sq t1),(Sq t1),(by simp only[aU,aX,bz,bA,reduceAdd,reduceMul,reduceLeDiff,reduceEqDiff,bC,hlen,aay,aaB,t3,acM,ab7,aaF]),gX⟩ ?_
 clear hlen t1 t3 t4 e3 hlt hk ek;rintro _ ts h' ⟨k,hk,rfl,eh,hlen,t1,t3,t5⟩;have l1:∀{kk:ah}{n:Option Nat}{a:Nat},Ext h' kk->ao n (.ptr h.length a) (λz=>kk[z]?)=dO n a (.cells x.row true false):=λe=>aA ((eh.trans e).some m1)
 by_cases hlt:k<x.ev.bK.length
 ·have e3:=eO hlt;have ix:=ox.v.dK (kk:=.i64) hlt;have ld:∀{kk:ah},Ext h' kk->ao none (cT x.sv 1 k) (λb=>kk[b]?)=some (.int .i64 x.ev.bK[k],.ar):=λ{kk} e=>ox.v.jS hlt rfl ((eH.trans eh).trans e)
  have hv:=b.bK x.ev.bK[k] (aat _);have TI:[x.ev.kind]++x.ev.names++(x.ev.bK.take (k+1)).map dS=([x.ev.kind]++x.ev.names++(x.ev.bK.take k).map dS)++[dS x.ev.bK[k]]:=by rw[fD hlt,aap];simp only[aae];rfl
  have hsp:∀j,W=([x.ev.kind]++x.ev.names++(x.ev.bK.take j).map dS)++(x.ev.bK.drop j).map dS:=λj=>by rw[hW,aae ([x.ev.kind]++x.ev.names),<-aap,aaT]
  have c1:=bc (pre _ _ (hsp k));have c2:=bc2 (A:=[x.ev.kind]++x.ev.names++(x.ev.bK.take k).map dS) (w:=dS x.ev.bK[k]) (by rw[<-TI];exact pre _ _ (hsp (k+1)));rw[<-TI]at c2;generalize x.ev.bK[k]=y at ld hv c2;refine Rs (mE t1 t3 t5 @l1 @aW ox.v.aK e3 @c1 ix @ld) ?_;refine WF.ce T.c108 (r108 T (k:=14) hv.1 hv.2 Om) λg2=>?_
  refine Rs (A5 t1 t3 t5 @c2 (wrapN (show k+1<2^63 by omega))) ?_;exact⟨x.ev.bK.length-(k+1),Om,k+1,Om,rfl,eh.trans ⟨_,rfl⟩,rfl,rfl⟩
 ·have e3:=fC hlt;have ek:k=x.ev.bK.length:=Om
  rw[ek,aaS,<-Eb]at t3;refine Rs (A7 t1 t3 t5 @l1 @aW ox.v.aK e3) ?_;exact⟨eH.trans eh,trivial⟩
def r36(X:vW P)(Z:nB P)(w:Pw h){s:By}{x:EV}(hsl:s.length<=2^37)(ox:bd h x)(hx:x.ev.names.length<=2^40/\x.ev.bK.length<=2^40)(en:eJ x.ev=0->OV x.ev):ay P 36 [.str s,.agg x.row] h (λv _=>v=.dQ [.str (Em s x.ev).1,.int .i64 (Em s x.ev).2]):=by
 refine .eQ 39 T.mix T.c36 ?_;intro ts hlen t0 t1;unfold fn36 gA;have To:=@bd.box _ _ ox;refine Rs (A3 t0 t1 @To) ?_;refine WF.res T.c37 (r37 T X Z (w.ext Xx) s hsl) ?_;rintro _ g1 ⟨L,sl,hL,rfl,fr,_⟩;obtain⟨no,hno⟩:∃no,no=bt [(cD s).2.2,eJ x.ev,bX (decide (x.ev.num≠((cD s).1.length:Int)+1)) 11]:=⟨_,rfl⟩;have UP:Em s x.ev=if no≠0 then([],no)else if 1000000<(s++fB x.ev).length then([],26)else(s++fB x.ev,0):=by rw[hno];rfl
 have Ve:L.length=(cD s).1.length:=by rw[<-hL,aak]
 have UC:=tW (s:=s);have w1:IntKind.i64.wrap (((L.map EV.row).length:Int)+1)=((cD s).1.length:Int)+1:=by rw[aak,Ve];exact aY Om Om
 have w1':IntKind.i64.wrap ((L.length:Int)+1)=((cD s).1.length:Int)+1:=by rw[Ve];exact aY Om Om
 refine Rs (A3 t0 t1 @bZ) ?_;refine WF.ce T.c67 (r67 T (ox.ext Xx) hx) λg2=>?_
 refine Rs (A6 t0 t1 @kj fr.aT.aK @w1 @w1') ?_;refine WF.ce T.c85 (r85 T _ _) λg3=>?_
 refine Rs (A2 t0 t1) ?_;refine WF.ce T.c74 (r74 T (cE [_,_,_]) Si) λg4=>?_
 rw[<-hno];by_cases hz:no=0
 case neg=>
  have d1:decide (no≠0)=true:=aaj hz;rw[aas hz]at UP;refine Rs (A3 t0 t1 @d1) ?_;rw[UP]
 have d1:decide (no≠0)=false:=aaf λz=>z hz
 rw[aao (λz=>z hz)]at UP;have UG:eJ x.ev=0:=by
  exact(JN (hno.symm.trans hz)).2.1
 have en:=en UG;have X9:=uV (e:=x.ev);have hbl:=en.bl;refine Rs (A4 t0 t1 @d1 @bZ) ?_;refine WF.ce T.c97 (r97 T Z (ox.ext Xx) en (w.ext Xx)) λg5=>?_
 refine Rs (A3 t0 t1 (fA (show s.length+(fB x.ev).length<2^62 by omega))) ?_;by_cases h6:1000000<(s++fB x.ev).length
 ·have d6:decide ((1000000:Int)<(s++fB x.ev).length)=true:=aaj Om;rw[aas h6]at UP;refine Rs (A3 t0 t1 @d6) ?_;rw[UP]
 ·have d6:decide ((1000000:Int)<(s++fB x.ev).length)=false:=aaf Om;rw[aao h6]at UP;refine Rs (A3 t0 t1 @d6) ?_;rw[UP]
end
section
variable {P:Program}(T:eD P) {h:ah}
include T
end
end Go.Abs
