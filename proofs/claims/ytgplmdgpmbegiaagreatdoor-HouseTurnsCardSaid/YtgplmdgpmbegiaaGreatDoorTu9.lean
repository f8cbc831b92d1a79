/- A part of the proof that HouseTurns holds. No condition. -/
import Derived.Test.YtgplmdgpmbegiaaGreatDoorTu8
import Derived.Test.YtgplmdgpmbegiaaGreatDoorTu7
import Derived.Laws.Externs
import Derived.Shelf.Strconv.Itoa3
import Derived.Shelf.Strconv.Atoi
import Derived.Lib.AtoiErrMem
import Derived.Test.YtgplmdgpmbegiaaGreatDoorTu1
import Derived.Test.YtgplmdgpmbegiaaGreatDoorTu2
import Derived.Test.YtgplmdgpmbegiaaGreatDoorTu5
import Derived.Test.YtgplmdgpmbegiaaGreatDoorTu6
import Derived.ChangeArms
import Derived.Deep.Slices
import Derived.WideShapes
import Derived.ChangeShapes
import Derived.ChangeMaps5
import Derived.OpenShut
import Derived.Carry
import Derived.ChangeSame
import Derived.RowKit
import Derived.ProofKit
import Derived.LaidMore
import Derived.Lay
import Derived.SevenTiedAt
import Derived.Stop.Joined
import Derived.Test.YtgplmdgpmbegiaaGreatDoorRows
import Derived.Test.YtgplmdgpmbegiaaGreatDoorTie
import Derived.Test.YtgplmdgpmbegiaaGreatDoorCards
import Derived.Test.YtgplmdgpmbegiaaGreatDoorTu0
set_option maxHeartbeats 4000000
set_option linter.all false
open Nat (reduceAdd reduceMul reduceLeDiff reduceEqDiff)
namespace Go.Abs
theorem ub{c}:∀{s},(fF c s).2.2=true->s=(fF c s).1++c:: (fF c s).2.1
 |[],h=>by cases h
 |x::r,h=>by
  rw[fF]at h ⊢;split
  ·rename_i e;rw[e];rfl
  ·rename_i e;rw[aab e]at h;exact aax (x::·) (ub (s:=r) h)
set_option maxRecDepth 10000
attribute [local irreducible] WP WC WE WB WR WF WL WG fX WQ
section
variable {P:Program}(T:fq P) {h:ah}
include T
def r37(X:DO P)(Z:qQ P)(w:Pw h)(s:By)(hsl:s.length<=2^37):ay P 37 [.str s] h (λv k=>∃(L':List EV) (s':AV),L'.map EV.ev=(lT s).1/\v=.dW [s',.i (lT s).2.1,.i (lT s).2.2]/\Fr h.length k s' 5 (L'.map EV.row)/\∀x∈L',Bv h.length k s' x):=by
 refine .kM 55 T.mix T.c37 ?_;intro ts hlen t0;unfold fn37 gA;by_cases h6:1000000<s.length
 ·have d1:decide ((1000000:Int)<s.length)=true:=Z8 Om;refine Rs (A2 t0 @d1) ?_;exact⟨[],.af,by rw[lT,aai h6];rfl,by rw[lT,aai h6],.nil,λx hx=>(by cases hx)⟩
 have d1:decide ((1000000:Int)<s.length)=false:=Z3 Om;have hrs:lT s=rM (s.length+1) s [] 0:=aab h6;refine Rs (A2 t0 @d1) ?_;refine WL.inv T.mix (λn ts h'=>∃(a f:Nat) (out:AV) (L':List EV) (g:ah),a<=s.length/\n=s.length-a/\h' =h++g/\L'.length<=a/\lT s=rM (f+1) (s.drop a) (L'.map EV.ev) a/\s.length-a<=f/\Fr h.length (h++g) out 5 (L'.map EV.row)/\(∀x∈L',Bv h.length (h++g) out x)/\
   ts.length=55/\slot ts 0=.str s/\slot ts 5=out/\slot ts 6=.i a) s.length
  ⟨0,s.length,.af,[],[],Om,rfl,Si,aah _,hrs,Om,.nil,(λx hx=>by cases hx),Sn,(Sq t0),Sw,ga⟩ ?_
 rintro _ ts _ ⟨a,f,out,L',g,ha,rfl,rfl,hLa,Tk,hf,hfr,hin,hlen,t0,t5,t6⟩;by_cases hlt:a<s.length
 ·have e3:decide ((a:Int)<s.length)=true:=Z8 Om;have hne:s.drop a≠[]:=λe=>by have:=aax List.length e;rw[ach]at this;simp at this;omega
  obtain⟨f',rfl⟩:∃f',f=f'+1:=⟨f-1,Om⟩;rw[rM,aab hne]at Tk;have hdl:(s.drop a).length=s.length-a:=ach;have hcl:=sI (c:=10) (s:=s.drop a)
  repeat (first|simp (config:={maxSteps:=1000000}) only[aO,aT,aZ,a8,reduceAdd,reduceMul,reduceLeDiff,reduceEqDiff,bd,hlen,aal,aan,t0,t5,t6,e3,kP (show a<=s.length by omega)]|simp (config:={maxSteps:=1000000}) (disch:=first|(simp only[Z1,Z5,Z9]<;>omega)|rfl|omega|fail) only[dX,aO,aT,aZ,a8,reduceAdd,reduceMul,reduceLeDiff,reduceEqDiff,bd,hlen,aal,aan,t0,t5,t6,e3,kP (show a<=s.length by omega)])
  refine WF.ce T.c98 (r98 T X (s.drop a) 10 Om) λg1=>?_
  have Wf:=ub (c:=10) (s:=s.drop a);generalize (fF 10 (s.drop a)).1=ln at Tk hcl Wf ⊢;generalize (fF 10 (s.drop a)).2.1=rest at Tk hcl Wf ⊢;cases hwh:(fF 10 (s.drop a)).2.2 with
  |false=>
   rw[hwh]at Tk;refine Rs (A4 t0 t5 t6 @aay) ?_;rw[Tk];exact⟨L',_,rfl,rfl,hfr.app g1,λx hx=>(hin x hx).app g1⟩
  |true=>
  rw[hwh]at Tk;have Wf:=Wf hwh;have U5:(s.drop a).length=ln.length+(rest.length+1):=by rw[Wf];simp
  have TQ:rest=s.drop (a+ln.length+1):=by
   have:(s.drop a).drop (ln.length+1)=rest:=by rw[Wf,<-abB];simp
   rw[<-this,abB];congr 1
  have w1:IntKind.i64.wrap (((L'.map EV.row).length:Int)+1)=(L'.length:Int)+1:=by rw[aaa];exact bD Om Om
  have w1':IntKind.i64.wrap ((L'.length:Int)+1)=(L'.length:Int)+1:=bD Om Om;refine Rs (A7 t0 t5 t6 @aar hfr.aY.aH @w1 @w1') ?_;refine WF.res T.c99 (r99 T X Z (w.ext Xx) ln Om _) ?_;rintro _ g2 ⟨x,hx,rfl,fn,fv⟩;have hml:(L'.map EV.ev).length=L'.length:=aaa _;have Tk:lT s=if(gk ln ((L'.length:Int)+1)).2≠0 then(L'.map EV.ev,(a:Int),(gk ln ((L'.length:Int)+1)).2)else rM (f'+1) rest (L'.map EV.ev++[(gk ln ((L'.length:Int)+1)).1]) (a+ln.length+1):=by rw[Tk,hml];rfl
  rw[<-hx]at Tk;generalize (gk ln ((L'.length:Int)+1)).2=er at Tk ⊢;have ox:bh (h++g++g1++g2) x:=⟨fn.aY,fv.aY⟩;have st:∀{b':Nat}{a0 a1 a2 a3 a4:AV},kN 5 0 (.agg x.row) b' (.b [a0,a1,a2,a3,a4])=some (az,.set b' (.b x.row)):=λ{_ _ _ _ _ _}=>ox.st
  by_cases he:er=0
  case neg=>
   have d2:decide (er≠0)=true:=Z8 he;rw[aai he]at Tk;refine Rs (A5 t0 t5 t6 @st @d2) ?_;rw[Tk];exact⟨L',_,rfl,rfl,((hfr.app g1).app g2).app _,λx hx=>(((hin x hx).app g1).app g2).app _⟩
  have d2:decide (er≠0)=false:=Z3 (λz=>z he);rw[aab (λz=>z he)]at Tk;have ox2:bh (h++g++g1++g2++[ak.b x.row]) x:=ox.ext ⟨_,rfl⟩;have bs:=@bh.Dt _ _ ox2;refine Rs (A7 t0 t5 t6 @st @d2 @bR @bs) ?_;refine WR.fg (h0:=h) (cs:=L'.map EV.row) (ys:=[x.row]) ((((hfr.app _).app _).app _).app _) (Fr.push (N:=0) (aaC _) [x.row] (by intro y hy;rw[aam]at hy;rw[hy];rfl)).aY De Si (by simp only[aaa,Z5,Z9];omega) Xx ?_;intro g' SP hff hkp;have hrow:L'.map EV.row++[x.row]=(L'++[x]).map EV.row:=by rw[aae];rfl
  rw[hrow]at hff;rw[hrow];obtain⟨sn,Tz⟩:∃sn,sn=AV.slice (h++g++g1++g2++[ak.b x.row]++[ak.cells x.row true true]).length 0 ((L'++[x]).map EV.row).length 5:=⟨_,rfl⟩;rw[<-Tz]at hff ⊢;have Vp:∀i,sB sn=some i->(h++g++g1++g2).length+2=i:=λi hi=>by rw[Tz]at hi;cases hi;simp only[Z1,aau]<;>omega
  have hout:∀b,sB out=some b->b<(h++g).length:=λb hb=>(hfr.bQ hb).2
  have kp:∀i,i<(h++g++g1++g2).length->sB out≠some i->(h++g')[i]? =(h++g++g1++g2)[i]? :=λi hi hne=>by
   rw[hkp i (by simp only[Z1,aau]at hi ⊢;omega) (λb0 o n e he zz=>hne (by rw[he,zz];rfl)),Z4 (h++g++g1++g2),Z7 hi]
  have w2:IntKind.i64.wrap ((ln.length:Int)+1)=((ln.length+1:Nat):Int):=wrapN Om;have w3:IntKind.i64.wrap ((a:Int)+((ln.length+1:Nat):Int))=((a+ln.length+1:Nat):Int):=by rw[bD Om Om];omega
  refine Rs (A5 t0 t5 t6 @w2 @w3) ?_;refine⟨s.length-(a+ln.length+1),Om,a+ln.length+1,f',sn,L'++[x],g',Om,rfl,rfl,by simp;omega,?_,Om,hff,λy hy=>?_,rfl,rfl⟩
  ·rw[Tk,TQ,aae];rfl
  ·have lg:∀{i},i<(h++g).length->i<(h++g++g1++g2).length:=λ{i} hi=>by simp only[Z1]at hi ⊢;omega
   rcases aac.1 hy with hy|hy
   ·have oy:=hin y hy;have ln:=λj (hj:sB y.sn=some j)=>(oy.n.bQ hj).2
    have lv:=λj (hj:sB y.sv=some j)=>(oy.v.bQ hj).2
    refine⟨((oy.n.app g1).app g2).aD λj hj=>kp j (lg (ln j hj)) (oy.dn j hj),((oy.v.app g1).app g2).aD λj hj=>kp j (lg (lv j hj)) (oy.dv j hj),λj hj e=>?_,λj hj e=>?_⟩
    ·have h1:=lg (ln j hj);have h2:=Vp j e;omega
    ·have h1:=lg (lv j hj);have h2:=Vp j e;omega
   ·rw[aam]at hy;subst hy;have ln:=λj (hj:sB y.sn=some j)=>fn.bQ hj
    have lv:=λj (hj:sB y.sv=some j)=>fv.bQ hj
    have en:(h++g++g1).length=(h++g).length+g1.length:=Z1;exact Rz
 ·have e3:decide ((a:Int)<s.length)=false:=Z3 Om;have e4:a=s.length:=Om
  have hnil:s.drop a=[]:=List.drop_eq_nil_of_le Om;rw[rM,aai hnil]at Tk;refine Rs (A4 t0 t5 t6 e3) ?_;rw[Tk];exact⟨L',_,rfl,rfl,hfr,hin⟩
end
def qF:Nat->Nat
 | 0=>198
 | 1=>126
 | 2=>200
 | 3=>201
 | 4=>202
 | 5=>203
 |_=>204
def jR(q:Nat×Bool×Nat):AV:=.agg [.bool q.2.1,.i (q.2.2:Nat),.func (.func (qF q.1)) [] []]
def CG:List (AV×AV):=[(.str [108,101,102,116],jR (0,true,4)),(.str [102,114,111,109],jR (1,true,5)),(.str [108,105,110,101,115],jR (2,true,3)),(.str [117,110,115,97,102,101],jR (3,false,2)),(.str [116,97,112,101,115],jR (4,true,2)),(.str [114,101,108,101,97,115,101,100],jR (5,false,5)),(.str [119,97,110,116],jR (6,true,0))]
def IW(k:By):jO .s (.str k) CG=some ((lE k).map jR):=by
 unfold lE CG;by_cases h0:k=[108,101,102,116]
 ·subst h0;rfl
 have b0:(k==[108,101,102,116])=false:=by simp[h0]
 by_cases h1:k=[102,114,111,109]
 ·subst h1;rfl
 have b1:(k==[102,114,111,109])=false:=by simp[h1]
 by_cases h2:k=[108,105,110,101,115]
 ·subst h2;rfl
 have b2:(k==[108,105,110,101,115])=false:=by simp[h2]
 by_cases h3:k=[117,110,115,97,102,101]
 ·subst h3;rfl
 have b3:(k==[117,110,115,97,102,101])=false:=by simp[h3]
 by_cases h4:k=[116,97,112,101,115]
 ·subst h4;rfl
 have b4:(k==[116,97,112,101,115])=false:=by simp[h4]
 by_cases h5:k=[114,101,108,101,97,115,101,100]
 ·subst h5;rfl
 have b5:(k==[114,101,108,101,97,115,101,100])=false:=by simp[h5]
 by_cases h6:k=[119,97,110,116]
 ·subst h6;rfl
 have b6:(k==[119,97,110,116])=false:=by simp[h6]
 simp only[jO,cX,b0,b1,b2,b3,b4,b5,b6,aab h0,aab h1,aab h2,aab h3,aab h4,aab h5,aab h6];rfl
def CX{h:ah}{r:Nat}(hb:h[r]? =some (.bA CG)){z:AV}{ok:Bool}{k:By}:iU .s z ok (.map r) (.str k) (λb=>h[b]?)=lX z ok ((lE k).map jR):=rX hb (IW k)
theorem rZ:∀{l}{i:Nat},∀y∈cZ l i,(i:Int)<=y/\y<(i:Int)+l.length
 |[],i,y,h=>by simp[cZ]at h
 |x::r,i,y,h=>by
  rw[cZ]at h;have key:y∈cZ r (i+1)->(i:Int)<=y/\y<(i:Int)+(x::r).length:=λh=>by
   have:=rZ y h;rw[Z5];omega
  split at h
  ·rcases aaJ.1 h with rfl|h
   ·rw[Z5];omega
   ·exact key h
  ·exact key h
section
variable {P:Program}(T:fq P) {h:ah}
include T
theorem r9{h ks ts Q g es a l z ps k v es'}(ha:a+1<=ts.length)(h1:(a=1)=False)(t1:slot ts 1=.map h.length)
  (hv:sJ (fi z (ps.map λp=>(p.1,p.2.1,val ts p.2.2)))=some v) (hu:pM .s (.str k) v es=some es')
  (K:∀ts',ts'.length=ts.length->slot ts' 1=slot ts 1->WP P bJ l ks ts' (h++[.bA es']++g) Q):
  WP P bJ (.o a (.build z ps):: .x (.gh .s (.t 1) (.c (.str k)) (.t a))::l) ks ts (h++[.bA es]++g) Q:=by
 have e1:uF .s (.map h.length) (.str k) v (λb=>(h++[ak.bA es]++g)[b]?)=some (az,.set h.length (.bA es')):=uE qa hu;unfold bL.o bL.x;rw[sP,hv,uW,vd];have e2:val (put ts (some a) v) (.t 1)=.map h.length:=by
  simp only[qq,vv,bd,h1,t1]
 have e3:val (put ts (some a) v) (.t a)=v:=by simp only[qq,vv,bd,ha]
 rw[jK,e2,e3,y0,e1,sO,CH,qq];have e4:(h++[ak.bA es]++g).set h.length (.bA es')=h++[.bA es']++g:=ze;rw[e4];exact K _ (by simp only[bd]) (by simp only[bd,h1])
def r109:ay P 109 [] h (λv h'=>v=.map h.length/\h' =h++[.bA CG]):=by
 refine .of T.mix T.c109 ?_;obtain⟨ts,SH⟩:∃ts,ts=aW 10 []:=⟨_,rfl⟩;have hlen:ts.length=10:=by rw[SH];rfl
 unfold fn109;show WC P bJ _ [] (aW 10 []) h _;rw[<-SH];clear SH;have m0:slot ((ts.set 0 AV.dz).set 1 (.map h.length)) 1=.map h.length:=by simp only[bd,hlen,reduceAdd,reduceLeDiff]
 have l0:((ts.set 0 AV.dz).set 1 (.map h.length)).length=10:=by simp only[bd,hlen]
 dsimp only[ai.j,ai.s,ai.r];rw[qh,sQ,My T,rk,qh,sQ,Mz T];rw[<-aaw (h++[ak.bA []])];generalize (ts.set 0 AV.dz).set 1 (.map h.length)=ts0 at *;clear hlen;refine r9 T (v:=jR (0,true,4)) (es':=[(.str [108,101,102,116],jR (0,true,4))]) (by rw[l0];decide) (aby De) m0 rfl rfl ?_;intro Uy lx mx;have l1:=lx.trans l0;have m1:=mx.trans m0;clear lx mx l0 m0;refine r9 T (v:=jR (1,true,5)) (es':=[(.str [108,101,102,116],jR (0,true,4)),(.str [102,114,111,109],jR (1,true,5))]) (by rw[l1];decide) (aby De) m1 rfl rfl ?_;intro Wb lx mx;have l2:=lx.trans l1;have m2:=mx.trans m1;clear lx mx l1 m1
 refine r9 T (v:=jR (2,true,3)) (es':=[(.str [108,101,102,116],jR (0,true,4)),(.str [102,114,111,109],jR (1,true,5)),(.str [108,105,110,101,115],jR (2,true,3))]) (by rw[l2];decide) (aby De) m2 rfl rfl ?_;intro ts3 lx mx;have l3:=lx.trans l2;have m3:=mx.trans m2;clear lx mx l2 m2;refine r9 T (v:=jR (3,false,2)) (es':=[(.str [108,101,102,116],jR (0,true,4)),(.str [102,114,111,109],jR (1,true,5)),(.str [108,105,110,101,115],jR (2,true,3)),(.str [117,110,115,97,102,101],jR (3,false,2))]) (by rw[l3];decide) (aby De) m3 rfl rfl ?_;intro ts4 lx mx;have l4:=lx.trans l3;have m4:=mx.trans m3;clear lx mx l3 m3
 refine r9 T (v:=jR (4,true,2)) (es':=[(.str [108,101,102,116],jR (0,true,4)),(.str [102,114,111,109],jR (1,true,5)),(.str [108,105,110,101,115],jR (2,true,3)),(.str [117,110,115,97,102,101],jR (3,false,2)),(.str [116,97,112,101,115],jR (4,true,2))]) (by rw[l4];decide) (aby De) m4 rfl rfl ?_;intro ts5 lx mx;have l5:=lx.trans l4;have m5:=mx.trans m4;clear lx mx l4 m4;refine r9 T (v:=jR (5,false,5)) (es':=[(.str [108,101,102,116],jR (0,true,4)),(.str [102,114,111,109],jR (1,true,5)),(.str [108,105,110,101,115],jR (2,true,3)),(.str [117,110,115,97,102,101],jR (3,false,2)),(.str [116,97,112,101,115],jR (4,true,2)),(.str [114,101,108,101,97,115,101,100],jR (5,false,5))]) (by rw[l5];decide) (aby De) m5 rfl rfl ?_
 intro ts6 lx mx;have l6:=lx.trans l5;have m6:=mx.trans m5;clear lx mx l5 m5;refine r9 T (v:=jR (6,true,0)) (es':=[(.str [108,101,102,116],jR (0,true,4)),(.str [102,114,111,109],jR (1,true,5)),(.str [108,105,110,101,115],jR (2,true,3)),(.str [117,110,115,97,102,101],jR (3,false,2)),(.str [116,97,112,101,115],jR (4,true,2)),(.str [114,101,108,101,97,115,101,100],jR (5,false,5)),(.str [119,97,110,116],jR (6,true,0))]) (by rw[l6];decide) (aby De) m6 rfl rfl ?_;intro ts7 lx mx;have l7:=lx.trans l6;have m7:=mx.trans m6;clear lx mx l6 m6;have hlen:=l7;rw[aaw];refine Rs @m7 ?_;rfl
section
variable {V:RV}(o:aB h V) (w:eS V.an)
include o w
def r198(Z:qQ P)(pw:Pw h){n}(hn:n∈jg V.an):ay P 198 [.agg V.row,.str n] h (λv k=>aI k v 1 ((k9 V.an n 0).map aq)):=by
 refine .eX 10 T.mix T.c198 ?_;intro ts hlen t0 t1;unfold fn198 gA;have SG:=@aB.box _ _ o;have l:=w.len;refine Rs (A4 t0 t1 @SG @aG) ?_;refine WF.res T.c124 (r124 T (o.ext Xx) l hn) ?_;rintro _ g1 ⟨x,hx,VQ,rfl⟩;have hj:=w.jb x.1 (aao hx);refine Rs (A2 t0 t1) ?_;refine WF.res T.c125 (r125 T ((o.e4 x hx).ext Xx) Om (λs hs=>(hj.2.2.2 s hs).1)) ?_;intro v g2 hv;have U5:=kD (l:=x.1.bE) (i:=0);refine Rs (A2 t0 t1) ?_;refine WF.res T.c199 (r199 T hv Om j6 (λy hy k ek=>by
  have:=rZ y hy;exact yY T Z Om Om (pw.ext (Ext.trans Xx ek)))) ?_
 intro v3 g3 hv3;have hr:=hv3.aY;refine Rs t0 ?_;rw[VQ]at hr;exact hr
def r200(n:By):ay P 200 [.agg V.row,.str n] h (λv k=>aI k v 1 ((k9 V.an n 2).map aq)):=by
 refine .eX 9 T.mix T.c200 ?_;intro ts hlen t0 t1;unfold fn200 gA;have SG:=@aB.box _ _ o;have l:=w.len;have hin:∀x∈V.aC,x.1.bC.length<2^30:=λx hx=>by have:=(w.md x.1 (aao hx)).2.1;omega
 refine Rs (A4 t0 t1 @SG @aG) ?_;refine WF.res T.c122 (r122 T (o.ext Xx) l hin _) ?_;rintro v3 g3 h3;have hsl:(jl V.an n).length<2^30:=by
  have h1:(jl V.an n).length<=V.an.lines.length:=by unfold jl;exact aaF _ _
  have:=w.l0;omega
 refine Rs (A2 t0 t1) ?_;refine WF.res T.c121 (r121 T h3 Om (λx=>x.name) (λx _ k _=>bH.of (a:=[]) (c:=[]) T.c123 (r123 T x))) ?_;intro v4 g4 h4;have hr:=h4.aY;refine Rs t0 ?_;exact hr
def r201(n:By):ay P 201 [.agg V.row,.str n] h (λv k=>aI k v 1 ((k9 V.an n 3).map aq)):=by
 refine .eX 9 T.mix T.c201 ?_;intro ts hlen t0 t1;unfold fn201 gA;have SG:=@aB.box _ _ o;have l:=w.len;refine Rs (A5 t0 t1 @SG @aG @mZ) ?_;refine WF.res T.c80 (r80 T (o.ext Xx) l w.vj _) ?_;intro v4 g4 h4;refine Rs t0 ?_;exact h4
def r202{n}(hn:n∈kj V.an):ay P 202 [.agg V.row,.str n] h (λv k=>aI k v 1 ((k9 V.an n 4).map aq)):=by
 refine .eX 9 T.mix T.c202 ?_;intro ts hlen t0 t1;unfold fn202 gA;have SG:=@aB.box _ _ o;have l:=w.len;refine Rs (A4 t0 t1 @SG @aG) ?_;refine WF.res T.c77 (r77 T (o.ext Xx) l hn) ?_;rintro _ g1 ⟨x,hx,VQ,rfl⟩;have hr:=(o.e2 x hx);unfold aU;refine Rs (A2 t0 t1) ?_;rw[VQ]at hr;exact hr.ext Xx
end
end
def As{l x}:sZ (l++[x])=sZ l++(if x.rel then [x.name,j6 x.mi]else []):=by
 unfold sZ;simp only[aae,abM,aaX,abF,aa5,abW,aaw]
theorem rJ:∀{l},(sZ l).length<=2*l.length
 |[]=>by simp[sZ]
 |x::r=>by
  have:=rJ (l:=r);unfold sZ at this ⊢;rw[aaX,aa5,Z1,Z5];split
  ·simp only[Z5,Z9];omega
  ·simp only[Z9];omega
section
variable {P:Program}(T:fq P) {h:ah}
include T
section
variable {V:RV}(o:aB h V) (w:eS V.an)
include o w
def r203(Z:qQ P)(pw:Pw h)(n:By):ay P 203 [.agg V.row,.str n] h (λv k=>aI k v 1 ((k9 V.an n 5).map aq)):=by
 refine .eX 27 T.mix T.c203 ?_;intro ts hlen t0 t1;unfold fn203 gA;have SG:=@aB.box _ _ o;have l5:V.aJ.length<=16:=w.l5;refine Rs (A5 t0 t1 @SG @fL o.i5.aH) ?_;refine WL.inv T.mix (λn ts h'=>∃(k:Nat) (out:AV) (g:ah),k<=V.aJ.length/\n=V.aJ.length-k/\h' =h++g/\Fr h.length (h++g) out 1 ((sZ (V.aJ.take k)).map aq)/\
   ts.length=27/\slot ts 5=out/\slot ts 9=V.s5/\slot ts 10=.i V.aJ.length/\slot ts 11=.i k) V.aJ.length
  ⟨0,.af,_,Om,rfl,rfl,.nil,Sn,(Sq t1),Sw,(Sq t0),ga⟩ ?_
 rintro _ ts _ ⟨k,out,g,hk,rfl,rfl,hfr,hlen,t5,t9,t10,t11⟩;by_cases hlt:k<V.aJ.length
 ·have e3:=dN hlt;have e5:=wrapN (n:=k) Om;have ix:=o.i5.c6 (kk:=.i64) hlt;have ld:∀{k'},Ext (h++g) k'->ao (some 4) (cI V.s5 4 k) (λb=>k'[b]?)=some (.agg (cD V.aJ[k]),.ar):=λ{k'} e=>o.i5.gP hlt (Ext.trans Xx e)
  obtain⟨x,hx⟩:∃x,x=V.aJ[k]:=⟨_,rfl⟩;have UE:x∈V.aJ:=by rw[hx];exact aad _
  have hpc:=w.pc x UE;have S9:V.aJ.take (k+1)=V.aJ.take k++[x]:=by rw[hx,aaO,Z6 hlt];rfl
  have Un:=rJ (l:=V.aJ.take k);have htl:(V.aJ.take k).length<=16:=by rw[aaQ];omega
  have Tz:=As (l:=V.aJ.take k) (x:=x);rw[<-hx]at ld;unfold cD at ld;cases hrel:x.rel with
  |false=>
   rw[hrel]at ld Tz;rw[aab Si,aaw,<-S9]at Tz;rw[<-Tz]at hfr;refine Rs (A8 t5 t9 t10 t11 e3 e5 ix @ld) ?_;exact⟨V.aJ.length-(k+1),Om,k+1,out,_,Om,rfl,Z4 _ _ _,by rw[<-Z4];exact hfr.app _,rfl,rfl⟩
  |true=>
   rw[hrel]at ld Tz;rw[aai rfl,<-S9]at Tz;refine Rs (A7 t5 t9 t10 t11 e3 ix @ld) ?_;refine WF.ce T.c113 (Z.itoa Om Om (pw.ext Xx)) λg1=>?_
   rw[gY hpc.2.1];refine Rs (A4 t5 t9 t10 t11) ?_;refine WR.F4 (h0:=h) (cs:=(sZ (V.aJ.take k)).map aq) (ys:=([x.name,j6 x.mi] :List (By)).map aq) (((hfr.app _).app _).app _) (Fr.push (N:=0) (aaC _) (([x.name,j6 x.mi] :List (By)).map aq) (by simp[aq])).aY De (by simp;omega) Xx ?_;intro s' g' hff hkp hle;rw[<-aae,<-Tz]at hff;refine Rs (A5 t5 t9 t10 t11 e5) ?_;exact⟨V.aJ.length-(k+1),Om,k+1,s',g',Om,rfl,rfl,hff,rfl,rfl⟩
 ·have e3:=eF hlt;have e4:k=V.aJ.length:=Om
  refine Rs (A5 t5 t9 t10 t11 e3) ?_;rw[e4,aaI]at hfr;exact hfr.aY
def r204(Z:qQ P)(pw:Pw h){n}(hn:n∈eP V.an):ay P 204 [.agg V.row,.str n] h (λv k=>aI k v 1 ((k9 V.an n 6).map aq)):=by
 refine .eX 22 T.mix T.c204 ?_;intro ts hlen t0 t1;unfold fn204 gA;have SG:=@aB.box _ _ o;have l:=w.len;have WA:=w.ln _ (hP (f:=gN.name) (l:=V.an.lines) (n:=n) (d:=Az) hn);have U5:(V.aj.filter λx=>decide (x.1.line=n)).length<=V.aj.length:=aaF _ _;have hl2:=l.l2;have hof:(tJ V.an n).length=(V.aj.filter λx=>decide (x.1.line=n)).length:=by
  unfold tJ;simp only[RV.an,abA,aaa];rfl
 refine Rs (A4 t0 t1 @SG @aG) ?_;refine WF.ce T.c205 (r205 T (o.ext Xx) l hn) λg1=>?_
 have V4:k9 V.an n 6=[j6 (tJ V.an n).length,j6 (cC V.an n).want,if(cC V.an n).acc then [97,99,99,101,112,116,101,100]else [111,112,101,110]]:=rfl;have WA:1<=(cC V.an n).want/\(cC V.an n).want<=64:=WA;generalize cC V.an n=y at V4 WA ⊢;unfold bw;rw[hof]at V4;cases hacc:y.acc with
 |true=>
  rw[hacc]at V4;refine Rs (A4 t0 t1 @aG @hacc) ?_;refine WF.res T.c206 (r206 T (o.ext Xx) l n) ?_;intro v2 g2 h2;refine Rs (A3 t0 t1 h2.aH) ?_;refine WF.ce T.c113 (Z.itoa Om Om (pw.ext Xx)) λg3=>?_
  rw[gY Om];refine Rs (A2 t0 t1) ?_;refine WF.ce T.c113 (Z.itoa Om Om (pw.ext Xx)) λg4=>?_
  rw[gY Om];refine Rs (A2 t0 t1) ?_;rw[V4];exact(Fr.push (es:=1) (N:=0) (aaC _) (([j6 ((V.aj.filter λx=>decide (x.1.line=n)).length:Nat),j6 y.want,[97,99,99,101,112,116,101,100]] :List (By)).map aq) (by simp[aq])).aY
 |false=>
  rw[hacc]at V4;refine Rs (A4 t0 t1 @aG @hacc) ?_;refine WF.res T.c206 (r206 T (o.ext Xx) l n) ?_;intro v2 g2 h2;refine Rs (A3 t0 t1 h2.aH) ?_;refine WF.ce T.c113 (Z.itoa Om Om (pw.ext Xx)) λg3=>?_
  rw[gY Om];refine Rs (A2 t0 t1) ?_;refine WF.ce T.c113 (Z.itoa Om Om (pw.ext Xx)) λg4=>?_
  rw[gY Om];refine Rs (A2 t0 t1) ?_;rw[V4];exact(Fr.push (es:=1) (N:=0) (aaC _) (([j6 ((V.aj.filter λx=>decide (x.1.line=n)).length:Nat),j6 y.want,[111,112,101,110]] :List (By)).map aq) (by simp[aq])).aY
end
end
def wj{n}(h:eE n=true):n.length<=24:=by
 cases n with
 |nil=>cases h
 |cons c r=>
  unfold eE at h;simp only[aaD,aaK]at h;rw[Z5];omega
def uD{l}(h:qm l){n}(hn:n∈l):n.length<=24:=wj (h.nm n hn)
theorem pZ{c}:∀{l},(∀x∈l,x.length<=64)->(jN c l).length<=65*l.length
 |[],_=>aaC _
 |x::r,h=>by
  have ih:=pZ (c:=c) (l:=r) λy hy=>h y (aaH _ hy)
  have hx:=h x Si;by_cases hr:r=[]
  ·subst hr;simp only[jN,Z5,Z9];omega
  ·rw[nL hr,Z1,Z5,Z5];omega
theorem tK:∀{l m:List (By)},l.Nodup->(∀x∈l,x∈m)->l.length<=m.length
 |[],_,_,_=>aaC _
 |x::r,m,hd,hs=>by
  rw[ab6]at hd;have hm:=hs x Si;have:=tK (l:=r) (m:=m.erase x) hd.2 λy hy=>(List.mem_erase_of_ne (λe=>hd.1 (by rw[<-e];exact hy))).2 (hs y (aaH _ hy))
  rw[List.length_erase_of_mem hm]at this;have:=List.length_pos_of_mem hm;rw[Z5];omega
def Jv{R:dM}(w:eS R){n k:By}{q:Nat×Bool×Nat}(hq:lE k=some q)(hn:q.2.1=true->dD R q.2.2 n=true):(∀x∈k9 R n q.1,x.length<=64)/\(k9 R n q.1).length<=64:=by
 have dl:∀{y:Int},0<=y->y<99999999->(j6 y).length<=64:=λ{y} h0 h1=>by have:=mI (k:=7) (u:=y.toNat) Om;rw[k5];omega
 unfold lE at hq
 repeat' split at hq
 all_goals cases hq
 ·have hm:n∈jg R:=abk (hn rfl);have hj:=w.jb _ (hP (f:=lH.name) (l:=R.aF) (n:=n) (d:=AA) hm);have U5:=kD (l:=(gX R n).bE) (i:=0);have hj:(gX R n).bE.length<=32:=hj.2.2.1;refine⟨λx hx=>?_,?_⟩
  ·obtain⟨y,hy,rfl⟩:=aaA.1 hx;have:=rZ y hy;exact z183
  ·show((cZ _ _).map j6).length<=64;rw[aaa];omega
 ·refine⟨λx hx=>?_,?_⟩
  ·exact z117
  ·show(tG R n).length<=64;unfold tG;exact Kw
 ·refine⟨λx hx=>?_,?_⟩
  ·obtain⟨y,hy,rfl⟩:=aaA.1 hx;have:=uD w.n0 (aao (f:=gN.name) (aa6.1 hy).1);omega
  ·show((jl R n).map gN.name).length<=64;unfold jl;rw[aaa];have:=aaF (λl:gN=>decide (l.name∈(na R n).map iP.line)) R.lines;have:=w.l0;omega
 ·refine⟨λx hx=>?_,?_⟩
  ·exact z117
  ·show(fK R R.tick).length<=64;unfold fK;exact Kw
 ·have hm:n∈kj R:=abk (hn rfl);have hs:=w.sh _ (hP (f:=jc.name) (l:=R.aj) (n:=n) (d:=CP) hm);refine⟨λx hx=>?_,?_⟩
  ·have:=uD w.n1 (hs.2.2.2 x hx);omega
  ·have:=tK hs.2.2.1 hs.2.2.2;have h1:(iQ R).length<=16:=by unfold iQ;rw[aaa];exact w.l1
   exact aaT this Om
 ·refine⟨λx hx=>?_,?_⟩
  ·obtain⟨l,hl,hx⟩:=List.mem_flatten.1 hx;obtain⟨p,hp,rfl⟩:=aaA.1 hl;have hpc:=w.pc p hp;split at hx
   ·simp only[aaJ,aa3,abH]at hx;rcases hx with rfl|rfl
    ·have:=uD w.n5 (aao (f:=qM.name) hp);omega
    ·exact dl hpc.2.1 Om
   ·cases hx
  ·have:=rJ (l:=R.aJ);have:=w.l5;show(sZ R.aJ).length<=64;omega
 ·have hm:n∈eP R:=abk (hn rfl);have hw:=w.ln _ (hP (f:=gN.name) (l:=R.lines) (n:=n) (d:=Az) hm);have hw:1<=(cC R n).want/\(cC R n).want<=64:=hw;have ho:(tJ R n).length<=64:=aaT (aaF _ _) w.l2;refine⟨λx hx=>?_,by show(3:Nat)<=64;omega⟩;have hx:x∈[j6 (tJ R n).length,j6 (cC R n).want,if(cC R n).acc then [97,99,99,101,112,116,101,100]else [111,112,101,110]]:=hx;simp only[aaJ,aa3,abH]at hx;rcases hx with rfl|rfl|rfl
  ·exact z183
  ·exact z183
  ·split<;>decide
section
variable {P:Program}(T:fq P) {h:ah}
include T
def RZ{V}(o:aB h V)(w:eS V.an)(Z:qQ P)(pw:Pw h){n k q}(hq:lE k=some q)(hn:q.2.1=true->dD V.an q.2.2 n=true):
  bH P (.func (.func (qF q.1)) [] []) [.agg V.row,.str n] h (λv k'=>aI k' v 1 ((k9 V.an n q.1).map aq)):=by
 unfold lE at hq
 repeat' split at hq
 all_goals cases hq
 ·exact bH.of (a:=[]) (c:=[]) T.c198 (r198 T o w Z pw (abk (hn rfl)))
 ·exact bH.of (a:=[]) (c:=[]) T.c126 (r126 T o w (abk (hn rfl)))
 ·exact bH.of (a:=[]) (c:=[]) T.c200 (r200 T o w n)
 ·exact bH.of (a:=[]) (c:=[]) T.c201 (r201 T o w n)
 ·exact bH.of (a:=[]) (c:=[]) T.c202 (r202 T o w (abk (hn rfl)))
 ·exact bH.of (a:=[]) (c:=[]) T.c203 (r203 T o w Z pw n)
 ·exact bH.of (a:=[]) (c:=[]) T.c204 (r204 T o w Z pw (abk (hn rfl)))
end
def DJ(k:Nat):ai:=(fn110).body.dr k
def F6(k:Nat):ai:=(DJ k).hd
def QQ:fn110=⟨69,2,[(4,none),(5,none)],.seq (F6 0) (.seq (F6 1) (.seq (F6 2) (.seq (F6 3) (.seq (F6 4) (DJ 5)))))⟩:=rfl
def QP:DJ 5=.seq (F6 5) (.seq (F6 6) (DJ 7)):=rfl
def O5{k q}(hq:lE k=some q):q.2.2<6:=by
 unfold lE at hq
 repeat' split at hq
 all_goals cases hq
 all_goals decide
section
variable {P:Program}(T:fq P) {h W:ah}{ts:TS}
include T
def Hq{VN n k i wt b6 b8 nm}(oV:aB W VN)(wV:eS VN.an)(Z:qQ P)(pw:Pw W)(hq:lE k=some (i,nm,wt))(hn:nm=true->dD VN.an wt n=true)
  (m6:W[b6]? =some (.b [.bool nm,.i (wt:Nat),.func (.func (qF i)) [] []])) (m8:W[b8]? =some (.b VN.row)) (hlen:ts.length=69) (t6:slot ts 6=.ptr b6 0) (t7:slot ts 7=.str n) (t8:slot ts 8=.ptr b8 0) (he:Ext h W):
  WC P bJ (DJ 7) [] ts W (FQ [(4,none),(5,none)] λv k=>Ext h k/\v=.dW [.str (yQ (k9 VN.an n i)),.i 0]):=by
 have l6:∀{k:ah}{n':Option Nat}{a:Nat},Ext W k->ao n' (.ptr b6 a) (λz=>k[z]?)=dG n' a (.b [.bool nm,.i (wt:Nat),.func (.func (qF i)) [] []]):=λe=>aA (e.some m6)
 have l8:∀{k:ah}{n':Option Nat}{a:Nat},Ext W k->ao n' (.ptr b8 a) (λz=>k[z]?)=dG n' a (.b VN.row):=λe=>aA (e.some m8)
 have XN:=Jv wV hq hn;have hv0:=RZ T oV wV Z pw hq hn;unfold DJ fn110 gA;simp only[ai.j,ai.s,ai.r,ai.dr,ai.tl,ai.hd];refine Rs (A6 t6 t7 t8 @l6 @l8 @aG) ?_;refine WF.val hv0 ?_;intro v g hv;have XN:(∀x∈k9 VN.an n i,x.length<=64)/\(k9 VN.an n i).length<=64:=XN;have hv:aI (W++g) v 1 ((k9 VN.an n i).map aq):=hv;generalize k9 VN.an n i=L at XN hv ⊢;by_cases hL:L=[]
 ·have d0:decide ((L.length:Int)=0)=true:=Z8 (by rw[hL];rfl);refine Rs (A5 t6 t7 t8 hv.aH @d0) ?_;exact⟨he.trans Xx,by rw[yQ,aai hL]⟩
 ·have Ym:0<L.length:=abV.2 hL;have d0:decide ((L.length:Int)=0)=false:=Z3 Om;have hj:=pZ (c:=32) XN.1;refine Rs (A5 t6 t7 t8 hv.aH @d0) ?_;refine WF.ce T.c114 (Z.join hv ⟨by rw[sd];omega,Om⟩) λg2=>?_
  refine Rs t6 ?_;exact⟨he.trans Xx,by rw[yQ,aab hL,sd]⟩
def Hp{V b n k i wt b6 nm}(o:zY h b V)(w:lq V.bY)(hl:V.cM.length<=1000)(Z:qQ P)(pw:Pw h)(hq:lE k=some (i,nm,wt))(he:Ext h W)
  (m6:W[b6]? =some (.b [.bool nm,.i (wt:Nat),.func (.func (qF i)) [] []])) (hlen:ts.length=69) (t0:slot ts 0=.ptr b 0) (t6:slot ts 6=.ptr b6 0) (t7:slot ts 7=.str n) {R}
  (hR:R=if nm=true/\dD V.bY.now wt n=false then([],10)else(yQ (k9 V.bY.now n i),0)):
  WC P bJ (DJ 5) [] ts W (FQ [(4,none),(5,none)] λv k=>Ext h k/\v=.dW [.str R.1,.i R.2]):=by
 have l6:∀{k:ah}{n':Option Nat}{a:Nat},Ext W k->ao n' (.ptr b6 a) (λz=>k[z]?)=dG n' a (.b [.bool nm,.i (wt:Nat),.func (.func (qF i)) [] []]):=λe=>aA (e.some m6)
 have hwt:wt<6:=O5 hq;obtain⟨RR,TK⟩:∃RR,RR=DJ 7:=⟨_,rfl⟩;have o2:=o.ext he;have oV:=o2.now;have wV:eS V.now.an:=by rw[V.jX];exact w.now
 rw[<-V.jX]at hR;have st:=λ{b':Nat}{a0 a1 a2 a3 a4 a5 a6:AV}=>@aB.st _ _ oV b' a0 a1 a2 a3 a4 a5 a6 false
 rw[QP,<-TK];unfold F6 DJ fn110 gA;simp only[ai.j,ai.s,ai.r,ai.dr,ai.tl,ai.hd];refine Rs (A3 t0 t6 t7) ?_;refine WF.ce T.c79 (r79 T o2 hl) λg1=>?_
 cases nm with
 |false=>
  rw[aab Si]at hR;refine Rs (A6 t0 t6 t7 @st @l6 @aG) ?_;rw[hR,TK];exact Hq T (VN:=V.now) (b6:=b6) (b8:=(W++g1).length) (oV.ext Xx) wV Z (pw.ext (he.trans Xx)) hq (λe=>by cases e) (Ext.some Xx m6) (by rw[aaf (aah _),abb];rfl) (Sq t0) (Sq t6) (Sq t7) (Sq t0) (he.trans Xx)
 |true=>
  refine Rs (A6 t0 t6 t7 @st @l6 @aG) ?_;refine WF.ce T.c86 (r86 T (oV.ext Xx) wV.len hwt n) λg2=>?_
  cases Yc:dD V.now.an wt n with
  |false=>
   rw[aai ⟨rfl,Yc⟩]at hR;refine Rs (A5 t0 t6 t7 @Yc @aay) ?_;exact⟨he.trans Xx,by rw[hR]⟩
  |true=>
   rw[aab (by rw[Yc];simp)]at hR;refine Rs (A5 t0 t6 t7 @Yc @aar) ?_;rw[hR,TK];exact Hq T (VN:=V.now) (b6:=b6) (b8:=(W++g1).length) (oV.ext Xx) wV Z (pw.ext (he.trans Xx)) hq (λ_=>Yc) (Ext.some Xx m6) (Ext.some (h:=W++g1++[ak.b V.now.row]) Xx (by rw[aaf (aah _),abb];rfl)) (Sq t0) (Sq t6) (Sq t7) (Sq t0) (he.trans Xx)
end
def A1:((false:Bool)==false)=true:=rfl
def AY:((true:Bool)==true)=true:=rfl
def AZ:((true:Bool)==false)=false:=rfl
def A0:((false:Bool)==true)=false:=rfl
section
variable {P:Program}(T:fq P) {h:ah}
include T
def r110{V b}(o:zY h b V)(w:lq V.bY)(hl:V.cM.length<=1000)(Z:qQ P)(pw:Pw h){s ws}(hs:aI h s 1 (ws.map aq))(hne:0<ws.length)(hwl:ws.length<2^62){q}(hq:lE (ws.headD [])=some q):
  ay P 110 [.ptr b 0,s] h (λv _=>v=.dW [.str (nR V.bY.now ws q).1,.i (nR V.bY.now ws q).2]):=by
 refine .of T.mix (acv T.c110 (aax some QQ)) ?_;obtain⟨ts,SH⟩:∃ts,ts=aW 69 [.ptr b 0,s]:=⟨_,rfl⟩;have hlen:ts.length=69:=by rw[SH];rfl
 have t0:slot ts 0=.ptr b 0:=by rw[SH];rfl
 have t1:slot ts 1=s:=by rw[SH];rfl
 obtain⟨RR,TK⟩:∃RR,RR=DJ 5:=⟨_,rfl⟩;obtain⟨i,nm,wt⟩:=q;show WC P bJ _ [] (aW 69 [.ptr b 0,s]) h (FQ _ (λv k=>Ext h k/\v=.dW [.str (nR V.bY.now ws (i,nm,wt)).1,.i (nR V.bY.now ws (i,nm,wt)).2]));rw[<-SH,<-TK];clear SH;have Zq:ws[0]=ws.headD []:=by cases ws with|nil=>simp at hne|cons a r=>rfl
 have qP:=hs.qP (kk:=.i64) hne;have ld0:∀{k:ah},Ext h k->ao none (cI s 1 0) (λb=>k[b]?)=some (.str (ws.headD []),.ar):=λ{k} e=>by rw[<-Zq];exact hs.lC (i:=0) hne rfl e
 unfold F6 DJ fn110 gA;simp only[ai.j,ai.s,ai.r,ai.dr,ai.tl,ai.hd];refine Rs (A2 t0 t1) ?_;refine WF.res T.c109 (r109 T) ?_;rintro _ g1 ⟨rfl,hg⟩;have hg:g1=[.bA CG]:=abQ hg;subst hg;have lk:∀{z:AV},iU .s z false (.map h.length) (.str (ws.headD [])) (λb=>(h++[ak.bA CG])[b]?)=lX z false ((lE (ws.headD [])).map jR):=CX (by rw[aaf (aah _),abb];rfl);rw[hq]at lk;have Tr:∀{z:AV},_=some (AV.agg [.bool nm,.i (wt:Nat),.func (.func (qF i)) [] []],jd.ar):=@lk;have m6:∀{k:ah},Ext (h++[ak.bA CG]++[ak.b [.bool nm,.i (wt:Nat),.func (.func (qF i)) [] []]]) k->k[(h++[ak.bA CG]).length]? =some (ak.b [.bool nm,.i (wt:Nat),.func (.func (qF i)) [] []]):=λe=>e.some (by rw[aaf (aah _),abb];rfl)
 have hsyn:∀{x:By×Int},x=([],25)->nR V.bY.now ws (i,nm,wt)=([],25)->∀{k:ah},Ext h k->(Ext h k/\AV.dW [.str [],.i 25]=.dW [.str (nR V.bY.now ws (i,nm,wt)).1,.i (nR V.bY.now ws (i,nm,wt)).2]):=λ_ he k e=>⟨e,by rw[he]⟩
 cases nm with
 |false=>
  have Uf:nR V.bY.now ws (i,false,wt)=if ws.length≠1 then([],25)else(yQ (k9 V.bY.now [] i),0):=by
   unfold nR;simp
  by_cases e1:ws.length=1
  ·have d1:decide ((ws.length:Int)≠1)=false:=Z3 (λz=>z Om);have d2:decide ((ws.length:Int)=2)=false:=Z3 Om;refine Rs (GD t0 t1 @qP @ld0 @bZ @Tr @iZ @A1 @AY @AZ @A0 hs.aH @d1 @d2 @aay @aar) ?_;rw[TK];exact Hp T (n:=[]) o w hl Z pw hq Xx (m6 Xx) (Sq t0) (Sq t0) (Sq t0) (Sq t0) (by rw[Uf,aab (by simpa using e1),aab Si])
  ·have d1:decide ((ws.length:Int)≠1)=true:=Z8 Om;rw[aai e1]at Uf;by_cases e2:ws.length=2
   ·have d2:decide ((ws.length:Int)=2)=true:=Z8 Om;have d3:decide (([] :By)≠[])=false:=rfl;refine Rs (J7 t0 t1 @qP @ld0 @bZ @Tr @iZ @A1 @AY @AZ @A0 hs.aH @d1 @d2 @d3 @aay @aar) ?_;rw[Uf]
   ·have d2:decide ((ws.length:Int)=2)=false:=Z3 Om;refine Rs (GD t0 t1 @qP @ld0 @bZ @Tr @iZ @A1 @AY @AZ @A0 hs.aH @d1 @d2 @aay @aar) ?_;rw[Uf]
 |true=>
  by_cases e2:ws.length=2
  ·have d2:decide ((ws.length:Int)=2)=true:=Z8 Om;have hw1:ws[1]=ws.getD 1 []:=by rw[aaN,Z6 Om];rfl
   have ix1:bf 1 s (.i 1)=some (cI s 1 1,.ar):=hs.c6 (kk:=.i64) (i:=1) Om;have XU:∀{k:ah},Ext h k->ao none (cI s 1 1) (λb=>k[b]?)=some (.str (ws.getD 1 []),.ar):=λ{k} e=>by rw[<-hw1];exact hs.lC (i:=1) Om rfl e
   have Uf:nR V.bY.now ws (i,true,wt)=if ws.getD 1 []=[]then([],25)else if dD V.bY.now wt (ws.getD 1 [])=false then([],10)else(yQ (k9 V.bY.now (ws.getD 1 []) i),0):=by
    unfold nR;simp only[e2,and_true,aan,acE,ne_eq,Bool.true_eq_false,false_and,abH,abN]
   generalize ws.getD 1 []=n at XU Uf;by_cases hn:n=[]
   ·have d3:decide (n≠[])=false:=Z3 (λz=>z hn);rw[aai hn]at Uf;refine Rs (HA t0 t1 @qP @ld0 @ix1 @XU @bZ @Tr @iZ @A1 @AY @AZ @A0 hs.aH @d2 @d3 @aay @aar) ?_;rw[Uf]
   ·have d3:decide (n≠[])=true:=Z8 hn;rw[aab hn]at Uf;refine Rs (HA t0 t1 @qP @ld0 @ix1 @XU @bZ @Tr @iZ @A1 @AY @AZ @A0 hs.aH @d2 @d3 @aay @aar) ?_;rw[TK];exact Hp T (n:=n) o w hl Z pw hq Xx (m6 Xx) (Sq t0) (Sq t0) (Sq t0) (Sq t0) (by rw[Uf];simp)
  ·have d2:decide ((ws.length:Int)=2)=false:=Z3 Om;have Uf:nR V.bY.now ws (i,true,wt)=([],25):=by
    unfold nR;simp[e2]
   refine Rs (Bn t0 t1 @qP @ld0 @bZ @Tr @iZ @A1 @AY @AZ @A0 hs.aH @d2 @aay @aar) ?_;rw[Uf]
end
def mS(B h0:ah)(b:Nat)(V:HV)(R:gO×By×Int)(v:AV)(k:ah):Prop:=∃g' V',k=B++g'/\v=.dW [.str R.2.1,.i R.2.2]/\cJ B.length (B++g') b V'/\V'.bY=R.1/\
 (∀i,i<h0.length->some i∉V.ex b->(B++g')[i]? =h0[i]?)/\∀j,some j∈V'.ex b->some j∈V.ex b\/h0.length<=j
def mS.same{B W k b V m c}(o:cJ B.length W b V)(e:Ext B W)(e2:Ext W k){R}(hR:R=(V.bY,m,c)):mS B W b V R (.dW [.str m,.i c]) k:=by
 obtain⟨z,rfl⟩:=e;obtain⟨y,rfl⟩:=e2;exact⟨z++y,V,by rw[Z4],by rw[hR],by rw[<-Z4];exact o.app y,by rw[hR],λi hi _=>by rw[<-Z4,Z7 hi],λj hj=>.inl hj⟩
def mS.low{B h0 W k b V R v}(s:mS B W b V R v k)(e:Ext h0 W):mS B h0 b V R v k:=by
 obtain⟨g',V',h1,h2,h3,h4,h5,h6⟩:=s;obtain⟨z,rfl⟩:=e;refine⟨g',V',h1,h2,h3,h4,λi hi hn=>?_,λj hj=>?_⟩
 ·rw[h5 i (by rw[Z1];omega) hn,Z7 hi]
 ·rcases h6 j hj with h|h
  ·exact .inl h
  ·exact .inr (by rw[Z1]at h;omega)
def rE(H:gO)(ws:List (By)):gO×By×Int:=
 if(fe ws).2=false then(H,[],25)else
 if 1000<=H.c9.length then(H,[],5)else
 if dV H { (fe ws).1 with num:=(H.c9.length:Int)+1}≠0 then(H,[],dV H { (fe ws).1 with num:=(H.c9.length:Int)+1})
 else(gy H { (fe ws).1 with num:=(H.c9.length:Int)+1},[100,111,110,101,32]++j6 ((H.c9.length:Int)+1),0)
def Dj{H s}:AM H s=if 4096<s.length then(H,[],26)else if s=[]then(H,[],25)else
  match lE ((bM 32 s).headD [])with
  |some q=>(H,nR H.now (bM 32 s) q)
  |none=>
   match iH ((bM 32 s).headD [])with
   |none=>(H,[],13)
   |some _=>rE H (bM 32 s):=by
 unfold AM;by_cases h1:4096<s.length
 ·rw[aai h1,aai h1]
 rw[aab h1,aab h1];by_cases h2:s=[]
 ·rw[aai h2,aai h2]
 rw[aab h2,aab h2];cases lE ((bM 32 s).headD [])with
 |some q=>rfl
 |none=>
  cases iH ((bM 32 s).headD [])with
  |none=>rfl
  |some d=>
   simp only;unfold rE;cases (fe (bM 32 s)).2<;>rfl
def JZ(k:Nat):ai:=(fn43).body.dr k
def Jg(k:Nat):ai:=(JZ k).hd
def QA:fn43=⟨97,2,[(4,none),(5,none)],.seq (Jg 0) (.seq (Jg 1) (.seq (Jg 2) (.seq (Jg 3) (.seq (Jg 4) (.seq (Jg 5) (JZ 6))))))⟩:=rfl
section
variable {P:Program}(T:fq P) {B W:ah}{ts:TS}
include T
def Nl{V b x}(he:Ext B W)(o:cJ B.length W b V)(w:lq V.bY)(hl:V.c9.length<1000)(ox:bh W x)(hxl:x.ev.names.length<=2^40/\x.ev.cw.length<=2^40)(gl:Gl B):
  dA P 112 [.ptr b 0,.agg x.row] W (λv k=>J6 B W b V x.ev v k):=by
 obtain⟨g,rfl⟩:=he;exact MQ T o w hl ox hxl gl
def Qz{V b}(he:Ext B W)(o:cJ B.length W b V)(w:lq V.bY)(hl:V.c9.length<=1000)(gl:Gl B)(pw:Pw B)(Z:qQ P){sv ws}(hs:aI W sv 1 (ws.map aq))(hwl:∀x∈ws,x.length<=2^40)
  (hlen:ts.length=97) (t0:slot ts 0=.ptr b 0) (t7:slot ts 7=sv):WC P bJ (JZ 6) [] ts W (FQ [(4,none),(5,none)] λv k=>mS B W b V (rE V.bY ws) v k):=by
 have Un:=vW ws;have Wp:V.bY.c9.length=V.c9.length:=by simp[HV.bY]
 have lb:=@dB _ _ _ o.hb;have Vt:=o.rd.ie.aH;unfold JZ fn43;simp only[ai.j,ai.s,ai.r,ai.dr,ai.tl,ai.hd];refine Rs (A2 t0 t7) ?_;refine WF.res T.c111 (r111 T Z hs hwl) ?_;rintro _ g1 ⟨x,hx,rfl,fn,fv⟩;have ox:bh (W++g1) x:=⟨fn.aY,fv.aY⟩;obtain⟨x',SO⟩:∃x':EV,x' =⟨{x.ev with num:=(V.c9.length:Int)+1},x.sn,x.sv⟩:=⟨_,rfl⟩;have hrow:x'.row=x.row.set 0 (.i ((V.c9.length:Int)+1)):=by rw[SO];rfl
 have UC:x'.ev.num=(V.c9.length:Int)+1:=by rw[SO]
 have hev:({ (fe ws).1 with num:=(V.bY.c9.length:Int)+1}:cY)=x'.ev:=by rw[SO,hx,Wp]
 have Ys:bh (W++g1) x':=by rw[SO];exact⟨ox.n,ox.v⟩
 have SM:rE V.bY ws=if(fe ws).2=false then(V.bY,[],25)else if 1000<=V.c9.length then(V.bY,[],5)else if dV V.bY x'.ev≠0 then(V.bY,[],dV V.bY x'.ev)else(gy V.bY x'.ev,[100,111,110,101,32]++j6 ((V.c9.length:Int)+1),0):=by
  unfold rE;rw[hev,Wp]
 have st:∀{b':Nat}{a0 a1 a2 a3 a4:AV},kN 5 0 (.agg x.row) b' (.b [a0,a1,a2,a3,a4])=some (az,.set b' (.b x.row)):=λ{_ _ _ _ _ _}=>ox.st
 have kM:∀{b':Nat},kN 1 0 (.i ((V.c9.length:Int)+1)) b' (.b x.row)=some (az,.set b' (.b x'.row)):=λ{b'}=>by
  rw[hrow];exact bP rfl (by show 0+1<=5;omega)
 have hpost:rE V.bY ws=rE V.bY ws:=rfl;generalize hfm:(fe ws).2=fm at SM ⊢;cases fm with
 |false=>
  refine Rs (A4 t0 t7 @st @aay) ?_;refine WF.ce T.c85 (r85 T _ _) λg2=>?_
  refine Rs (A4 t0 t7 @lb @Vt) ?_;refine WF.ce T.c85 (r85 T _ _) λg3=>?_
  refine Rs (A2 t0 t7) ?_;refine WF.ce T.c74 (r74 T (cg [_,_]) Si) λg4=>?_
  have e0:∀c,aQ [bW true 25,bW c 5]=25:=λc=>by cases c<;>rfl
  have d0:decide ((25:Int)≠0)=true:=rfl;refine Rs (A3 t0 e0 @d0) ?_;exact mS.same o he Xx (by rw[SM];rfl)
 |true=>
  rw[aab Si]at SM;refine Rs (A4 t0 t7 @st @aar) ?_;refine WF.ce T.c85 (r85 T _ _) λg2=>?_
  refine Rs (A4 t0 t7 @lb @Vt) ?_;refine WF.ce T.c85 (r85 T _ _) λg3=>?_
  refine Rs (A2 t0 t7) ?_;refine WF.ce T.c74 (r74 T (cg [_,_]) Si) λg4=>?_
  by_cases hk:1000<=V.c9.length
  ·have dk:decide ((1000:Int)<=(V.c9.length:Int))=true:=Z8 Om;have e0:aQ [bW false 25,bW true 5]=5:=rfl;have d0:decide ((5:Int)≠0)=true:=rfl;rw[aai hk]at SM;refine Rs (A4 t0 @dk e0 @d0) ?_;exact mS.same o he Xx SM
  ·have dk:decide ((1000:Int)<=(V.c9.length:Int))=false:=Z3 Om;have e0:aQ [bW false 25,bW false 5]=0:=rfl;have d0:decide ((0:Int)≠0)=false:=rfl;rw[aab hk]at SM;have w1:IntKind.i64.wrap ((V.c9.length:Int)+1)=(V.c9.length:Int)+1:=bD Om Om;refine Rs (A9 t0 @dk e0 @d0 @lb @Vt @w1 @kM @bR) ?_;obtain⟨Y,hY⟩:∃Y,Y=W++g1++[ak.b x'.row]++g2++g3++[ak.cells [.i (bW false 25),.i (bW false 5)] true true]++g4:=⟨_,rfl⟩;rw[<-hY];have XL:Ext W Y:=by rw[hY];exact Xx
   have oY:cJ B.length Y b V:=by obtain⟨z,hz⟩:=XL;rw[hz];exact o.app z
   have oxY:bh Y x':=by rw[hY];exact Ys.ext Xx
   have m12:Y[(W++g1).length]? =some (.b x'.row):=by rw[hY];exact Ext.some (h:=W++g1++[ak.b x'.row]) Xx (by rw[aaf (aah _),abb];rfl)
   refine WF.gen T.c112 (Nl T (he.trans XL) oY w Om oxY ⟨by rw[SO];show x.ev.names.length<=_;rw[hx];omega,by rw[SO];show x.ev.cw.length<=_;rw[hx];omega⟩ gl) ?_;rintro _ _ ⟨g',V',rfl,rfl,Zk,Yk,hkp,hexn⟩;have ZV:W.length<=Y.length:=by obtain⟨z,hz⟩:=XL;rw[hz,Z1];omega
   have hkW:∀i,i<W.length->some i∉V.ex b->(B++g')[i]? =W[i]? :=λi hi hn=>by
    rw[hkp i Om hn];obtain⟨z,hz⟩:=XL;rw[hz,Z7 hi]
   have hexW:∀j,some j∈V'.ex b->some j∈V.ex b\/W.length<=j:=λj hj=>(hexn j hj).imp id λh=>by omega
   by_cases UX:dV V.bY x'.ev=0
   ·have d:decide (dV V.bY x'.ev≠0)=false:=Z3 (λz=>z UX);rw[aai UX]at Yk;rw[aab (λz=>z UX)]at SM;have m12':(B++g')[(W++g1).length]? =some (.b x'.row):=by
     rw[hkp _ (Z2.1 m12).1 (λhj=>by have:=o.Dd hj;simp only[Z1]at this;omega)];exact m12
    have l12:ao none (.ptr (W++g1).length 0) (λz=>(B++g')[z]?)=some (.i ((V.c9.length:Int)+1),.ar):=by rw[aA m12',<-UC];rfl
    refine Rs (A3 t0 @d @l12) ?_;refine WF.ce T.c113 (Z.itoa Om Om (pw.ext ⟨_,rfl⟩)) λg5=>?_
    have hdl:=mI (k:=7) (u:=((V.c9.length:Int)+1).toNat) Om;rw[gY Om];have hdl:(j6 ((V.c9.length:Int)+1)).length<=8:=by rw[k5];exact hdl
    have hbc:([100,111,110,101,32] :By).length+(j6 ((V.c9.length:Int)+1)).length<2^62:=by
     simp only[Z5,Z9];omega
    have bc:=j7 hbc;refine Rs (A2 t0 @bc) ?_;exact⟨g'++g5,V',by rw[Z4],by rw[SM],by rw[<-Z4];exact Zk.app g5,by rw[SM,Yk],λi hi hn=>by
     rw[<-Z4,<-hkW i hi hn];have hil:i<(B++g').length:=by
      have e:=hkW i hi hn;rw[Z6 hi]at e;exact(Z2.1 e).1
     exact Z7 hil,hexW⟩
   ·have d:decide (dV V.bY x'.ev≠0)=true:=Z8 UX;rw[aab UX]at Yk;rw[aai UX]at SM;refine Rs (A2 t0 @d) ?_;exact⟨g',V',rfl,by rw[SM],Zk,by rw[SM,Yk],hkW,hexW⟩
end
def cJ.ext{N h k b V}(o:cJ N h b V)(e:Ext h k):cJ N k b V:=by obtain⟨z,rfl⟩:=e;exact o.app z
def uO{b o}:mQ Q5.ET (.ptr b o) .nilPtr=some false:=rfl
section
variable {P:Program}(T:fq P) {B g:ah}
include T
def So{V b}(o:cJ B.length (B++g) b V)(w:lq V.bY)(hl:V.c9.length<=1000)(gl:Gl B)(pw:Pw B)(X:DO P)(Z:qQ P)(s:By)(hs:s.length<=2^36):
  dA P 43 [.ptr b 0,.str s] (B++g) (λv k=>mS B (B++g) b V (AM V.bY s) v k):=by
 refine .of T.mix (acv T.c43 (aax some QA)) ?_;obtain⟨ts,SH⟩:∃ts,ts=aW 97 [.ptr b 0,.str s]:=⟨_,rfl⟩;have hlen:ts.length=97:=by rw[SH];rfl
 have t0:slot ts 0=.ptr b 0:=by rw[SH];rfl
 have t1:slot ts 1=.str s:=by rw[SH];rfl
 obtain⟨RR,TK⟩:∃RR,RR=JZ 6:=⟨_,rfl⟩;show WC P bJ _ [] (aW 97 [.ptr b 0,.str s]) (B++g) (FQ _ (λv k=>mS B (B++g) b V (AM V.bY s) v k));rw[<-SH,<-TK];clear SH;have he:Ext B (B++g):=⟨g,rfl⟩;obtain⟨W,hW⟩:∃W,W=B++g:=⟨_,rfl⟩;rw[<-hW]at o he ⊢;have eW:Ext W W:=Ext.refl W;have hregs:V.cM.length<=1000:=by
  have e1:=w.ln;have e2:=w.le;exact KV
 have UF:=Dj (H:=V.bY) (s:=s);unfold Jg JZ fn43;simp only[ai.j,ai.s,ai.r,ai.dr,ai.tl,ai.hd];refine Rs (A3 t0 t1 @uO) ?_;refine WF.ce T.c85 (r85 T _ _) λg1=>?_
 refine Rs (A2 t0 t1) ?_;refine WF.ce T.c85 (r85 T _ _) λg2=>?_
 refine Rs (A2 t0 t1) ?_;refine WF.ce T.c74 (r74 T (cg [_,_]) Si) λg3=>?_
 by_cases h1:4096<s.length
 ·have d1:decide ((4096:Int)<(s.length:Int))=true:=Z8 Om;have e0:∀c,aQ [bW true 26,bW c 25]=26:=λc=>by cases c<;>rfl
  have d0:decide ((26:Int)≠0)=true:=rfl;rw[aai h1]at UF;refine Rs (A5 t0 t1 @d1 e0 @d0) ?_;exact mS.same o he Xx UF
 have d1:decide ((4096:Int)<(s.length:Int))=false:=Z3 Om;rw[aab h1]at UF;by_cases h2:s=[]
 ·have d2:decide (s=[])=true:=Z8 h2;have e0:aQ [bW false 26,bW true 25]=25:=rfl;have d0:decide ((25:Int)≠0)=true:=rfl;rw[aai h2]at UF;refine Rs (A6 t0 t1 @d1 @d2 e0 @d0) ?_;exact mS.same o he Xx UF
 have d2:decide (s=[])=false:=Z3 h2;rw[aab h2]at UF;have e0:aQ [bW false 26,bW false 25]=0:=rfl;have d0:decide ((0:Int)≠0)=false:=rfl;refine Rs (A6 t0 t1 @d1 @d2 e0 @d0) ?_;refine WF.res T.c64 (r64 T X s 32 Om) ?_;intro sv g4 hv;have hwl:=tz (c:=32) (s:=s) (n:=2^40) Om;have hwn:(bM 32 s).length<=s.length+1:=by
  rw[ru];have:=List.count_le_length (a:=(32:UInt8)) (l:=s);omega
 have hne:0<(bM 32 s).length:=abV.2 kr;obtain⟨ws,Wy⟩:∃ws,ws=bM 32 s:=⟨_,rfl⟩;rw[<-Wy]at hv hwl hwn hne UF;have Zq:ws[0]=ws.headD []:=by
  clear hv hwl hwn UF Wy;cases ws with|nil=>simp at hne|cons a r=>rfl
 obtain⟨Y,hY⟩:∃Y,Y=W++g1++g2++[ak.cells [.i (bW false 26),.i (bW false 25)] true true]++g3++g4:=⟨_,rfl⟩;rw[<-hY]at hv ⊢;have XL:Ext W Y:=by rw[hY];exact Xx
 have oY:cJ B.length Y b V:=o.ext XL;have eB:=he.trans XL;have qP:=hv.qP (kk:=.i64) hne;have ld0:∀{k:ah},Ext Y k->ao none (cI sv 1 0) (λb=>k[b]?)=some (.str (ws.headD []),.ar):=λ{k} e=>by rw[<-Zq];exact hv.lC (i:=0) hne rfl e
 clear o he;refine Rs (A2 t0 t1) ?_;refine WF.res T.c109 (r109 T) ?_;rintro _ g5 ⟨rfl,hg⟩;have hg:g5=[.bA CG]:=abQ hg;subst hg;have lk:∀{z:AV},iU .s z true (.map Y.length) (.str (ws.headD [])) (λb=>(Y++[ak.bA CG])[b]?)=lX z true ((lE (ws.headD [])).map jR):=CX (by rw[aaf (aah _),abb];rfl);cases hq:lE (ws.headD [])with
 |some q=>
  obtain⟨i,nm,wt⟩:=q;rw[hq]at lk UF;have Tr:∀{z:AV},_=some (AV.dW [.agg [.bool nm,.i (wt:Nat),.func (.func (qF i)) [] []],.bool true],jd.ar):=@lk;refine Rs (A7 t0 t1 @qP @ld0 @bZ @Tr @iZ) ?_;refine WF.ce T.c110 (r110 T (oY.rd.ext Xx) w hregs Z (pw.ext (eB.trans Xx)) (hv.ext Xx) hne Om hq) λg6=>?_
  refine Rs t0 ?_;exact(mS.same oY eB Xx UF).low XL
 |none=>
  rw[hq]at lk UF;have Tr:∀{z:AV},_=some (AV.dW [z,.bool false],jd.ar):=@lk;refine Rs (A7 t0 t1 @qP @ld0 @bZ @Tr @iZ) ?_;clear lk Tr;refine WF.res T.c90 (r90 T) ?_;rintro _ g6 ⟨vf,rfl,hk⟩;obtain⟨Y2,Vi⟩:∃Y2,Y2=Y++[ak.bA CG]++[ak.b [.bool false,.i 0,.nilFunc]]:=⟨_,rfl⟩;rw[<-Vi]at hk ⊢;have VF:Ext Y Y2:=by rw[Vi];exact Xx
  have ld2:∀{k:ah},Ext Y2 k->ao none (cI sv 1 0) (λb=>k[b]?)=some (.str (ws.headD []),.ar):=λ{k} e=>ld0 (VF.trans e)
  have lk:∀{z:AV},iU .s z true (.map Y2.length) (.str (ws.headD [])) (λb=>(Y2++g6)[b]?)=lX z true ((iH (ws.headD [])).map vf):=hk.look;cases hd:iH (ws.headD [])with
  |none=>
   rw[hd]at lk UF;have Tr:∀{z:AV},_=some (AV.dW [z,.bool false],jd.ar):=@lk;refine Rs (A8 t0 t1 @qP @ld2 @bZ @Tr @iZ @aay) ?_;exact(mS.same oY eB (VF.trans Xx) UF).low XL
  |some d=>
   rw[hd]at lk UF;have Tr:∀{z:AV},_=some (AV.dW [vf d,.bool true],jd.ar):=@lk;obtain⟨rs,a,hvf,hr,ha,hab⟩:=(hk.k d).ex;rw[hvf]at Tr;have c1:=mG d;have c2:=l9 d;have c3:=hr.one;refine Rs (lI t0 t1 @qP @ld2 @bZ @Tr @aar @c1 @c2 @c3 @ha) ?_;have UF:AM V.bY s=rE V.bY ws:=UF;rw[TK,UF];refine WC.CV (Qz T (eB.trans (VF.trans Xx)) (oY.ext (VF.trans Xx)) w hl gl pw Z (hv.ext (VF.trans Xx)) hwl (Sq t0) (Sq t0) (Sq t0)) ?_;rintro e ts' h' ⟨q1,v,q2,q3⟩;exact⟨q1,v,q2,mS.low q3 (XL.trans (VF.trans Xx))⟩
end
def V0:HV:=⟨[],[],[],.af,.af,.af⟩
def Nu{h}:cJ h.length (h++[.b [.af,.af,.af]]) h.length V0:=
 ⟨aah _,by rw[aaf (aah _),abb];rfl,.nil,.nil,.nil,sG.2 ⟨λ_ _=>⟨by simp[sB,V0],by simp[sB,V0],by simp[sB,V0]⟩,λ_ z=>by simp[sB,V0]at z,λ_ z=>by simp[sB,V0]at z⟩,
  λx hx=>(by cases hx),λx hx=>(by cases hx),λx hx=>(by cases hx),λx hx=>(by cases hx)⟩
def Nv{b}:∀j,some j∈V0.ex b->j=b:=λj hj=>by
 simp only[HV.ex,V0,sB,aaJ,aa3,abH,aaB,reduceCtorEq]at hj;exact hj
def HN{H ws}(w:lq H):lq (rE H ws).1/\(rE H ws).1.c9.length<=H.c9.length+1:=by
 unfold rE;split
 ·exact⟨w,acD _⟩
 split
 ·exact⟨w,acD _⟩
 split
 ·exact⟨w,acD _⟩
 ·rename_i h;exact⟨w.add (abN.1 h),by rw[xM];omega⟩
def La{H s}(w:lq H):lq (AM H s).1/\(AM H s).1.c9.length<=H.c9.length+1:=by
 rw[Dj];split
 ·exact⟨w,acD _⟩
 split
 ·exact⟨w,acD _⟩
 split
 ·exact⟨w,acD _⟩
 split
 ·exact⟨w,acD _⟩
 exact HN w
def tF(x:By×By×Int):List AV:=[.str x.1,.str x.2.1,.i x.2.2]
def nj:gO->List (By×By×Int)->Option gO
 |H,[]=>some H
 |H,x::r=>if(AM H x.1).2.1=x.2.1/\(AM H x.1).2.2=x.2.2 then nj (AM H x.1).1 r else none
section
variable {P:Program}(T:fq P) {h:ah}
include T
def r70:ay P 70 [] h (λv h'=>v=.ptr h.length 0/\h' =h++[.b [.af,.af,.af]]):=by
 refine .of T.mix T.c70 ?_;unfold fn70 gA;exact Wn Tv
def r44{V b}(o:zY h b V)(w:lq V.bY)(hl:V.c9.length<=1000):
  ay P 44 [.ptr b 0] h (λv h'=>∃L':List EV,L'.map EV.ev=V.bY.c9/\du h' L' v):=by
 refine .kM 11 T.mix T.c44 ?_;intro ts hlen t0;unfold fn44 gA;have lb:=@dB _ _ _ o.hb;refine Rs (A3 t0 @uO @lb) ?_;refine WF.res T.c87 (r87 T ⟨o.ie,o.ae⟩ Om (λx hx=>by
  obtain⟨d,we⟩:=w.ev x.ev (aao hx);have h3:(bN d).length<=3/\cF d<=3:=by cases d<;>decide
  have:=we.nl;have:=we.vl;exact⟨Om,Om⟩)) ?_
 rintro v g ⟨L',hL,hf,hx⟩;refine Rs t0 ?_;exact⟨L',hL,hf.aY,λx SO=>(hx x SO).ok⟩
end
def IQ(d:Kd):(bu d).length<=16:=by cases d<;>decide
def Df{e d}(we:j8 e d):Q4 e/\(ji e).length<=520:=by
 have h3:(bN d).length<=3/\cF d<=3:=by cases d<;>decide
 have h1:=we.nl;have h2:=we.vl;have h4:=we.nu;have dl:∀{y:Int},0<=y->y<=999999999->(j6 y).length<=64:=λ{y} h0 h1=>by have:=mI (k:=9) (u:=y.toNat) Om;rw[k5];omega
 have hb:(ji e).length<=520:=by
  have hj:=pZ (c:=32) (l:=xG e) λx hx=>by
   unfold xG at hx;simp only[aac,aaJ,aa3,abH,aaA]at hx;rcases hx with((rfl|rfl)|hx)|⟨y,hy,rfl⟩
   ·exact z183
   ·have:=IQ d;rw[cA we.kd];omega
   ·have:=wj (we.nm x hx);omega
   ·have:=we.vr y hy;exact dl Om Om
  have hl:(xG e).length<=8:=by
   unfold xG;simp only[Z1,Z5,Z9,aaa];omega
  unfold ji;omega
 exact⟨⟨Om,λx hx=>by have:=we.vr x hx;omega,Om,Om,Om⟩,hb⟩
section
variable {P:Program}(T:fq P) {h:ah}
include T
def r45(Z:qQ P)(pw:Pw h){V b}(o:zY h b V)(w:lq V.bY)(hl:V.c9.length<=1000):
  ay P 45 [.ptr b 0] h (λv _=>v=.str (wy V.bY.c9)):=by
 refine .kM 12 T.mix T.c45 ?_;intro ts hlen t0;unfold fn45 gA;have lb:=@dB _ _ _ o.hb;refine Rs (A3 t0 @uO @lb) ?_;refine WF.res T.c115 (r115 T o.ie (λx hx=>⟨(o.ae x hx).n.one,(o.ae x hx).v.one⟩) Om (λx=>vV x.ev) (λx hx k e=>by
  obtain⟨d,we⟩:=w.ev x.ev (aao hx);exact bH.of (a:=[]) (c:=[]) T.c97 (r97 T Z ((o.ae x hx).ext e) (Df we).1 (pw.ext e)))) ?_
 rintro v g hf;refine Rs t0 ?_;have Tg:(V.c9.map λx=>vV x.ev).flatten.length<=V.c9.length*529:=by
  have:∀L:List EV,(∀x∈L,(vV x.ev).length<=529)->(L.map λx=>vV x.ev).flatten.length<=L.length*529:=by
   intro L
   induction L with
   |nil=>intro _;simp
   |cons x r ih=>
    intro hx;have h1:=ih λy hy=>hx y (aaH _ hy)
    have h2:=hx x Si;rw[aaX,aa5,Z1,Z5,abp];omega
  refine this _ λx hx=>?_
  obtain⟨d,we⟩:=w.ev x.ev (aao hx);have:=(Df we).2;rw[CD T Z];omega
 refine WF.ce T.c114 (Z.join hf.aY ⟨by rw[C4];omega,by rw[aaa];omega⟩) λg2=>?_
 refine Rs t0 ?_;rw[C4,wy,HV.bY,abJ];rfl
end
section
variable {P:Program}(T:fq P) {B:ah}
include T
def Qy{W V b}(he:Ext B W)(o:cJ B.length W b V)(w:lq V.bY)(hl:V.c9.length<=1000)(gl:Gl B)(pw:Pw B)(X:DO P)(Z:qQ P)(s:By)(hs:s.length<=2^36):
  dA P 43 [.ptr b 0,.str s] W (λv k=>mS B W b V (AM V.bY s) v k):=by
 obtain⟨g,rfl⟩:=he;exact So T o w hl gl pw X Z s hs
omit T in
theorem Eh{h k s es cs}(hs:aI h s es cs)(hk:∀j,sB s=some j->j<h.length->k[j]? =h[j]?):aI k s es cs:=by
 cases hs with
 |nil=>exact .nil
 |mk hb hf ho he=>
  have:=hk _ rfl (Z2.1 hb).1;exact .mk (this.trans hb) hf ho he
omit T in
theorem Ly{h s es cs}(hs:aI h s es cs){j}(hj:sB s=some j):j<h.length:=by
 cases hs with
 |nil=>cases hj
 |mk hb _ _ _=>cases hj;exact(Z2.1 hb).1
def Sm{g V b}(o:cJ B.length (B++g) b V)(w:lq V.bY)(gl:Gl B)(pw:Pw B)(X:DO P)(Z:qQ P){s L}(hs:aI (B++g) s 3 (L.map tF))(hns:∀j,sB s=some j->some j∉V.ex b)
  (hlL:V.c9.length+L.length<=1000) (bY:∀x∈L,x.1.length<=2^36) {H'}(ha:nj V.bY L=some H'):
  dA P 71 [.ptr b 0,s] (B++g) (λv k=>v=.bool true/\∃g' V',k=B++g'/\cJ B.length (B++g') b V'/\V'.bY=H'/\lq V'.bY/\V'.c9.length<=1000):=by
 refine .eX 35 T.mix T.c71 ?_;intro ts hlen t0 t1;unfold fn71 gA;refine Rs (A4 t0 t1 @uO hs.aH) ?_;refine WL.inv T.mix (λn ts h'=>∃(k:Nat) (V':HV) (g':ah),k<=L.length/\n=L.length-k/\h' =B++g'/\cJ B.length (B++g') b V'/\lq V'.bY/\V'.c9.length<=V.c9.length+k/\nj V'.bY (L.drop k)=some H'/\aI (B++g') s 3 (L.map tF)/\(∀j,sB s=some j->some j∉V'.ex b)/\
   ts.length=35/\slot ts 0=.ptr b 0/\slot ts 11=s/\slot ts 12=.i L.length/\slot ts 13=.i k) L.length
  ⟨0,V,g,Om,rfl,rfl,o,w,Om,ha,hs,hns,Sn,(Sq t0),(Sq t1),(Sq t0),ga⟩ ?_
 clear t0 t1 hlen o w hs hns ha;clear ts;rintro _ ts _ ⟨k,V',g',hk,rfl,rfl,o,w,hVl,ha,hs,hns,hlen,t0,t11,t12,t13⟩;by_cases hlt:k<L.length
 ·have e3:=dN hlt;have e5:=wrapN (n:=k) Om;have ix:=hs.c6 (kk:=.i64) hlt;have ld:∀{k'},Ext (B++g') k'->ao (some 3) (cI s 3 k) (λb=>k'[b]?)=some (.agg (tF L[k]),.ar):=λ{k'} e=>hs.gP hlt e
  obtain⟨⟨a,m,c⟩,hx⟩:∃x,x=L[k]:=⟨_,rfl⟩;have hm:(a,m,c)∈L:=by rw[hx];exact aad _
  have hd:L.drop k=(a,m,c)::L.drop (k+1):=by rw[hx];simp
  rw[<-hx]at ld;unfold tF at ld;rw[hd,nj]at ha;split at ha
  case isFalse=>cases ha
  case isTrue hc=>
  have hc1:(AM V'.bY a).2.1=m:=hc.1;have ZT:(AM V'.bY a).2.2=c:=hc.2;have hwd:=La (s:=a) w;obtain⟨W,hW⟩:∃W,W=B++g'++[ak.b [.str a,.str m,.i c]]:=⟨_,rfl⟩;have eW:Ext (B++g') W:=by rw[hW];exact Xx
  have mW:W[(B++g').length]? =some (.b [.str a,.str m,.i c]):=by rw[hW,aaf (aah _),abb];rfl
  have lW:∀{kk:ah}{n':Option Nat}{q:Nat},kk[(B++g').length]? =some (.b [.str a,.str m,.i c])->ao n' (.ptr (B++g').length q) (λz=>kk[z]?)=dG n' q (.b [.str a,.str m,.i c]):=λe=>aA e
  refine Rs (A7 t0 t11 t12 t13 e3 ix @ld) ?_;rw[<-hW];have lW1:=λ{n':Option Nat}{q:Nat}=>@lW W n' q mW
  refine Rs (A5 t0 t11 t12 t13 @lW1) ?_;refine WF.gen T.c43 (Qy T ((Ext.app _ (Ext.refl _):Ext B (B++g')).trans eW) (o.ext eW) w Om gl pw X Z a (bY _ hm)) ?_;rintro _ _ ⟨g2,V2,rfl,rfl,o2,hV2,hkp,hex⟩;have hWl:W.length=(B++g').length+1:=by rw[hW,Z1];rfl
  have m2:(B++g2)[(B++g').length]? =some (.b [.str a,.str m,.i c]):=by
   rw[hkp _ Om (λhj=>by have:=o.Dd hj;omega)];exact mW
  have lW2:=λ{n':Option Nat}{q:Nat}=>@lW (B++g2) n' q m2
  have d1:decide (m≠m)=false:=Z3 (λz=>z rfl);have d2:decide (c≠c)=false:=Z3 (λz=>z rfl);rw[hc1,ZT];refine Rs (A8 t0 t11 t12 t13 @lW2 @d1 @d2 e5) ?_;have hsW:=hs.ext eW;refine⟨L.length-(k+1),Om,k+1,V2,g2,Om,rfl,rfl,o2,by rw[hV2];exact hwd.1,?_,by rw[hV2];exact ha,Eh hsW λj hj hl=>hkp j hl (hns j hj),λj hj hx=>?_,rfl⟩
  ·have e1:V2.c9.length=V2.bY.c9.length:=by simp[HV.bY]
   have e2:V'.c9.length=V'.bY.c9.length:=by simp[HV.bY]
   have:=hwd.2;rw[<-hV2]at this;omega
  ·rcases hex j hx with hx|hx
   ·exact hns j hj hx
   ·have:=Ly hs hj;omega
 ·have e3:=eF hlt;have e4:k=L.length:=Om
  rw[e4,aa2,nj]at ha;cases ha;refine Rs (A5 t0 t11 t12 t13 e3) ?_;exact⟨g',V',rfl,o,rfl,w,Om⟩
end
def J1:List (By×By×Int):=[
 ([116,97,112,101,32,97,32,49,32,49,48],[100,111,110,101,32,49],0),
 ([116,97,112,101,32,98,32,53,32,49,48,48],[100,111,110,101,32,50],0),
 ([108,105,110,101,32,108,49,32,53,32,50],[100,111,110,101,32,51],0),
 ([115,104,111,116,32,115,49,32,108,49,32,97,32,54],[100,111,110,101,32,52],0),
 ([115,104,111,116,32,115,50,32,108,49,32,98,32,55],[100,111,110,101,32,53],0),
 ([99,111,112,121,32,97,32,98,32,56],[100,111,110,101,32,54],0),
 ([116,97,112,101,115,32,115,49],[97,32,98],0),
 ([99,111,112,121,32,97,32,98,32,49,50],[],30),
 ([119,97,110,116,32,108,49],[50,32,50,32,111,112,101,110],0),
 ([97,99,99,101,112,116,32,108,49,32,57],[100,111,110,101,32,55],0),
 ([115,104,111,116,32,115,51,32,108,49,32,98,32,57],[],23),
 ([115,111,117,114,99,101,32,109,49,32,108,49,32,57],[100,111,110,101,32,56],0),
 ([109,111,100,117,108,101,32,109,50,32,109,49,32,57,32,50],[100,111,110,101,32,57],0),
 ([109,111,100,117,108,101,32,109,51,32,109,50,32,57,32,51],[100,111,110,101,32,49,48],0),
 ([109,111,100,117,108,101,32,109,52,32,109,49,32,57,32,51],[],2),
 ([109,101,114,103,101,32,109,52,32,109,49,32,109,50,32,57],[],2),
 ([114,117,110,32,106,49,32,109,51,32,49,48,32,51],[100,111,110,101,32,49,49],0),
 ([116,105,108,101,32,106,49,32,49,48,32,50,32,55],[100,111,110,101,32,49,50],0),
 ([116,105,108,101,32,106,49,32,49,48,32,48,32,53],[100,111,110,101,32,49,51],0),
 ([108,101,102,116,32,106,49],[49],0),
 ([102,97,105,108,32,106,49,32,49,49,32,50],[100,111,110,101,32,49,52],0),
 ([108,101,102,116,32,106,49],[49,32,50],0),
 ([112,105,99,116,117,114,101,32,112,49,32,106,49,32,49,49],[],32),
 ([116,105,108,101,32,106,49,32,49,49,32,49,32,54],[100,111,110,101,32,49,53],0),
 ([116,105,108,101,32,106,49,32,49,49,32,50,32,55],[100,111,110,101,32,49,54],0),
 ([112,105,99,116,117,114,101,32,112,49,32,106,49,32,49,50],[100,111,110,101,32,49,55],0),
 ([102,114,111,109,32,112,49],[115,49,32,115,50],0),
 ([108,105,110,101,115,32,109,51],[108,49],0),
 ([117,110,115,97,102,101],[110,111,110,101],0),
 ([114,101,108,101,97,115,101,32,112,49,32,49,50],[100,111,110,101,32,49,56],0),
 ([117,110,100,111],[],21),
 ([114,101,108,101,97,115,101,100],[112,49,32,53,50,57,49,55,52],0)]
def vm:gO:=(nj gO.zero J1).getD gO.zero
set_option maxRecDepth 100000 in
def Nb:(nj gO.zero J1).isSome=true:=by decide+kernel
set_option maxRecDepth 100000 in
def Jq:vm.c9.length=18:=by decide+kernel
set_option maxRecDepth 100000 in
def DB:lR (vm.c9.take 5) [115,49] 12=(false,0):=by decide+kernel
set_option maxRecDepth 100000 in
def DA:lR vm.c9 [115,49] 105=(true,0):=by decide+kernel
set_option maxRecDepth 100000 in
def Jm:fU vm.c9 106=([[115,49],[115,50]],0):=by decide+kernel
set_option maxRecDepth 100000 in
def FW:zt vm.c9 [109,51]=([[109,49],[109,50],[109,51]],0):=by decide+kernel
set_option maxRecDepth 100000 in
def Jr:Fq [5,6,7]=(529174,0):=by decide+kernel
set_option maxRecDepth 100000 in
def xI:(jJ vm.c9 [108,49]).1.length=8/\(jJ vm.c9 [108,49]).2=0:=by decide+kernel
set_option maxRecDepth 100000 in
def Jp:(wy vm.c9).length<=100000:=by decide+kernel
set_option maxRecDepth 100000 in
def Jo:(lT (wy vm.c9++[49])).2.2=28/\(lT (wy vm.c9++[49])).1.length=18/\(lT (wy vm.c9++[49])).2.1=(wy vm.c9).length:=by decide+kernel
set_option maxRecDepth 100000 in
def Jn:nV [49,49]=[48,49,51,49,53,56,49]:=by decide+kernel
def zM{h c N}:ni .NO (.slice h.length 0 1 1) (λb=>(h++[ak.cells [.int .u8 c] true true])[b]?) N=some (.str [UInt8.ofNat c.toNat],.ar):=by
 simp only[ni,fG,aan,ba];rfl
def zH{n}(h0:0<=n)(h1:n<10):UInt8.ofNat (IntKind.u8.wrap (IntKind.i64.wrap (48+n))).toNat=UInt8.ofNat (48+n.toNat):=by
 rw[bD Om Om,HL Om Om];congr 1;omega
section
variable {P:Program}(T:fq P)
include T
set_option maxRecDepth 10000 in
def r197:∀{k}{n}{h},0<=n->n<10^(k+1)->k<=15->ay P 197 [.i n] h (λv _=>v=.str (j6 n)):=by
 intro k
 induction k with
 |zero=>
  intro n h h0 h1 _;refine .of T.mix T.c197 ?_;unfold fn197 gA;have h10:n<10:=by simpa using h1
  have d0:decide (n<0)=false:=Z3 Om;exact K7
 |succ k ih=>
  intro n h h0 h1 hk;refine .of T.mix T.c197 ?_;unfold fn197 gA;have d0:decide (n<0)=false:=Z3 Om;by_cases h10:n<10
  ·exact K7
  ·have d1:decide (n<10)=false:=Z3 h10;have hb:n<=10^17:=by
    have:(10:Int)^(k+1+1)<=10^17:=by
     have:=Nat.pow_le_pow_right (n:=10) De (show k+1+1<=17 by omega)
     exact_mod_cast this
    omega
   have eq:n.tdiv 10=n / 10:=Int.tdiv_eq_ediv_of_nonneg h0;have em:n.tmod 10=n%10:=Int.tmod_eq_emod_of_nonneg h0;have w1:IntKind.i64.wrap (n / 10)=n / 10:=bD Om Om;have bq:eV .quo (.i n) (.i 10)=some (.i (n / 10)):=by rw[FG De,eq,w1]
   have bm:eV .rem (.i n) (.i 10)=some (.i (n%10)):=by rw[pf De,em]
   refine Ws (A4 @d0 @d1 @bq @bm) ?_;refine WF.ce T.c197 (ih Om (by rw[Int.pow_succ]at h1;omega) Om) λg1=>?_
   have hd:=mI (k:=k) (u:=(n / 10).toNat) (by
    have h2:n / 10<10^(k+1):=by rw[Int.pow_succ]at h1;omega
    have h3:(((n / 10).toNat:Nat):Int)<((10^(k+1):Nat):Int):=by rw[Int.toNat_of_nonneg Om];exact_mod_cast h2
    exact_mod_cast h3)
   have bc:∀{c:UInt8},eV .add (.str (j6 (n / 10))) (.str [c])=some (.str (j6 (n / 10)++[c])):=j7 (by rw[k5];simp;omega);refine Ws (A5 @bq @bm @ve @zM @bc) ?_;rw[zH Om Om,k5,k5,Lib.decDigits.eq_def n.toNat,dif_neg Om];congr 3
   ·omega
   ·congr 2;omega
def r108{k n h}(h0:0<=n)(h1:n<10^(k+1))(hk:k<=15):ay P 108 [.i n] h (λv _=>v=.str (j6 n)):=by
 refine .of T.mix T.c108 ?_;unfold fn108 gA;refine Wn ?_;refine WF.ce T.c197 (r197 T h0 h1 hk) λg=>?_
 exact Wn Tv
set_option maxRecDepth 10000 in
def r72{h}(s:By)(hs:s.length<=2^40):ay P 72 [.str s] h (λv _=>v=.str (nV s)):=by
 refine .kM 28 T.mix T.c72 ?_;intro ts hlen t0;unfold fn72 gA;refine Rs t0 ?_;refine WL.inv T.mix (λn ts' h'=>∃k:Nat,k<=s.length/\n=s.length-k/\h' =h/\ts'.length=28/\slot ts' 0=.str s/\slot ts' 3=.i (iY (s.take k))/\slot ts' 4=.i k) s.length
  ⟨0,Om,rfl,rfl,(Sq t0),(Sq t0),ga,ga⟩ ?_
 rintro _ ts' hz ⟨k,hk,rfl,hh,T7,u0,u3,u4⟩;rw[hh];clear hh hz;clear hlen t0;have hlen:=T7;clear T7;by_cases hlt:k<s.length
 ·have e3:=dN hlt;have hb:=nW (s.take k);have hcn:=UInt8.toNat_lt s[k];have w1:IntKind.i64.wrap (339*iY (s.take k))=339*iY (s.take k):=bD Om Om;have w2:IntKind.i64.wrap (s[k].toNat:Int)=(s[k].toNat:Int):=bD Om Om;have w3:IntKind.i64.wrap (339*iY (s.take k)+(s[k].toNat:Int))=339*iY (s.take k)+(s[k].toNat:Int):=bD Om Om;have er:=pf (k:=.i64) (a:=339*iY (s.take k)+(s[k].toNat:Int)) (b:=9999749) De;rw[<-vF,<-nB hlt]at er
  repeat (first|simp (config:={maxSteps:=1000000}) only[aO,aT,aZ,a8,reduceAdd,reduceMul,reduceLeDiff,reduceEqDiff,bd,hlen,aal,aan,u0,u3,u4,e3,ke hlt,w1,w2,w3,er,wrapN (show k+1<2^63 by omega)]|simp (config:={maxSteps:=1000000}) (disch:=first|(simp only[Z1,Z5,Z9]<;>omega)|rfl|omega|fail) only[dX,aO,aT,aZ,a8,reduceAdd,reduceMul,reduceLeDiff,reduceEqDiff,bd,hlen,aal,aan,u0,u3,u4,e3,ke hlt,w1,w2,w3,er,wrapN (show k+1<2^63 by omega)])
  exact z182
 ·have e3:=eF hlt;have ek:k=s.length:=Om
  rw[ek,aaI]at u3;have hb:=nW s;have hl:=ur s;refine Rs (A4 @u0 @u3 @u4 e3) ?_;refine WF.ce T.c108 (r108 T (k:=7) hb.1 Om Om) λg=>?_
  refine Rs @u0 ?_;generalize hd:j6 (iY s)=d at hl;have hT:nV s=List.replicate (7-d.length) 48++d:=by unfold nV;rw[hd]
  refine WL.inv T.mix (λn ts' h'=>∃j:Nat,d.length+j<=7/\n=7-(d.length+j)/\Ext h h'/\ts'.length=28/\slot ts' 5=.str (List.replicate j 48++d)) (7-d.length)
   ⟨0,Om,rfl,Xx,(Sq @u0),ga⟩ ?_
  rintro _ Wb _ ⟨j,hj,rfl,⟨g2,rfl⟩,Xb,v5⟩;clear hlen;have hlen:=Xb;by_cases h7:d.length+j<7
  ·have e7:decide (((List.replicate j (48:UInt8)++d).length:Int)<7)=true:=Z8 (by rw[Z1,abd];omega);have hbc:([48] :By).length+(List.replicate j (48:UInt8)++d).length<2^62:=by rw[Z1,abd];simp only[Z5,Z9];omega
   have bc:=j7 hbc;refine Rs (A3 @v5 e7 @bc) ?_;exact⟨7-(d.length+(j+1)),Om,j+1,Om,rfl,rfl⟩
  ·have e7:decide (((List.replicate j (48:UInt8)++d).length:Int)<7)=false:=Z3 (by rw[Z1,abd];omega);have ej:j=7-d.length:=Om
   refine Rs (A2 @v5 e7) ?_;rw[hT,ej]
end
def J0(k:Nat):ai:=(fn15).body.dr k
def FU(k:Nat):ai:=(J0 k).hd
def Na:fn15=⟨158,0,[(0,none)],.seq (FU 0) (.seq (FU 1) (.seq (FU 2) (J0 3)))⟩:=rfl
def wK{h:ah}{M:List (By)}:aI (h++[ak.cells (M.map aq).flatten true true]) (.slice h.length 0 (M.map aq).length 1) 1 (M.map aq):=(Fr.push (es:=1) (N:=0) (aaC _) (M.map aq) (by simp[aq])).aY
section
variable {P:Program}(T:fq P) {h:ah}
include T
omit T in
theorem FV:nj gO.zero J1=some vm:=by
 have:=Nb;unfold vm;generalize nj gO.zero J1=o at this ⊢;cases o with
 |none=>cases this
 |some x=>rfl
def Ng{B W V b}(he:Ext B W)(o:cJ B.length W b V)(w:lq V.bY)(gl:Gl B)(pw:Pw B)(X:DO P)(Z:qQ P){s L}(hs:aI W s 3 (L.map tF))(hns:∀j,sB s=some j->some j∉V.ex b)
  (hlL:V.c9.length+L.length<=1000) (bY:∀x∈L,x.1.length<=2^36) {H'}(ha:nj V.bY L=some H'):
  dA P 71 [.ptr b 0,s] W (λv k=>v=.bool true/\∃g' V',k=B++g'/\cJ B.length (B++g') b V'/\V'.bY=H'/\lq V'.bY/\V'.c9.length<=1000):=by
 obtain⟨g,rfl⟩:=he;exact Sm T o w gl pw X Z hs hns hlL bY ha
def QN(X:DO P)(Z:qQ P){W:ah}(gl:Gl W)(pw:Pw W){V:HV}{b:Nat}(o:zY W b V)(w:lq V.bY)(hl:V.c9.length<=1000)(hV:V.bY=vm){ts:TS}(hlen:ts.length=158)(t1:slot ts 1=.ptr b 0)(he:Ext h W):
  WC P bJ (J0 3) [] ts W (FQ [(0,none)] λv k=>Ext h k/\v=.bool true):=by
 unfold J0 fn15 gA;simp only[ai.j,ai.s,ai.r,ai.dr,ai.tl,ai.hd];refine Rs t1 ?_;refine WF.res T.c44 (r44 T o w hl) ?_;rintro sv g1 ⟨L,hL,oL⟩;rw[hV]at hL;have Ym:L.length=18:=by have:=aax List.length hL;rw[aaa,Jq]at this;exact this
 have hsh:∀x∈L,x.ev.names.length<=2^30/\x.ev.cw.length<=2^30:=λx hx=>by
  obtain⟨d,we⟩:=w.ev x.ev (by rw[hV,<-hL];exact aao hx);have h3:(bN d).length<=3/\cF d<=3:=by cases d<;>decide
  have:=we.nl;have:=we.vl;exact⟨Om,Om⟩
 have sh:qj L:=⟨Om,hsh⟩;have d18:decide ((L.length:Int)≠18)=false:=Z3 (λz=>z Om);obtain⟨s5,e5,h5⟩:=oL.sl.Eg (lo:=none) (hi:=some (.i 5)) (l:=0) (u:=5) (jt (k:=5) Om);have h5':aI (W++g1) s5 5 ((L.take 5).map EV.row):=h5;have o5:du (W++g1) (L.take 5) s5:=⟨h5',λx hx=>oL.all x (aa4 hx)⟩;have sh5:qj (L.take 5):=⟨by rw[aaQ];omega,λx hx=>hsh x (aa4 hx)⟩;have m5:(L.take 5).map EV.ev=vm.c9.take 5:=by rw[acC,hL]
 refine Rs (A4 t1 oL.sl.aH @d18 e5) ?_;refine WF.ce T.c16 (r16 T o5 sh5 (gl.ext Xx) [115,49] 12) λg2=>?_
 rw[m5,DB];refine Rs t1 ?_;refine WF.ce T.c16 (r16 T (oL.ext Xx) sh (gl.ext Xx) [115,49] 105) λg3=>?_
 rw[hL,DA];refine Rs t1 ?_;refine WF.res T.c17 (r17 T (oL.ext Xx) sh (gl.ext Xx) 106) ?_;rintro _ g4 ⟨su,rfl,hu⟩;rw[hL,Jm]at hu ⊢;refine Rs t1 ?_;refine WF.res T.c51 (r51 T (oL.ext Xx) sh (gl.ext Xx) [109,51]) ?_;rintro _ g5 ⟨sn,rfl,hn⟩;rw[hL,FW]at hn ⊢;refine Rs t1 ?_;refine WF.ce T.c27 (r27 T (cg [5,6,7]) De) λg6=>?_
 rw[Jr];refine Rs t1 ?_;refine WF.res T.c26 (r26 T (oL.ext Xx) sh (gl.ext Xx) [108,49]) ?_;rintro _ g7 ⟨ss,Ls,rfl,os,hLs⟩;rw[hL]at hLs ⊢;have hLsl:Ls.length=8:=by have:=aax List.length hLs;rw[aaa,xI.1]at this;exact this
 rw[xI.2];refine Rs t1 ?_;refine WF.ce T.c45 (r45 T Z (pw.ext Xx) (o.ext Xx) w hl) λg8=>?_
 rw[hV];have hlg:=Jp;have hrc:=Jo;generalize wy vm.c9=lg at hlg hrc ⊢;have bc:=j7 (show lg.length+([49] :By).length<2^62 by simp only[Z5,Z9];omega);refine Rs (A2 t1 @bc) ?_;refine WF.res T.c37 (r37 T X Z (pw.ext Xx) (lg++[49]) (by rw[Z1];simp only[Z5,Z9];omega)) ?_;rintro _ g9 ⟨Lr,sr,hLr,rfl,fr,-⟩;have hLrl:Lr.length=18:=by have:=aax List.length hLr;rw[aaa,hrc.2.1]at this;exact this
 rw[hrc.1,hrc.2.2];have d8:decide ((Ls.length:Int)=8)=true:=Z8 Om;have d19:decide ((Lr.length:Int)=18)=true:=Z8 Om;have wz:IntKind.i64.wrap ((0:Int)+0)=0:=rfl;have z0:decide ((0:Int)=0)=true:=rfl;refine Rs (A5 t1 @wz @z0 @aay @aaq) ?_;refine WF.res T.c25 (r25 T (L:=[[115,49],[115,50]]) (M:=[[115,49],[115,50]]) ?hu (wK (M:=[[115,49],[115,50]])) De De) ?_
 case hu=>exact hu.ext Xx
 rintro _ k1 rfl;have q1:decide (([[115,49],[115,50]] :List (By))=[[115,49],[115,50]])=true:=rfl;have q2:decide (([[109,49],[109,50],[109,51]] :List (By))=[[109,49],[109,50],[109,51]])=true:=rfl;rw[q1];refine Rs (A2 t1 @aaq) ?_;refine WF.res T.c25 (r25 T (L:=[[109,49],[109,50],[109,51]]) (M:=[[109,49],[109,50],[109,51]]) ?hn (wK (M:=[[109,49],[109,50],[109,51]])) De De) ?_
 case hn=>exact hn.ext Xx
 rintro _ k2 rfl;rw[q2];have q3:decide ((529174:Int)=529174)=true:=rfl;have q4:decide ((28:Int)=28)=true:=rfl;have q5:decide ((lg.length:Int)=(lg.length:Int))=true:=Z8 rfl;refine Rs (A9 t1 q3 q4 q5 @d8 @d19 os.sl.aH fr.aY.aH @aaq) ?_;refine WF.ce T.c72 (r72 T [49,49] De) λk3=>?_
 have q6:decide (([48,49,51,49,53,56,49] :By)=[48,49,51,49,53,56,49])=true:=Z8 rfl;rw[Jn];refine Rs (A3 t1 q6 @aaq) ?_;exact⟨he.trans Xx,trivial⟩
def r15(X:DO P)(Z:qQ P)(gl:Gl h)(pw:Pw h):ay P 15 [] h (λv _=>v=.bool true):=by
 refine .of T.mix (acv T.c15 (aax some Na)) ?_;obtain⟨ts,SH⟩:∃ts,ts=aW 158 []:=⟨_,rfl⟩;have hlen:ts.length=158:=by rw[SH];rfl
 obtain⟨RR,TK⟩:∃RR,RR=J0 3:=⟨_,rfl⟩;show WC P bJ _ [] (aW 158 []) h (FQ _ _);rw[<-SH,<-TK];clear SH;unfold FU J0 fn15 gA;simp only[ai.j,ai.s,ai.r,ai.dr,ai.tl,ai.hd];refine Rs @hlen ?_;refine WF.res T.c70 (r70 T) ?_;rintro _ g0 ⟨rfl,hg⟩;have hg:g0=[.b [.af,.af,.af]]:=abQ hg;subst hg;refine Rs @hlen ?_;refine WF.gen T.c71 (Ng T (B:=h) (V:=V0) (b:=h.length) (L:=J1) (H':=vm) Xx (Nu.app _) lq.zero gl pw X Z (Fr.push (N:=0) (h:=h++[ak.b [.af,.af,.af]]) (es:=3) (aaC _) (J1.map tF) (λx hx=>by obtain⟨y,_,rfl⟩:=aaA.1 hx;rfl)).aY (λj hj hx=>by
  have:=Nv j hx;have e:(h++[ak.b [.af,.af,.af]]).length=j:=aa0 hj;rw[Z1]at e;simp at e;omega) De De FV) ?_
 rintro _ _ ⟨rfl,g',V',rfl,oV,hV,wV,hVl⟩;refine Rs (A2 @hlen @aar) ?_;rw[TK];exact QN T X Z (gl.ext ⟨_,rfl⟩) (pw.ext ⟨_,rfl⟩) oV.rd wV hVl hV (Sq @hlen) (Sq @hlen) ⟨_,rfl⟩
end
def yz:Go.Proofs.Tryz.prog.globals.size=9:=by kernel_rfl
def Fg:Fh Go.Proofs.Tryz.prog 2=20:=by kernel_rfl
open Go.RowKit in
def E9{h:ah}{n:Int}(h0:-9223372036854775808<=n)(h1:n<=9223372036854775807){mu tl:Bool}(hb:h[2]? =some (.cells (Lib.pow10Tab.map (AV.int .u64)) mu tl)):
  my Go.Proofs.Tryz.prog 113 [.int .i64 n] h (.str (Lib.itoa n)) h:=by
 intro m w vs hr ha;obtain⟨v,vs1,rfl,hv,hr1⟩:=aV.1 ha;rw[bG]at hr1;subst hr1;rw[VR]at hv;subst hv;obtain⟨e,he,hcb,hd,-,eQ⟩:=hr.gD 2 (by rw[yz];omega);obtain⟨cc,el,fz,hw,⟨hle,Vu,hsz2⟩,SR,-,-⟩:=hr.ep 2 e _ he hb;have htab:Lib.TabIs Go.Proofs.Tryz.prog w "internal/strconv.uint64pow10" .u64 Lib.pow10Tab:=by
  unfold Lib.TabIs World.var?;rw[Go.Proofs.Tryz.zv.m17];show(match w.heap[2]? with|some (.cells cs _ _)=>some cs|_=>none)=_;rw[hcb]at hw;rw[hw];have h20:cc.size=20:=by rw[hsz2,eQ,Fg]
  refine aax some (Array.ext_getElem? λi=>?_);by_cases hi:i<20
  ·have hl:i<Lib.pow10Tab.length:=by rw[Lib.pow10Tab_length];exact hi
   obtain⟨_,cv,UT,SL⟩:=SR i (.int .u64 Lib.pow10Tab[i]) (by rw[aa7,Z6 hl];rfl);rw[VR]at SL;rw[hd,aaP]at UT;rw[UT,SL,abw,aa7,Z6 hl];rfl
  ·rw[abz Om,abz (by rw[List.size_toArray,aaa,Lib.pow10Tab_length];omega)]
 refine(Go.Proofs.Any.strconv_Itoa Go.Proofs.Tryz.zv n h0 h1 w htab).mono ?_;rintro e' w' ⟨rfl,k,os,rfl⟩;have hh:∀i,i<w.heap.size->(Go.Sort.grow (w.drewN k) os).heap[i]? =w.heap[i]? :=λi hi=>by
  show(w.heap++os)[i]? =_;rw[Array.getElem?_append_left hi]
 have hs:w.heap.size<=(Go.Sort.grow (w.drewN k) os).heap.size:=by
  show w.heap.size<=(w.heap++os).size;simp
 exact⟨_,m,rfl,rfl,⟨hr.cO,λb' e' k' a1 a2=>(hr.ep b' e' k' a1 a2).heap (hh _ (hr.lt b' e' a1)),hr.sep,hr.gD,λb' e' a1=>aaY (hr.lt b' e' a1) hs⟩,
  ⟨λ_ _=>rfl,aah _,λb' e' a1 a2=>absurd (hr.cO b' e' a2) Om,λ_ _ x=>x,hs,rfl,rfl,rfl,λi hi _=>hh i hi⟩⟩
theorem tv:∀xs:List (By),(xs.map λx=>[AV.str x]).flatten=xs.map AV.str
 |[]=>rfl
 |x::xs=>by rw[aaX,aa5,tv xs];rfl
def aI.inv{h:ah}{b o n e es:Nat}{cs:List (List AV)}(hs:aI h (.slice b o n e) es cs):n=cs.length/\∃c mu tl,h[b]? =some (.cells c mu tl)/\(c.drop o).take (cs.length*es)=cs.flatten:=by
 generalize hx:AV.slice b o n e=x at hs;cases hs with
 |nil=>cases hx
 |mk hb hf ho he=>cases hx;exact⟨rfl,_,_,_,hb,hf⟩
open Go.RowKit in
def E8{h:ah}{s:AV}{sep:By}{xs:List (By)}(hs:aI h s 1 (xs.map λx=>[AV.str x]))(hl:(Lib.join xs sep).length<=140737488355328/\xs.length<=140737488355328):my Go.Proofs.Tryz.prog 114 [s,.str sep] h (.str (Lib.join xs sep)) h:=by
 intro m w vs hr hargs;obtain⟨v1,vs1,rfl,XE,hr1⟩:=aV.1 hargs;obtain⟨v2,vs2,rfl,WD,T4⟩:=aV.1 hr1;rw[bG]at T4;subst T4;rw[VR]at WD;subst WD;have fin:∀e w',(e=.returned (.string ⟨(Lib.join xs sep).toArray⟩)/\Below w.heap.size w w')->Rel Go.Proofs.Tryz.prog m h w (.str (Lib.join xs sep)) h e w':=by
  rintro e w' ⟨rfl,hb⟩;exact⟨_,m,rfl,rfl,⟨hr.cO,λb e k h1 h2=>(hr.ep b e k h1 h2).heap (hb.block _ (hr.lt b e h1)),hr.sep,hr.gD,λb e h1=>aaY (hr.lt b e h1) hb.size⟩,
   ⟨λ_ _=>rfl,aah _,λb e h1 h2=>absurd (hr.cO b e h2) Om,λ_ _ h=>h,hb.size,hb.os,hb.output,hb.tape,λi hi _=>hb.block i hi⟩⟩
 have zero:xs=[]->∀(a:Option Addr) (c:Nat),Calls Go.Proofs.Tryz.prog 114 #[.slice a 0 c,.string ⟨⟨sep⟩⟩] w (Rel Go.Proofs.Tryz.prog m h w (.str (Lib.join xs sep)) h):=λhx a c=>by
  refine(Go.Proofs.Tryz.strings_Join_none a c ⟨⟨sep⟩⟩ w).mono λe w' ⟨he,hw⟩=>fin e w' ⟨?_,hw▸Below.refl _ _⟩
  rw[he,hx];rfl
 have hlen:=hs.aH (λ_=>none);cases s with
 |af=>
  rw[VR]at XE;subst XE;simp only[Go.Abs.ja,aan,aaB]at hlen;exact zero (aa9.1 hlen.symm) none 0
 |slice b o n es=>
  simp only[Go.Abs.ja,aan,aaB]at hlen;subst hlen;rw[VR]at XE;obtain⟨ent,ca,cap,he,rfl,hcap,Tt,eQ⟩:=XE;by_cases hz:xs.length=0
  ·have TH:=aa9.1 hz;have:=zero TH (some ca) cap;rw[hz];exact this
  ·have hca':=Tt Om;subst hca';generalize Uw:xs.map (λx=>[AV.str x])=cs at hs;have hcl:cs.length=xs.length:=by rw[<-Uw];simp
   obtain⟨_,c,mu,tl,hb,hf⟩:=hs.inv
   ·obtain⟨cc,el,fz,hheap,_,TE,_⟩:=hr.ep b ent _ he hb;have key:=Go.Proofs.Tryz.strings_Join ent.cb (o+ent.d) cap (xs.map λl=>⟨⟨l⟩⟩) ⟨⟨sep⟩⟩ w ?_ (hr.lt b ent he) (by rw[aaa];exact hl.2) (by rw[aaa];omega) ?_
    ·rw[aaa]at key;refine key.mono λe w' ⟨he,hw⟩=>fin e w' ⟨?_,hw⟩
     rw[he,abJ];simp[acs]
    ·intro j x hx;rw[aa7,aav]at hx;obtain⟨l,SP,rfl⟩:=hx;have hj:j<xs.length:=(Z2.1 SP).1;have YO:cs.flatten[j]? =some (.str l):=by
      rw[<-Uw];have:=tv xs;rw[this,aa7,SP];rfl
     rw[<-hf,List.getElem?_take,aai Om,ack]at YO;obtain⟨_,cv,UT,SL⟩:=TE _ _ YO;rw[VR]at SL;subst SL;simp only[World.cell?,hheap,Option.isSome_none,aaU,aal];rw[show o+ent.d+j=ent.d+(o+j) by omega];exact UT
    ·rw[abJ]
     simpa [acs]using hl.1
 |_=>cases hs
open Go.RowKit in
def tD{P:Program}{m:cj}{h:ah}{w:World}(hr:HR P m h w){a:AV}{v:Value}{e:Ending}{w':World}(hv:VR m a v)(he:e=.returned v)(hb:Below w.heap.size w w'):Rel P m h w a h e w':=
 ⟨v,m,he,hv,⟨hr.cO,λb e k h1 h2=>(hr.ep b e k h1 h2).heap (hb.block _ (hr.lt b e h1)),hr.sep,hr.gD,λb e h1=>aaY (hr.lt b e h1) hb.size⟩,
  ⟨λ_ _=>rfl,aah _,λb e h1 h2=>absurd (hr.cO b e h2) Om,λ_ _ h=>h,hb.size,hb.os,hb.output,hb.tape,λi hi _=>hb.block i hi⟩⟩
theorem qI:∀{s:By}{a:Nat},s.all fE=true->∃n,Lib.decFrom a s=some n/\(n:Int)=s.foldl (λn c=>10*n+((c.toNat:Int)-48)) (a:Int)
 |[],a,_=>⟨a,rfl,rfl⟩
 |c::s,a,h=>by
  simp only[abD,aaD]at h;have hc:=kZ.1 h.1;have hd:Lib.digitVal c=some (c.toNat-48):=by unfold Lib.digitVal;rw[aai hc]
  obtain⟨n,h1,h2⟩:=qI (s:=s) (a:=a*10+(c.toNat-48)) h.2;refine⟨n,by rw[Lib.decFrom,hd];exact h1,?_⟩;rw[h2,ab5];congr 1;omega
def DD{s:By}(h:s.all fE=true)(hn:s≠[]):Lib.atoi s=some (Dk s):=by
 obtain⟨n,h1,h2⟩:=qI (a:=0) h;cases s with
 |nil=>exact absurd rfl hn
 |cons c r=>
  have hc:=kZ.1 (by simp only[abD,aaD]at h;exact h.1);have n1:(c==45)=false:=by
   exact z193
  have n2:(c==43)=false:=by
   exact z193
  rw[Lib.atoi,n1,n2,aab De,aab De,Lib.decNat,aab Si,h1,abT,h2];rfl
open Go.RowKit in
def FX{h:ah}{s:By}(hd:s.all fE=true)(hn:s≠[])(hl:s.length<=9):my Go.Proofs.Tryz.prog 254 [.str s] h (.dW [.int .i64 (Dk s),.kS]) h:=by
 intro m w vs hr ha;obtain⟨v,vs1,rfl,hv,hr1⟩:=aV.1 ha;rw[bG]at hr1;subst hr1;rw[VR]at hv;subst hv;refine(Go.Proofs.Any.strconv_Atoi Go.Proofs.Tryz.E0 ⟨⟨s⟩⟩ (Dk s) (by show s.length<=18;omega) (DD hd hn) w).mono ?_;rintro e' w' ⟨rfl,t,rfl⟩;exact tD hr ⟨_,rfl,aV.2 ⟨_,_,rfl,rfl,aV.2 ⟨_,_,rfl,rfl,rfl⟩⟩⟩ rfl (Lib.bytesWorld_below _ _ _)
open Go.RowKit in
def Ie{h:ah}{n:Nat}(hn:n<=7):my Go.Proofs.Tryz.prog 252 [.str [48],.int .i64 (n:Nat)] h (.str (List.replicate n 48)) h:=by
 intro m w vs hr ha;obtain⟨v1,vs1,rfl,XE,hr1⟩:=aV.1 ha;obtain⟨v2,vs2,rfl,WD,T4⟩:=aV.1 hr1;rw[bG]at T4;subst T4;have XE:v1=.string ⟨⟨[48]⟩⟩:=XE;have WD:v2=.int .i64 (n:Int):=WD;subst XE;subst WD;have hs:(⟨⟨[48]⟩⟩:ByteArray).size=1:=rfl;refine(Go.Proofs.Any.strings_Repeat Go.Proofs.Tryz.E1 Go.Proofs.Tryz.pJ ⟨⟨[48]⟩⟩ n w Om (by rw[hs];omega)).mono ?_;rintro e' w' ⟨rfl,hb⟩;have er:Lib.repeatL [48] n=List.replicate n 48:=by
  have:=Lib.repeatL_replicate 48 1 n;rw[acd]at this;exact this
 refine tD (v:=.string ⟨(Lib.repeatL [48] n).toArray⟩) hr ?_ rfl hb;show Value.string ⟨(Lib.repeatL [48] n).toArray⟩=.string ⟨⟨List.replicate n 48⟩⟩;rw[er]
def Sk:qQ Go.Proofs.Tryz.prog:=by
 refine⟨λh0 h1 w=>?_,λhs hl=>⟨_,[],by rw[aaw];exact E8 hs hl,rfl⟩,λh1 h2 h3=>⟨_,[],by rw[aaw];exact FX h1 h2 h3,rfl⟩,λh1=>⟨_,[],by rw[aaw];exact Ie h1,rfl⟩⟩;obtain⟨mu,tl,hb⟩:=w;exact⟨_,[],by rw[aaw];exact E9 h0 h1 hb,rfl⟩
def RY:DO Go.Proofs.Tryz.prog:=
 ⟨run_callFunc_extern Go.Proofs.Tryz.func288 (by kernel_rfl) (by kernel_rfl) (by kernel_rfl) (by kernel_rfl),run_callFunc_extern Go.Proofs.Tryz.func262 (by kernel_rfl) (by kernel_rfl) (by kernel_rfl) (by kernel_rfl)⟩
open Go.ChangeShapes Go.WideShapes Go.Deep
inductive CT where
 |int (k:IntKind)
 |bool
 |str
 |sl (row:List CT)
def ml(P:Program)(f:TypeId->Option (List CT)):List Field->Nat->Option (List CT)
 |[],_=>some []
 |x::r,o=>
  match f x.type with
  |some a=>
   if x.offset=o/\a.length=P.cellsOf x.type then
    match ml P f r (o+a.length)with
    |some b=>some (a++b)
    |none=>none
   else none
  |none=>none
def AP(P:Program):Nat->TypeId->Option (List CT)
 | 0,_=>none
 |n+1,t=>
  match P.underlying t with
  |some (.int k)=>some [.int k]
  |some .bool=>some [.bool]
  |some .string=>some [.str]
  |some (.slice e)=>
   match AP P n e with
   |some r=>if r.length=P.cellsOf e/\0<r.length then some [.sl r]else none
   |none=>none
  |some (.struct fs)=>
   match ml P (AP P n) fs.toList 0 with
   |some r=>if r.length=P.cellsOf t then some r else none
   |none=>none
  |_=>none
mutual
def TY(h:ah):CT->AV->Prop
 |.int k,a=>∃z,a=.int k z/\(Lit.int k z).wf=true
 |.bool,a=>∃b,a=.bool b
 |.str,a=>∃s:By,a=.str s/\s.length<=maxLen
 |.sl r,a=>∃cs:List (List AV),aI h a r.length cs/\cs.length<=maxLen/\∀c∈cs,jz h r c
def jz(h:ah):List CT->List AV->Prop
 |[],l=>l=[]
 |t::ts,l=>∃a l',l=a::l'/\TY h t a/\jz h ts l'
end
mutual
theorem TY.ext{h k}(e:Ext h k):∀{t}{a},TY h t a->TY k t a
 |.int _,a,x=>x
 |.bool,a,x=>x
 |.str,a,x=>x
 |.sl r,a,x=>by
  rw[TY]at x ⊢;obtain⟨cs,h1,h2,h3⟩:=x;exact⟨cs,h1.ext e,h2,λc hc=>jz.ext e (h3 c hc)⟩
theorem jz.ext{h k}(e:Ext h k):∀{ts}{l},jz h ts l->jz k ts l
 |[],l,x=>x
 |t::ts,l,x=>by
  rw[jz]at x ⊢;obtain⟨a,l',h1,h2,h3⟩:=x;exact⟨a,l',h1,TY.ext e h2,jz.ext e h3⟩
end
theorem TY.one{h}:∀{t}{a},TY h t a->a.one=true
 |.int _,a,x=>by rw[TY]at x;obtain⟨z,rfl,_⟩:=x;rfl
 |.bool,a,x=>by rw[TY]at x;obtain⟨z,rfl⟩:=x;rfl
 |.str,a,x=>by rw[TY]at x;obtain⟨z,rfl,_⟩:=x;rfl
 |.sl r,a,x=>by rw[TY]at x;obtain⟨z,h1,_⟩:=x;exact h1.one
theorem jz.one{h}:∀{ts}{l},jz h ts l->l.all AV.one=true
 |[],l,x=>by rw[jz]at x;subst x;rfl
 |t::ts,l,x=>by
  rw[jz]at x;obtain⟨a,l',rfl,h1,h2⟩:=x;rw[abD,h1.one,jz.one h2];rfl
theorem jz.length{h}:∀{ts}{l},jz h ts l->l.length=ts.length
 |[],l,x=>by rw[jz]at x;subst x;rfl
 |t::ts,l,x=>by
  rw[jz]at x;obtain⟨a,l',rfl,h1,h2⟩:=x;rw[Z5,Z5,jz.length h2]
theorem jz.append{h}:∀{ts us}{l m},jz h ts l->jz h us m->jz h (ts++us) (l++m)
 |[],us,l,m,x,y=>by rw[jz]at x;subst x;exact y
 |t::ts,us,l,m,x,y=>by
  rw[jz]at x;obtain⟨a,l',rfl,h1,h2⟩:=x;show jz h (t:: (ts++us)) (a:: (l'++m));rw[jz];exact⟨a,_,rfl,h1,jz.append h2 y⟩
def ia(E:List tq):cj:=λb=>E[b]?
def kH(E F:List tq):(ia E).le (ia (E++F)):=λb e hb=>by
 unfold ia at hb ⊢;rw[Z7 (Z2.1 hb).1];exact hb
structure AW(P:Program)(w:World)(E:List tq)(B:ah):Prop where
 len:E.length=B.length
 own:∀(b:Nat) e,E[b]? =some e->e.own=false/\e.cb<w.heap.size
 ep:∀(b:Nat) e k,E[b]? =some e->B[b]? =some k->BR P (ia E) w e k/\(k=.dead\/∃c,k=.cells c false false)
 gD:∀g,g<P.globals.size->∃e,E[g]? =some e/\e.cb=g/\e.d=0/\e.own=false/\e.sz=Fh P g
variable {P:Program}{w:World}{E:List tq}{B:ah}
def AW.hr(a:AW P w E B):HR P (ia E) B w where
 cO:=λb e hb=>by rw[<-a.len];exact(Z2.1 hb).1
 ep:=λb e k hb hk=>(a.ep b e k hb hk).1
 sep:=λb1 b2 e1 e2 k1 k2 _ h1 h2 hk1 SK _=>by
  rcases(a.ep b1 e1 k1 h1 hk1).2 with rfl|⟨c1,rfl⟩
  ·cases k2<;>trivial
  ·rcases(a.ep b2 e2 k2 h2 SK).2 with rfl|⟨c2,rfl⟩
   ·trivial
   ·exact⟨rfl,rfl,λx=>by cases x⟩
 gD:=a.gD
 lt:=λb e hb=>(a.own b e hb).2
def AW.push(a:AW P w E B){e k}(ho:e.own=false)(hlt:e.cb<w.heap.size)(hb:BR P (ia E) w e k)(hk:k=.dead\/∃c,k=.cells c false false):AW P w (E++[e]) (B++[k]) where
 len:=by simp[a.len]
 own:=λb e' h=>by
  by_cases hlb:b<E.length
  ·rw[Z7 hlb]at h;exact a.own b e' h
  ·have:=(Z2.1 h).1;simp at this;have:b=E.length:=Om
   subst this;simp at h;subst h;exact⟨ho,hlt⟩
 ep:=λb e' k' h h'=>by
  by_cases hlb:b<E.length
  ·rw[Z7 hlb]at h;rw[Z7 (by rw[<-a.len];exact hlb)]at h';exact⟨(a.ep b e' k' h h').1.mono (kH E [e]),(a.ep b e' k' h h').2⟩
  ·have:=(Z2.1 h).1;simp at this;have Ui:b=E.length:=Om
   have hbb:b=B.length:=by rw[Ui,a.len]
   rw[Ui]at h;rw[hbb]at h';simp at h h';subst h;subst h';exact⟨hb.mono (kH E [e]),hk⟩
 gD:=λg hg=>by
  obtain⟨e',h1,h2⟩:=a.gD g hg;exact⟨e',kH E [e] g e' h1,h2⟩
def Laid(P:Program)(w:World)(E:List tq)(B:ah)(row:List CT)(cs:List Value):Prop:=
 ∃F C ax,AW P w (E++F) (B++C)/\cL (ia (E++F)) ax cs/\jz (B++C) row ax
def Laid.app{row row2 cs VO}(h1:Laid P w E B row cs)(h2:∀F C,AW P w (E++F) (B++C)->Laid P w (E++F) (B++C) row2 VO):Laid P w E B (row++row2) (cs++VO):=by
 obtain⟨F,C,ax,a1,a2,a3⟩:=h1;obtain⟨F',C',ax',b1,b2,b3⟩:=h2 F C a1;refine⟨F++F',C++C',ax++ax',by rw[<-Z4,<-Z4];exact b1,?_,?_⟩
 ·rw[<-Z4];exact(cL.mono (kH _ _) _ _ a2).append b2
 ·rw[<-Z4];exact jz.append (a3.ext ⟨C',rfl⟩) b3
def C1(a:AW P w E B):Laid P w E B [] []:=⟨[],[],[],by simpa using a,by rw[bG],rfl⟩
def oS(a:AW P w E B){t x v}(hv:VR (ia E) x v)(ht:TY B t x):Laid P w E B [t] [v]:=
 ⟨[],[],[x],by simpa using a,by simpa using aV.2 ⟨v,[],rfl,hv,by rw[bG]⟩,by
  rw[aaw,jz];exact⟨x,[],rfl,ht,rfl⟩⟩
section
variable {H:Type}{enc:TypeId×Value->H}{base:Nat}{held:Bool}
theorem tQ{es:Nat}{r:List CT}{a:Addr}{m:Nat}(row:∀i,i<m->∃cs,w.cells? base (a.add (i*es)) es=some cs/\∀E B,AW P w E B->Laid P w E B r cs):∀(k:Nat) {E:List tq}{B:ah},k<=m->AW P w E B->
  ∃(F:List tq) (C:ah) (rows:List (List AV)) (VL:List Value),AW P w (E++F) (B++C)/\rows.length=k/\cL (ia (E++F)) rows.flatten VL/\(∀c∈rows,jz (B++C) r c)/\VL.length=k*es/\∀i,i<k*es->w.cell? (a.add i)=VL[i]?
 | 0,E,B,_,aw=>⟨[],[],[],[],by rw[aaw,aaw];exact aw,rfl,rfl,λc hc=>by(cases hc),by rw[ab7];rfl,λi hi=>by rw[ab7]at hi;exact absurd hi (Nat.not_lt_zero _)⟩
 |k+1,E,B,hkm,aw=>by
  obtain⟨F,C,rows,VL,h1,h2,h3,h4,h5,h6⟩:=tQ row k Om aw;obtain⟨cs,Uw,hl⟩:=row k Om;obtain⟨F',C',ax,a1,a2,a3⟩:=hl _ _ h1;obtain⟨_,hlen,TE⟩:=World.cells?_some Uw;refine⟨F++F',C++C',rows++[ax],VL++cs,by rw[<-Z4,<-Z4];exact a1,by rw[Z1,h2];rfl,?_,?_,by rw[Z1,h5,hlen,abp],?_⟩
  ·rw[<-Z4,abM];refine(cL.mono (kH _ _) _ _ h3).append ?_;have:[ax].flatten=ax:=Si
   rw[this];exact a2
  ·intro c XM;rw[<-Z4];rcases aac.1 XM with hm|hm
   ·exact(h4 c hm).ext ⟨C',rfl⟩
   ·rw[aam]at hm;subst hm;exact a3
  ·intro i hi;rw[abp]at hi;by_cases hlt:i<k*es
   ·rw[h6 i hlt,Z7 Om]
   ·rw[aaf Om,h5,<-TE (i-k*es) Om,add_add,show k*es+(i-k*es)=i by omega]
theorem qB{f:TypeId->Option (List CT)}{cs:List Value}:∀(l:List Field) (o:Nat) {row:List CT},ml P f l o=some row->
  (∀x∈l,∀a,f x.type=some a->∀E B,AW P w E B->Laid P w E B a ((cs.drop x.offset).take (P.cellsOf x.type)))->∀E B,AW P w E B->Laid P w E B row ((cs.drop o).take row.length)
 |[],o,row,h,_,E,B,aw=>by
  unfold ml at h;cases h;rw[Z9,List.take_zero];exact C1 aw
 |x::l,o,row,h,hf,E,B,aw=>by
  unfold ml at h;split at h
  case h_2=>cases h
  rename_i a ha;split at h
  case isFalse=>cases h
  rename_i hc;split at h
  case h_2=>cases h
  rename_i b hb;cases h;have h1:=hf x (aaS ..) a ha E B aw;rw[hc.1,<-hc.2]at h1;rw[Z1,List.take_add,abB];exact h1.app λF C aw'=>qB l _ hb (λy hy=>hf y (aaH _ hy)) _ _ aw'
theorem jr(hz:∃(z:Nat) (cc:Array Value) (el:TypeId) (fz:Nat×Nat),w.heap[z]? =some (Obj.cells cc el fz)):∀(n:Nat) (t:TypeId) (row:List CT),AP P n t=some row->∀(fuel:Nat) (cs:List Value) (x:DataW H×List MemPlace),
  DataW.trod enc P w base (λ_=>true) held fuel t cs=some x->∀E B,AW P w E B->Laid P w E B row cs
 | 0,t,row,h,_,_,_,_,_,_,_=>by cases h
 |n+1,t,row,h,fuel,cs,x,ht,E,B,aw=>by
  unfold AP at h;split at h
  ·rename_i k hu;cases h;obtain⟨z,rfl,_,hwf⟩:=DataW.trod_int hu ht;exact oS aw (x:=.int k z) (by rw[VR]) (by rw[TY];exact⟨z,rfl,hwf⟩)
  ·rename_i hu;cases h;obtain⟨b,rfl,_⟩:=DataW.trod_bool hu ht;exact oS aw (x:=.bool b) (by rw[VR]) (by rw[TY];exact⟨b,rfl⟩)
  ·rename_i hu;cases h;obtain⟨s,rfl,_,hs⟩:=DataW.trod_string hu ht;refine oS aw (x:=.str s.data.toList) (by rw[VR]) (by rw[TY];exact⟨_,rfl,by simpa using hs⟩)
  ·rename_i e hu;split at h
   case h_2=>cases h
   rename_i r hr;split at h
   case isFalse=>cases h
   rename_i hc;cases h;obtain⟨Un,hpos⟩:=hc;rcases open_slice hu ht with⟨rfl,_⟩|⟨a,len,cap,m,n',D,Pl,rfl,hb,hl,hm,X5,_,hx⟩
   ·exact oS aw (x:=.af) (by rw[VR]) (by rw[TY];exact⟨[],.nil,aaC _,λc hc=>by cases hc⟩)
   simp only[aan]at X5;subst X5;rw[<-Un]at hx;by_cases hcap:m=0
   ·have S2:len=0:=Om
    subst S2;subst hcap;obtain⟨z,cc,el,fz,Zp⟩:=hz;have h0lt:z<w.heap.size:=(aap.1 Zp).1;have hbr:BR P (ia E) w ⟨z,0,cc.size,false⟩ (.cells [] false false):=
     ⟨cc,el,fz,Zp,⟨aaC _,aaC _,rfl⟩,λi x hx=>by(rw[List.getElem?_nil]at hx;cases hx),⟨λx=>absurd x abZ,λx=>by rcases x with x|x<;>exact absurd x abZ⟩⟩
    have aw2:=aw.push (e:=⟨z,0,cc.size,false⟩) (k:=.cells [] false false) rfl h0lt hbr (.inr ⟨[],rfl⟩);refine⟨[⟨z,0,cc.size,false⟩],[.cells [] false false],[.slice B.length 0 0 r.length],aw2,?_,?_⟩
    ·refine aV.2 ⟨_,[],rfl,?_,by rw[bG]⟩;rw[VR];exact⟨⟨z,0,cc.size,false⟩,a,0,by unfold ia;rw[<-aw.len];simp,rfl,aah _,λx=>absurd x Om,by rw[ab7];exact aaC _⟩
    ·rw[jz];refine⟨_,[],rfl,?_,by rw[jz]⟩;rw[TY];refine⟨[],?_,aaC _,λc hc=>by cases hc⟩;exact aI.mk (cs:=[]) (b:=B.length) (o:=0) (c:=[]) (mu:=false) (tl:=false) Si Si Si (λx hx=>by cases hx)
   ·obtain⟨cs0,h00,_⟩:=hx 0 Om;obtain⟨csl,U5,_⟩:=hx (m-1) Om;obtain⟨_,S2,hc0⟩:=World.cells?_some h00;obtain⟨_,hlenl,hcl⟩:=World.cells?_some U5;have TJ:=hc0 0 hpos;have hlast:=hcl (r.length-1) Om;rw[add_add]at hlast;rw[add_add,ab7,ab8]at TJ;have ha0:a.add 0=a:=by unfold Addr.add;simp
    rw[ha0,Z6 Om]at TJ;unfold World.cell? at TJ;split at TJ
    case h_2=>cases TJ
    rename_i cc el fz Vf;split at TJ
    ·cases TJ
    rename_i hspot;have Xn:a=⟨a.block,a.off,none⟩:=by
     cases a with
     |mk b o s=>cases s with
      |none=>rfl
      |some s=>exact absurd rfl hspot
    have T0:∀i,a.add i=⟨a.block,a.off+i,none⟩:=λi=>by
     unfold Addr.add;by_cases hi:i=0
     ·subst hi;rw[aai rfl];exact Xn
     ·rw[aab hi]
    have VM:∀i,w.cell? (a.add i)=cc[a.off+i]? :=λi=>by
     rw[T0];unfold World.cell?;simp only[Vf,Option.isSome_none,aaU,aal]
    have hmr:(m-1)*r.length+(r.length-1)+1=m*r.length:=by
     obtain⟨m',rfl⟩:∃m',m=m'+1:=⟨m-1,Om⟩;rw[abp];simp only[Nat.add_sub_cancel];omega
    have eQ:a.off+m*r.length<=cc.size:=by
     rw[VM,Z6 Om]at hlast;have:=(aap.1 hlast).1;omega
    obtain⟨F,C,rows,VL,h1,h2,h3,h4,h5,h6⟩:=tQ (P:=P) (w:=w) (base:=base) (es:=r.length) (r:=r) (a:=a) (m:=m)
     (λi hi=>by
      obtain⟨cs',q1,q2⟩:=hx i hi;exact⟨cs',q1,λE B aw=>jr hz n e r hr _ _ _ q2 E B aw⟩) len hl aw
    have Tg:rows.flatten.length=len*r.length:=by rw[<-h5,h3.length]
    have hmul:len*r.length<=m*r.length:=abc _ hl;have UJ:∀c∈rows,c.length=r.length:=λc hc=>(h4 c hc).length
    have hone:∀x∈rows.flatten,x.one=true:=λx hx=>by
     obtain⟨c,hc,XD⟩:=List.mem_flatten.1 hx;exact aaE.1 (h4 c hc).one x XD
    have hlt:a.block<w.heap.size:=(aap.1 Vf).1;have hbr:BR P (ia (E++F)) w ⟨a.block,a.off,cc.size,false⟩ (.cells rows.flatten false false):=
     ⟨cc,el,fz,Vf,⟨by rw[Tg];show a.off+_<=_;omega,by rw[Tg];show a.off+_<=cc.size;omega,rfl⟩,λi x hx=>by
       refine⟨hone x (aaW hx),?_⟩;obtain⟨v,hv,SL⟩:=h3.get hx;have hi:i<len*r.length:=by rw[<-Tg];exact(Z2.1 hx).1
       refine⟨v,?_,SL⟩;show cc[a.off+i]? =some v;rw[<-VM,h6 i hi,hv],⟨λx=>absurd x abZ,λx=>by rcases x with x|x<;>exact absurd x abZ⟩⟩
    have aw2:=h1.push (e:=⟨a.block,a.off,cc.size,false⟩) (k:=.cells rows.flatten false false) rfl hlt hbr (.inr ⟨_,rfl⟩);rw[Z4,Z4]at aw2;refine⟨F++[⟨a.block,a.off,cc.size,false⟩],C++[.cells rows.flatten false false],[.slice (B++C).length 0 len r.length],aw2,?_,?_⟩
    ·refine aV.2 ⟨_,[],rfl,?_,by rw[bG]⟩;rw[VR];refine⟨⟨a.block,a.off,cc.size,false⟩,a,m,?_,rfl,hl,λ_=>?_,?_⟩
     ·unfold ia;rw[<-h1.len,<-Z4,aaf (aah _),abb];rfl
     ·show a=⟨a.block,0+a.off,none⟩;rw[aaP];exact Xn
     ·show 0+a.off+m*r.length<=cc.size;omega
    ·rw[jz];refine⟨_,[],rfl,?_,by rw[jz]⟩;rw[TY];refine⟨rows,?_,Om,λc hc=>?_⟩
     ·rw[<-h2];refine aI.mk (c:=rows.flatten) (mu:=false) (tl:=false) ?_ ?_ ?_ UJ
      ·rw[<-Z4,aaf (aah _),abb];rfl
      ·rw[abt,h2,<-Tg,aaI]
      ·rw[h2,Tg];omega
     ·rw[<-Z4];exact(h4 c hc).ext ⟨_,rfl⟩
  ·rename_i fs hu;split at h
   case h_2=>cases h
   rename_i r hr;split at h
   case isFalse=>cases h
   rename_i hc;cases h;obtain⟨xs,n',rfl,rfl,hlen,hxl,hf⟩:=DataW.trod_struct hu ht;have:=qB (P:=P) (w:=w) (cs:=cs) fs.toList 0 hr (λx hx a ha E B aw=>by
    obtain⟨i,hi⟩:=List.getElem?_of_mem hx;have hi':fs[i]? =some x:=by rw[<-abv];exact hi
    have hlt:i<xs.length:=by rw[hxl];exact(aap.1 hi').1
    have h1:=hf i x hi';rw[Z6 hlt]at h1;exact jr hz n x.type a ha _ _ _ h1 E B aw) E B aw
   rw[abt,hc,<-hlen,aaI]at this;exact this
  ·cases h
inductive AT where
 |one (t:CT)
 |agg (r:List CT)
def Ho(P:Program)(e:TypeId):Option CT:=
 match P.underlying e with
 |some (.int k)=>some (.int k)
 |some .string=>some .str
 |_=>none
def Jt(P:Program)(n:Nat)(t:TypeId):Option AT:=
 match P.underlying t with
 |some (.struct _)=>
  match AP P n t with
  |some r=>some (.agg r)
  |none=>none
 |some (.int k)=>some (.one (.int k))
 |some .bool=>some (.one .bool)
 |some .string=>some (.one .str)
 |some (.slice _)=>
  match AP P n t with
  |some [c]=>some (.one c)
  |_=>none
 |some (.array m e)=>
  match Ho P e with
  |some c=>if P.cellsOf e=1/\P.cellsOf t=m then some (.agg (List.replicate m c))else none
  |none=>none
 |_=>none
def uC{w r b0}{t e:TypeId}{m v}(ht:P.underlying t=some (.array m e))(h:Value.okWide P w r b0 t v):∃cs,v=.agg cs/\cs.size=P.cellsOf t:=by
 simp only[Value.okWide,ht]at h;obtain⟨cs,h1,h2,_⟩:=h;exact⟨cs,h1,h2⟩
theorem tI{M B c}:∀(L:List Value),(∀i (hi:i<L.length),∃a,VR M a L[i]/\TY B c a)->∃l:List AV,cL M l L/\jz B (List.replicate L.length c) l
 |[],_=>⟨[],by rw[bG],by rw[Z9,acy,jz]⟩
 |v::L,h=>by
  obtain⟨a,e,hz⟩:=h 0 Si;obtain⟨l,h1,h2⟩:=tI L λi hi=>h (i+1) (by simpa using hi)
  simp only[List.getElem_cons_zero]at e;refine⟨a::l,aV.2 ⟨_,_,rfl,e,h1⟩,?_⟩;rw[Z5,abE,jz];exact⟨_,_,rfl,hz,h2⟩
def uf(P:Program)(n:Nat):List TypeId->Option (List AT)
 |[]=>some []
 |t::ts=>
  match Jt P n t,uf P n ts with
  |some a,some l=>some (a::l)
  |_,_=>none
def Hu(h:ah):AT->AV->Prop
 |.one t,a=>TY h t a
 |.agg r,a=>∃l,a=.agg l/\jz h r l
theorem Hu.ext{h k}(e:Ext h k):∀{t}{a},Hu h t a->Hu k t a
 |.one _,_,x=>TY.ext e x
 |.agg _,_,⟨l,e1,x⟩=>⟨l,e1,jz.ext e x⟩
def tj(h:ah):List AT->List AV->Prop
 |[],l=>l=[]
 |t::ts,l=>∃a l',l=a::l'/\Hu h t a/\tj h ts l'
def C2(hz:∃(z:Nat) (cc:Array Value) (el:TypeId) (fz:Nat×Nat),w.heap[z]? =some (Obj.cells cc el fz)){n}{t:TypeId}{at'}(h:Jt P n t=some at'){v d ps}(ht:DataW.Trod enc P w base (λ_=>true) held t v d ps)
  {r}{b0}(ho:Value.okWide P w r b0 t v) (aw:AW P w E B):∃(F:List tq) (C:ah) (a:AV),AW P w (E++F) (B++C)/\VR (ia (E++F)) a v/\Hu (B++C) at' a:=by
 obtain⟨fuel,ht⟩:=ht;unfold Jt at h;split at h
 ·rename_i fs hu;split at h
  case h_2=>cases h
  rename_i r hr;cases h;obtain⟨cs,rfl,_⟩:=okWide_struct hu ho;obtain⟨F,C,ax,h1,h2,h3⟩:=jr hz n t r hr fuel _ _ ht E B aw;refine⟨F,C,.agg ax,h1,?_,ax,rfl,h3⟩;rw[VR];exact⟨_,rfl,h2⟩
 ·rename_i k hu;cases h;obtain⟨z,rfl⟩:=okWide_int hu ho;obtain⟨z',e,_,hwf⟩:=DataW.trod_int hu ht;cases e;exact⟨[],[],.int k z,by rw[aaw,aaw];exact aw,by rw[VR],by show TY _ _ _;rw[TY];exact⟨z,rfl,hwf⟩⟩
 ·rename_i hu;cases h;obtain⟨z,rfl⟩:=okWide_bool hu ho;exact⟨[],[],.bool z,by rw[aaw,aaw];exact aw,by rw[VR],by show TY _ _ _;rw[TY];exact⟨z,rfl⟩⟩
 ·rename_i hu;cases h;obtain⟨s,rfl⟩:=okWide_string hu ho;obtain⟨s',e,_,hs⟩:=DataW.trod_string hu ht;cases e;exact⟨[],[],.str s.data.toList,by rw[aaw,aaw];exact aw,by rw[VR],by show TY _ _ _;rw[TY];exact⟨_,rfl,by simpa using hs⟩⟩
 ·rename_i e hu;split at h
  case h_2=>cases h
  rename_i c hc;cases h;obtain⟨a,len,cap,rfl⟩:=okWide_slice hu ho;obtain⟨F,C,ax,h1,h2,h3⟩:=jr hz n t _ hc fuel _ _ ht E B aw;rw[jz]at h3;obtain⟨x,l',rfl,h4,h5⟩:=h3;rw[jz]at h5;subst h5;obtain⟨y,ys,e,h6,_⟩:=aV.1 h2;cases e;exact⟨F,C,x,h1,h6,h4⟩
 ·rename_i m e hu;split at h
  case h_2=>cases h
  rename_i c hk;split at h
  case isFalse=>cases h
  rename_i hc;cases h;obtain⟨cs,rfl,Uw⟩:=uC hu ho;obtain⟨xs,n',rfl,_,hlen,hxl,hf⟩:=DataW.trod_array hu ht;have hcl:(Value.agg cs).cells.toList=cs.toList:=rfl;rw[hcl]at hlen hf;rw[hc.2]at hlen;obtain⟨l,h1,h2⟩:=tI (M:=ia E) (B:=B) (c:=c) cs.toList λi hi=>by
   have hi':i<xs.length:=Om
   have h3:=hf i Om;rw[hc.1,acd,Z6 hi',ab1 hi,abS,List.take_zero]at h3;unfold Ho at hk;split at hk
   ·rename_i k hk';cases hk;obtain⟨z,e1,_,hwf⟩:=DataW.trod_int hk' h3;exact⟨.int k z,by rw[(List.cons.inj e1).1,VR],by rw[TY];exact⟨z,rfl,hwf⟩⟩
   ·rename_i hk';cases hk;obtain⟨s',e1,_,hs⟩:=DataW.trod_string hk' h3;exact⟨.str s'.data.toList,by rw[(List.cons.inj e1).1,VR],by rw[TY];exact⟨_,rfl,by simpa using hs⟩⟩
   ·cases hk
  rw[hlen]at h2;exact⟨[],[],.agg l,by rw[aaw,aaw];exact aw,by rw[VR,aaw];exact⟨_,rfl,h1⟩,l,rfl,by rw[aaw];exact h2⟩
 ·cases h
theorem tR(hz:∃(z:Nat) (cc:Array Value) (el:TypeId) (fz:Nat×Nat),w.heap[z]? =some (Obj.cells cc el fz)){n r b0}:∀(tys:List TypeId) {ats},uf P n tys=some ats->∀(vs:List Value) (ds:List (DataW H)) (ps:List MemPlace),
  DataW.TrodAll enc P w base (λ_=>true) held tys vs ds ps->(∀(j:Nat) t v,tys[j]? =some t->vs[j]? =some v->Value.okWide P w r b0 t v)->∀{E}{B},AW P w E B->
  ∃(F:List tq) (C:ah) (ax:List AV),AW P w (E++F) (B++C)/\cL (ia (E++F)) ax vs/\tj (B++C) ats ax
 |[],ats,h,vs,ds,ps,ht,_,E,B,aw=>by
  unfold uf at h;cases h;cases vs with
  |cons v vs=>cases ds<;>exact ht.elim
  |nil=>exact⟨[],[],[],by rw[aaw,aaw];exact aw,by rw[bG],by rw[tj]⟩
 |t::tys,ats,h,vs,ds,ps,ht,ho,E,B,aw=>by
  unfold uf at h;split at h
  case h_2=>cases h
  rename_i a l ha hl;cases h;cases vs with
  |nil=>cases ds<;>exact ht.elim
  |cons v vs=>
   cases ds with
   |nil=>exact ht.elim
   |cons d ds=>
    obtain⟨p,q,h1,h2,_⟩:=ht;obtain⟨F,C,x,a1,a2,a3⟩:=C2 hz ha h1 (ho 0 t v rfl rfl) aw;obtain⟨F',C',xs,b1,b2,b3⟩:=tR hz tys hl vs ds q h2 (λj t v h h'=>ho (j+1) t v h h') a1;refine⟨F++F',C++C',x::xs,by rw[<-Z4,<-Z4];exact b1,?_,?_⟩
    ·rw[<-Z4];exact aV.2 ⟨v,vs,rfl,VR.mono (kH _ _) _ _ a2,b2⟩
    ·rw[<-Z4,tj];exact⟨x,xs,rfl,a3.ext ⟨C',rfl⟩,b3⟩
end
open Go.ChangeShapes Go.WideShapes Go.RowKit
def DC(f:DataW Unit->Option (List AV)):List (DataW Unit)->Option (List AV)
 |[]=>some []
 |d::r=>
  match f d,DC f r with
  |some a,some b=>some (a++b)
  |_,_=>none
def zN(P:Program):Nat->TypeId->DataW Unit->Option (List AV)
 | 0,_,_=>none
 |n+1,t,d=>
  match P.underlying t with
  |some (.int k)=>
   match d with
   |.lit (.int _ z)=>some [.int k z]
   |_=>none
  |some .string=>
   match d with
   |.lit (.string s)=>some [.str s]
   |_=>none
  |some (.array m e)=>
   match d with
   |.agg l=>
    match DC (zN P n e) l with
    |some r=>if P.cellsOf t=m*P.cellsOf e then some r else none
    |none=>none
   |_=>none
  |_=>none
section
variable {P:Program}{w:World}{base:Nat}{sp:Nat->Bool}{held:Bool}
theorem zO{f:DataW Unit->Option (List AV)}{m:cj}{ce:Nat}{cs:List Value}{g:List Value->Option (DataW Unit×List MemPlace)}(hf:∀c d p ax,g c=some (d,p)->f d=some ax->cL m ax c/\ax.all AV.one=true):
  ∀(l:List (DataW Unit×List MemPlace)) (o:Nat) {ax:List AV},DC f (l.map (·.1))=some ax->(∀i (hi:i<l.length),g ((cs.drop ((o+i)*ce)).take ce)=some l[i])->cL m ax ((cs.drop (o*ce)).take (l.length*ce))/\ax.all AV.one=true
 |[],o,ax,h,_=>by
  unfold DC at h;cases h;rw[Z9,ab7,List.take_zero];exact⟨by rw[bG],rfl⟩
 |x::l,o,ax,h,hx=>by
  rw[aaX]at h;unfold DC at h;split at h
  case h_2=>cases h
  rename_i a b ha hb;cases h;have h0:=hx 0 (by rw[Z5];omega);rw[ab8,List.getElem_cons_zero]at h0;obtain⟨p1,p2⟩:=hf _ x.1 x.2 a h0 ha;obtain⟨q1,q2⟩:=zO hf l (o+1) hb (λi hi=>by
   have:=hx (i+1) (by rw[Z5];omega);rw[List.getElem_cons_succ]at this;rw[show o+1+i=o+(i+1) by omega];exact this)
  refine⟨?_,by rw[List.all_append,p2,q2];rfl⟩;rw[Z5,abp,acn (l.length*ce) ce,List.take_add,abB];refine p1.append ?_;rw[<-abp];exact q1
theorem xJ{m:cj}:∀(n:Nat) (t:TypeId) (fuel:Nat) (cs:List Value) (d:DataW Unit) (p:List MemPlace) (ax:List AV),
  DataW.trod (λ_=>()) P w base sp held fuel t cs=some (d,p)->zN P n t d=some ax->cL m ax cs/\ax.all AV.one=true
 | 0,_,_,_,_,_,_,_,h=>by cases h
 |n+1,t,fuel,cs,d,p,ax,ht,h=>by
  unfold zN at h;split at h
  ·rename_i k hu;obtain⟨z,rfl,e,_⟩:=DataW.trod_int hu ht;cases e;cases h;exact⟨aV.2 ⟨_,[],rfl,by rw[VR],by rw[bG]⟩,rfl⟩
  ·rename_i hu;obtain⟨s,rfl,e,_⟩:=DataW.trod_string hu ht;cases e;cases h;exact⟨aV.2 ⟨_,[],rfl,rfl,by rw[bG]⟩,rfl⟩
  ·rename_i mm e hu;obtain⟨xs,m',_,ex,hlen,hxl,hf⟩:=DataW.trod_array hu ht;cases ex;simp only at h;split at h
   case h_2=>cases h
   rename_i r hr;split at h
   case isFalse=>cases h
   rename_i hc;cases h;have:=zO (m:=m) (ce:=P.cellsOf e) (cs:=cs) (g:=DataW.trod (λ_=>()) P w base sp held m' e) (λc d p ax h1 h2=>xJ n e m' c d p ax h1 h2) xs 0 hr (λi hi=>by
    have:=hf i Om;rw[Z6 hi]at this;rw[aaP];exact this)
   rw[ab7,abt,hxl,<-hc,<-hlen,aaI]at this;exact this
  ·cases h
def G7(P:Program)(laid:List (String×DataW Unit))(n:Nat)(g:Nat):ak:=
 match laid.find? (λx=>P.globalNamed x.1==some g)with
 |some x=>
  match (P.globals[g]?).map (·.type)with
  |some t=>
   match zN P n t x.2 with
   |some ax=>if ax.length=Fh P g then .cells ax false false else .dead
   |none=>.dead
  |none=>.dead
 |none=>.dead
def tU(P:Program):List tq:=(List.range P.globals.size).map λg=>⟨g,0,Fh P g,false⟩
def wS(P:Program)(laid:List (String×DataW Unit))(n:Nat):ah:=(List.range P.globals.size).map (G7 P laid n)
theorem kW:∀{laid}{ps},DataW.LaidVars P w laid ps->∀x∈laid,∃g t cs fuel p,P.globalNamed x.1=some g/\(P.globals[g]?).map (·.type)=some t/\w.var? P x.1=some cs/\
  DataW.trod (λ_=>()) P w 0 (λ_=>true) false fuel t cs.toList=some (x.2,p)
 |[],_,_,x,hx=>by cases hx
 |(n,d)::r,ps,h,x,hx=>by
  obtain⟨g,t,cs,fuel,p,q,h1,h2,h3,h4,h5,_⟩:=h;rcases aaJ.1 hx with rfl|hx
  ·exact⟨g,t,cs,fuel,p,h1,h2,h3,h4⟩
  ·exact kW h5 x hx
def yZ{n g cs}(hg:P.globalNamed n=some g)(h:w.var? P n=some cs):∃el fz,w.heap[g]? =some (.cells cs el fz):=by
 unfold World.var? at h;rw[hg]at h;simp only[Option.bind_some]at h;split at h
 ·rename_i c el fz hb;cases h;exact⟨el,fz,hb⟩
 ·cases h
theorem AW.globals{Yu laid}(hl:laidMet P Yu w)(hsub:∀x∈laid,x∈Yu)(n:Nat){nm d}(hlast:(nm,d)∈laid)(hg:P.globalNamed nm=some (P.globals.size-1)):
  AW P w (tU P) (wS P laid n)/\∃(z:Nat) (cc:Array Value) (el:TypeId) (fz:Nat×Nat),w.heap[z]? =some (Obj.cells cc el fz):=by
 obtain⟨ps,hv,_,_⟩:=hl;obtain⟨g0,t0,cs0,_,_,a1,_,a3,_⟩:=kW hv _ (hsub _ hlast);obtain⟨el0,fz0,T6⟩:=yZ a1 a3;have eQ:P.globals.size-1<w.heap.size:=by
  have e:g0=P.globals.size-1:=aa0 (a1.symm.trans hg);rw[<-e];exact(aap.1 T6).1
 have hE:∀(b:Nat) e,(tU P)[b]? =some e->b<P.globals.size/\e=⟨b,0,Fh P b,false⟩:=λb e h=>by
  unfold tU at h;rw[aa7]at h;have hb:b<P.globals.size:=by
   cases hr:(List.range P.globals.size)[b]? with
   |none=>rw[hr]at h;cases h
   |some y=>have:=(Z2.1 hr).1;simpa using this
  rw[List.getElem?_range hb]at h;exact⟨hb,(aa0 h).symm⟩
 refine⟨⟨by simp[tU,wS],λb e h=>?_,λb e k h h'=>?_,λg hg=>⟨⟨g,0,Fh P g,false⟩,?_,rfl,rfl,rfl,rfl⟩⟩,⟨g0,cs0,el0,fz0,T6⟩⟩
 ·obtain⟨hb,rfl⟩:=hE b e h;exact⟨rfl,by show b<_;omega⟩
 ·obtain⟨hb,rfl⟩:=hE b e h;unfold wS at h';rw[aa7,List.getElem?_range hb]at h';have h':=(aa0 h').symm;subst h';unfold G7;split
  case h_2=>exact⟨trivial,.inl rfl⟩
  rename_i x hx;split
  case h_2=>exact⟨trivial,.inl rfl⟩
  rename_i t ht;split
  case h_2=>exact⟨trivial,.inl rfl⟩
  rename_i ax has;split
  case isFalse=>exact⟨trivial,.inl rfl⟩
  rename_i hlen;refine⟨?_,.inr ⟨ax,rfl⟩⟩;obtain⟨g,t',cs,fuel,p,b1,b2,b3,b4⟩:=kW hv x (hsub _ (List.mem_of_find?_eq_some hx));have hgb:P.globalNamed x.1=some b:=by have:=acA hx;simpa using this
  have e1:g=b:=aa0 (b1.symm.trans hgb);subst e1;have e2:t' =t:=aa0 (b2.symm.trans ht);subst e2;obtain⟨el,fz,Vf⟩:=yZ b1 b3;obtain⟨c1,c2⟩:=xJ (m:=ia (tU P)) n t' fuel _ _ _ _ b4 has;have hcl:cs.size=ax.length:=by have:=c1.length;simpa using this
  refine⟨cs,el,fz,Vf,⟨by show 0+_<=_;omega,by show 0+_<=Fh P g;omega,by show cs.size=Fh P g;omega⟩,λi x hx=>?_,⟨λx=>absurd x abZ,λx=>by rcases x with x|x<;>exact absurd x abZ⟩⟩;refine⟨aaE.1 c2 x (aaW hx),?_⟩;obtain⟨v,XE,WD⟩:=c1.get hx;refine⟨v,?_,WD⟩;show cs[0+i]? =some v;rw[aaP,<-abv];exact XE
 ·unfold tU;rw[aa7,List.getElem?_range hg];rfl
end
section
variable {P:Program}{W W':World}{E:List tq}{B h':ah}{m':cj}
def AW.below(aw:AW P W E B)(g:Grow (ia E) B W m' h' W'):Below W.heap.size W W':=
 ⟨g.os,g.tape,g.out,g.size,λk hk=>g.frame k hk λb e hb ho=>by rw[(aw.own b e hb).1]at ho;cases ho⟩
def yN(b:Below W.heap.size W W')(may:MemPlace->Prop):W.keptBut W' may:=by
 refine⟨b.os,b.output,λi hi=>?_⟩;rw[b.block i hi];split
 ·rename_i h1 h2;rw[h1]at h2;simp only[aaB,Obj.cells.injEq]at h2;obtain⟨rfl,rfl,rfl⟩:=h2;exact⟨rfl,rfl,rfl,λ_ _=>rfl⟩
 ·rename_i h1 h2;rw[h1]at h2;simp only[aaB,Obj.map.injEq]at h2;obtain⟨rfl,rfl⟩:=h2;exact .inr ⟨rfl,rfl⟩
 ·rfl
variable {H:Type}{enc:TypeId×Value->H}
theorem mX(hlo:laidOutB P=true)(hb:Below W.heap.size W W'){sp}:∀{tys}{vs}{ds}{ps},(∀t∈tys,P.readableRec t=true/\t<P.types.size)->
  DataW.TrodAll enc P W 0 (λ_=>true) true tys vs ds ps->(∀p∈ps,p.block<W.heap.size)->(∀p∈ps,sp p.block=true)->DataW.TrodAll enc P W' 0 sp true tys vs ds ps
 |[],[],[],ps,_,h,_,_=>h
 |[],[],_::_,_,_,h,_,_=>h.elim
 |[],_::_,_,_,_,h,_,_=>h.elim
 |_::_,[],_,_,_,h,_,_=>h.elim
 |_::_,_::_,[],_,_,h,_,_=>h.elim
 |t::tys,v::vs,d::ds,ps,hr,h,hl,hs=>by
  obtain⟨p,q,h1,h2,rfl⟩:=h;exact⟨p,q,WideElems.Trod_stays hlo (hr t (aaS ..)).1 (hr t (aaS ..)).2 h1 (λx hx=>hb.same (hl x (List.mem_append_left _ hx))) (λx hx=>hs x (List.mem_append_left _ hx)),
   mX hlo hb (λt ht=>hr t (aaH _ ht)) h2 (λx hx=>hl x (List.mem_append_right _ hx)) (λx hx=>hs x (List.mem_append_right _ hx)),rfl⟩
def Ax{f:Func}{s:ChangeSpec}{apart fresh handsOn again:Bool}{args:Array Value}{ds gs:List (DataW H)}{before:List MemPlace}{tb:TypeId}
  (hlo:laidOutB P=true) (hpar:∀t∈f.params.toList,P.readableRec t=true/\t<P.types.size) (hrt:f.resultTypes=#[tb]) (htb:P.underlying tb=some .bool) (hvars:s.vars=[])
  (hfn:(s.fn H (ds++gs))={results:=[.lit (.bool true)],args:=ds}) (hW:DataW.Whole enc P f.params.toList s.vars apart W args.toList ds gs before) (hb:Below W.heap.size W W'):
  s.post enc P f apart fresh handsOn again W args (.bool true) W':=by
 have hlt:=hW.lt;have hW':=hW;obtain⟨p,q,hA,hV,rfl,hz,hn⟩:=hW';rw[hvars]at hV;obtain⟨rfl,rfl⟩:=trodVars_none hV;rw[aaw]at hlt;have hres:∀(b:Nat) (sp:Nat->Bool) (hd:Bool),DataW.TrodAll enc P W' b sp hd f.resultTypes.toList ((Value.bool true).resultList f.resultTypes.size) (s.fn H (ds++[])).results []:=λb sp hd=>by
  rw[hfn,hrt];exact trodAll_mk1 (shut_bool htb _)
 have hargs:∀sp:Nat->Bool,(∀x∈p,sp x.block=true)->DataW.TrodAll enc P W' 0 sp true f.params.toList args.toList (s.fn H (ds++[])).args p:=λsp hs=>by
  rw[hfn];exact mX hlo hb hpar hA hlt hs
 have TI:∀sp:Nat->Bool,DataW.TrodVars enc P W' sp s.vars (s.fn H (ds++[])).vars []:=λsp=>by
  rw[hfn,hvars];rfl
 refine⟨ds,[],p++[],[],p,[],hW,hres _ _ _,hargs _ (λx hx=>by simpa using hlt x hx),TI _,yN hb _,λ_=>?_⟩;refine⟨?_,_,_,([]++p)++[],⟨[]++p,[],trodAll_append (hargs _ (λ_ _=>rfl)) (hres _ _ _),TI _,rfl,?_,?_⟩,?_⟩
 ·exact ok_one hrt rfl (okWide_bool_mk htb _)
 ·intro b off hp;have hp:MemPlace.cell b off∈p:=by simpa using hp
  have:=hz b off (by simpa using hp);unfold World.frozen? at this ⊢;rw[hb.block b (hlt _ hp)];exact this
 ·intro ha;have:=hn ha
  simpa using this
 ·intro x hx _
  simpa using hx
def Ct{f:Func}{fid:FuncId}{s:ChangeSpec}{apart fresh handsOn again:Bool}{args:Array Value}{ds gs:List (DataW H)}{before:List MemPlace}{tb:TypeId}{n:Nat}{ats:List AT}{r:Reach}{b0:Nat}
  (hlo:laidOutB P=true) (hpar:∀t∈f.params.toList,P.readableRec t=true/\t<P.types.size) (hrt:f.resultTypes=#[tb]) (htb:P.underlying tb=some .bool) (hvars:s.vars=[])
  (hfn:(s.fn H (ds++gs))={results:=[.lit (.bool true)],args:=ds}) (hats:uf P n f.params.toList=some ats)
  (hval:∀(j:Nat) t v,f.params[j]? =some t->args[j]? =some v->Value.okWide P W r b0 t v)
  (hW:DataW.Whole enc P f.params.toList s.vars apart W args.toList ds gs before) (aw:AW P W E B) (hz:∃(z:Nat) (cc:Array Value) (el:TypeId) (fz:Nat×Nat),W.heap[z]? =some (Obj.cells cc el fz))
  (call:∀k ax,Ext B k->tj k ats ax->ay P fid ax k λv _=>v=.bool true):
  Calls P fid args W λe W'=>∃v,e=.returned v/\s.post enc P f apart fresh handsOn again W args v W':=by
 obtain⟨p,q,hA,_⟩:=id hW;obtain⟨F,C,ax,h1,h2,h3⟩:=tR hz f.params.toList hats args.toList ds p hA (λj t v h h'=>hval j t v (by rw[<-abv];exact h) (by rw[<-abv];exact h')) aw;obtain⟨v,g,hs,rfl⟩:=call (B++C) ax ⟨C,rfl⟩ h3;refine(hs (ia (E++F)) W args.toList h1.hr h2).mono λe W' ⟨cv,m',he,hv,_,hg⟩=>?_
 rw[VR]at hv;subst hv;exact⟨_,he,Ax hlo hpar hrt htb hvars hfn hW (h1.below hg)⟩
end
end Go.Abs
namespace Go.Proofs.YtgplmdgpmbegiaaGreatDoor
open Go.Abs
noncomputable def wT:ah:=wS Tryz.prog Rows.houseSafeRow.laid 6
def Fj:wT[0]? =some (.cells RQ false false):=by kernel_rfl
def Fi:wT[2]? =some (.cells (Lib.pow10Tab.map (AV.int .u64)) false false):=by kernel_rfl
def RT{k:ah}(e:Ext wT k):Gl k:=⟨_,_,e.some Fj⟩
def Sj{k:ah}(e:Ext wT k):Pw k:=⟨_,_,e.some Fi⟩
end Go.Proofs.YtgplmdgpmbegiaaGreatDoor
namespace Go.Proofs.YtgplmdgpmbegiaaGreatDoor
open Go.ChangeShapes Go.WideShapes Go.RowKit Go.Abs
def gF{a b:Bool}(h:a=true)(h':b=true):(a&&b)=true:=by rw[h,h'];rfl
def own:ownKnob Tryz.prog.godebug=none:=by kernel_rfl
def laidOut:laidOutB Tryz.prog=true:=by kernel_rfl
def Ek:mapsRowed Tryz.prog=true:=by kernel_rfl
def Cg:(Tryz.prog.stops==[])=true:=by kernel_rfl
def Cj:(Tryz.prog.stopKnobs==[])=true:=by kernel_rfl
def Ck:Tryz.prog.stopsHeard=true:=by kernel_rfl
def Cl:Tryz.prog.mayEnter=true:=by kernel_rfl
def Ci:(Rows.houseSafeRow.lifted==Tryz.prog.liftsFinal)=true:=by kernel_rfl
def El:(Tryz.prog.make==some Rows.houseSafeRow.make)=true:=by kernel_rfl
def Eo:(Rows.houseSafeRow.plainKeys==Tryz.prog.plainKeys)=true:=by kernel_rfl
def Em:Tryz.prog.mainIs=some (true, "99e684478f8cae51b056da3a355f6848a653f6e5f09f29bc4422acb306b2dd43".toList):=by kernel_rfl
def Ch:true=Tryz.prog.looks []:=by kernel_rfl
def An(os:Os)(args:Array Value):((World.laidAll Tryz.prog os Rows.houseSafeRow.laid).forCall (λ_ _=>0) ⟨#[],args,[]⟩).Shaped Tryz.prog:=World.shaped_of_ZipB (by kernel_rfl) (by kernel_rfl)
def En(os:Os)(args:Array Value):laidMetH Tryz.prog Rows.houseSafeRow.laid ((World.laidAll Tryz.prog os Rows.houseSafeRow.laid).forCall (λ_ _=>0) ⟨#[],args,[]⟩).memory:=by
 rw[MakeChecks.laidMetH_plain _ _ _ (by kernel_rfl)];exact laidMet_laidAll _ (by kernel_rfl) (by kernel_rfl)
end Go.Proofs.YtgplmdgpmbegiaaGreatDoor
namespace Go.Abs
def WR.CI{P:Program}{ro:Option Nat->Prop}{ks:List Kt}{ts:TS}{Q:Ex->TS->ah->Prop}{α:Type}{row:α->List AV}{L:List α}{B Y:ah}{s v:AV}{es i off:Nat}{x':α}{d:Option Nat}{l:List bL}
  (hs:Fr B.length Y s es (L.map row)) (he:Ext B Y) (hi:i<L.length) (ho:off<es) (hv:v.one=true) (hx:row x' =(row L[i]).set off v)
  (K:∀W5:ah,Ext B W5->W5.length=Y.length->Fr B.length W5 s es ((L.set i x').map row)->(∀b,sB s≠some b->W5[b]? =Y[b]?)->WP P ro l ks (put ts d az) W5 Q):
  WR P ro (aX 1 (jF s es i off) v (λb=>Y[b]?)) false d l ks ts Y Q:=by
 obtain⟨g,rfl⟩:=he;refine WR.vX (h0:=B) hs hi ho hv hx ?_;intro g' SP hff hkp;exact K _ ⟨_,rfl⟩ (by simp[SP]) hff λb hb=>hkp b λb0 o n e he z=>hb (by rw[he,z];rfl)
set_option maxRecDepth 10000
attribute [local irreducible] WP WC WE WB WR WF WL WG fX WM
section
variable {P:Program}(T:fq P) {B X W:ah}{ts:TS}{V:RV}{x:EV}
include T
def At(w:eS V.an)(ox:bh B x)(we:j8 x.ev .accept)(nk:sU V.an x.ev .accept)(s:cH B X x V W V)(hlen:ts.length=250)(t2:slot ts 2=.ptr X.length 0)(t3:slot ts 3=.ptr (X.length+1) 0)(t4:slot ts 4=.ptr (X.length+2) 0):
  WC P bJ Au [] ts W (FQ [(4,some (some 7)),(5,none)] (sS B X V (bz V.an x.ev .accept) (dF V.an x.ev .accept))):=by
 have ow:=ox.ext s.ex;have oV:=s.bk.o.ok;have SN:x.ev.kind=bu .accept:=cA we.kd;obtain⟨lr,le,sb,gm⟩:=cH.fa s;obtain⟨i0,d0⟩:=bO ow we 0 0 rfl De;obtain⟨j0,f0,q0⟩:=cW ow we 0 0 rfl De;unfold Au fn225;simp only[ai.tl];have k0:aL x.ev 0∈eP V.an:=nk.kn 0 0 rfl;have Vr:x.ev.names=[aL x.ev 0]:=by
  have h1:=we.nl;obtain⟨n,hn⟩:∃n,x.ev.names=[n]:=List.length_eq_one_iff.1 h1;rw[aL,hn];rfl
 have hlt:bn (eP V.an) (aL x.ev 0)<V.lines.length:=by have:=cN k0;simpa [eP,RV.an]using this
 have ei:cV (λy:gN=>decide (y.name=aL x.ev 0)) V.lines=(bn (eP V.an) (aL x.ev 0):Int):=fp (f:=gN.name) k0;have sp:cC V.an (aL x.ev 0)=V.lines[bn (eP V.an) (aL x.ev 0)]:=de k0;obtain⟨p,hp⟩:∃p,p=bn (eP V.an) (aL x.ev 0):=⟨_,rfl⟩;rw[<-hp]at ei;have hlt:p<V.lines.length:=by rw[hp];exact hlt
 have sp:cC V.an (aL x.ev 0)=V.lines[p]:=by rw[sp];congr 1;exact hp.symm
 refine pL (J7 @t2 @t3 @t4 @le @lr @bB @aS @bg @aG @SN @iI @aaz @aaq @j0 @f0 @i0 @d0) ?_;refine WF.ce T.c28 (r28 T (oV.ext Xx) w.len _) λg1=>?_
 rw[ei];obtain⟨W2,Te⟩:∃Z,Z=W++g1:=⟨_,rfl⟩;rw[<-Te];have Tb:cH B X x V W2 V:=by rw[Te];exact fw.grow s ⟨g1,rfl⟩
 have ow:=ox.ext Tb.ex;have oV:=Tb.bk.o.ok;obtain⟨lr,le,sb,gm⟩:=cH.fa Tb;have on:=ow.n;rw[Vr]at on;have on1:=ow.n.one;refine Rs (A7 t2 t3 t4 @le @lr @aG @aS) ?_;refine WF.res T.c127 (r127 T (oV.ext Xx) w.len on Si) ?_;rintro ns g2 hns;obtain⟨W3,S4⟩:∃Z,Z=W2++g2:=⟨_,rfl⟩;rw[<-S4];have Ti:cH B X x V W3 V:=by rw[S4];exact fw.grow Tb ⟨g2,rfl⟩
 have ow:=ox.ext Ti.ex;have oV:=Ti.bk.o.ok;obtain⟨lr,le,sb,gm⟩:=cH.fa Ti;rw[<-S4]at hns;obtain⟨S,hS⟩:∃S,S=tJ V.an (aL x.ev 0):=⟨_,rfl⟩;have hfS:(V.an.aj.filter λy=>decide (y.line∈[aL x.ev 0]))=S:=by
  rw[hS,tJ];refine List.filter_congr λy _=>?_
  simp
 rw[hfS]at hns;have hSm:∀y∈S,y∈V.an.aj:=λy hy=>by rw[hS,tJ]at hy;exact(aa6.1 hy).1
 have hSl:S.length<=64:=by
  have h1:S.length<=V.an.aj.length:=by rw[hS,tJ];exact aaF _ _
  have:=w.l2;omega
 rw[abJ]at hns;have ix:bf 3 V.s0 (.i (p:Int))=some (cI V.s0 3 p,.ar):=oV.i0.c6 hlt;have l2:∀{k:ah},Ext W3 k->ao none (jF V.s0 3 p 2) (λb=>k[b]?)=some (.bool (cC V.an (aL x.ev 0)).acc,.ar):=λ{k} e=>by rw[sp];exact oV.i0.kT hlt rfl e
 have l1:∀{k:ah},Ext W3 k->ao none (jF V.s0 3 p 1) (λb=>k[b]?)=some (.i (cC V.an (aL x.ev 0)).want,.ar):=λ{k} e=>by rw[sp];exact oV.i0.kT hlt rfl e
 cases h1:(cC V.an (aL x.ev 0)).acc with
 |true=>
  rw[h1]at l2;refine Rs (mU t2 t3 t4 ix @l2 @lr @aG @eJ @sb @gm) ?_;rw[bz,aai h1];exact D4
 |false=>
 rw[h1]at l2;by_cases h2:(S.length:Int)<(cC V.an (aL x.ev 0)).want
 case pos=>
  have e2:decide ((S.length:Int)<(cC V.an (aL x.ev 0)).want)=true:=Z8 h2;refine Rs (D3 t2 t3 t4 ix @l2 @l1 hns.aH @lr @aG @eJ e2 @sb @gm) ?_;rw[bz,aab (by rw[h1];decide),aai (by rw[<-hS];exact h2)];exact D4
 have e2:decide ((S.length:Int)<(cC V.an (aL x.ev 0)).want)=false:=Z3 h2;refine Rs (lI t2 t3 t4 ix @l2 @l1 hns.aH @lr @aG @eJ e2) ?_;refine WL.inv T.mix (λm ts h'=>∃(k:Nat) (g:ah),k<=S.length/\m=S.length-k/\h' =W3++g/\(∀y∈S.take k,eD V.an y (bI x.ev 0)=true)/\ts.length=250/\slot ts 2=.ptr X.length 0/\slot ts 4=.ptr (X.length+2) 0/\slot ts 6=.i (bI x.ev 0)/\slot ts 9=.i (p:Int)/\slot ts 10=ns/\slot ts 11=.i k) S.length
  ⟨0,[],Om,rfl,by rw[aaw],(λy hy=>by cases hy),Sn,(Sq t2),(Sq t4),Sw,Sw,Sw,ga⟩ ?_
 clear t2 t3 t4 hlen;rintro _ ts _ ⟨k,g,hk,rfl,rfl,hsf,hlen,t2,t4,t6,t9,t10,t11⟩;obtain⟨W4,TF⟩:∃Z,Z=W3++g:=⟨_,rfl⟩;rw[<-TF];have Uz:cH B X x V W4 V:=by rw[TF];exact fw.grow Ti ⟨g,rfl⟩
 have ow:=ox.ext Uz.ex;have oV:=Uz.bk.o.ok;obtain⟨lr,le,sb,gm⟩:=cH.fa Uz;have e34:Ext W3 W4:=⟨g,TF⟩;have hns:=hns.ext e34;by_cases TU:k<S.length
 ·have e3:decide ((k:Int)<S.length)=true:=Z8 Om;have e5:=wrapN (n:=k) Om;have iy:=hns.c6 (kk:=.i64) TU;obtain⟨y,hy⟩:∃y,y=S[k]:=⟨_,rfl⟩;have TM:y∈V.an.aj:=hSm y (by rw[hy];exact aad _);have lf:∀{kk:ah},Ext W4 kk->ao none (cI ns 1 k) (λb=>kk[b]?)=some (.str y.name,.ar):=λ{kk} e=>hns.lC TU (by rw[<-hy];rfl) e
  have Vq:y.name∈kj V.an:=aao TM;have hps:=cN Vq;have Up:bn (kj V.an) y.name<V.aj.length:=by simpa [kj,RV.an]using hps
  have iz:bf 3 V.s2 (.i ((bn (kj V.an) y.name:Nat):Int))=some (cI V.s2 3 (bn (kj V.an) y.name),.ar):=oV.i2.c6 Up;obtain⟨u,hu⟩:∃u,u=V.aj[bn (kj V.an) y.name]:=⟨_,rfl⟩;have hum:u∈V.aj:=by rw[hu];exact aad _
  have huy:u.1=y:=by
   have a1:lQ V.an y.name=y:=qX w.n2.nd TM;rw[lQ,de (f:=jc.name) (l:=V.an.aj) (d:=CP) Vq]at a1;rw[<-a1,hu];exact BB
  have ly:∀{kk:ah},Ext W4 kk->ao (some 3) (cI V.s2 3 (bn (kj V.an) y.name)) (λb=>kk[b]?)=some (.agg (aU u),.ar):=λ{kk} e=>by rw[hu];exact oV.i2.gP Up e
  have ou:=oV.e2 u hum;have hul:=(w.vj.sh u hum);refine Rs (D3 t2 t4 t6 t9 t10 t11 hns.aH e3 @lr @dC @aG @iy @lf) ?_;refine WF.ce T.c22 (r22 T (oV.ext Xx) w.len _) λg3=>?_
  have ej:cV (λy':jc×AV=>decide (y'.1.name=y.name)) V.aj=(bn (kj V.an) y.name:Int):=by
   rw[gV];exact fp (f:=λy:jc×AV=>y.1.name) (by rw[<-gV];exact Vq)
  rw[ej];refine Rs (A8 t2 t4 t6 t9 t10 t11 @iz @ly) ?_;refine WF.ce T.c23 (r23 T (oV.ext Xx) w.len (ou.ext Xx) hul.2 hul.1 _) λg4=>?_
  rw[huy];cases h4:eD V.an y (bI x.ev 0)with
  |false=>
   refine Rs (lI t2 t4 t6 t9 t10 t11 @aay @lr @aG @sb @gm) ?_;rw[bz,aab (by rw[h1];decide),aab (by rw[<-hS];exact h2),aai (by rw[<-hS];exact abx.2 ⟨y,by rw[hy];exact aad _,by rw[h4];rfl⟩)];exact cH.fin (fw.grow Uz (by rw[Z4];exact⟨_,rfl⟩)) (λz=>absurd z De)
  |true=>
   refine Rs (A8 t2 t4 t6 t9 t10 t11 @aar e5) ?_;refine⟨_,Om,k+1,g++g3++g4,Om,rfl,by rw[TF];simp only[Z4],?_,rfl⟩;intro y' hy';exact Rm
 ·have e3:decide ((k:Int)<S.length)=false:=Z3 Om;have e4:k=S.length:=Om
  rw[e4,aaI]at hsf;have Ud:bz V.an x.ev .accept=0:=by
   rw[bz,aab (by rw[h1];decide),aab (by rw[<-hS];exact h2),aab];exact z154
  refine Rs (lI t2 t4 t6 t9 t10 t11 hns.aH e3 @lr @eJ ix) ?_;refine WR.CI (B:=B) (x':={V.lines[p]with acc:=true}) (row:=bw) Uz.bk.o.i0 Uz.ex hlt De rfl rfl ?_;intro W5 x5 l5 hff hk5;have s5:cH B X x V W5 {V with lines:=V.lines.set p {V.lines[p]with acc:=true} }:=fw.q0 Uz hff (λi _ hne=>hk5 i hne) x5 Om;obtain⟨lr,_,sb,gm⟩:=cH.fa s5;refine Rs (mU t2 t4 t6 t9 t10 t11 @lr @aG @sb @gm) ?_;exact Kq
end
structure Hx(X:ah)(x:EV)(U:RV)(h:ah):Prop where
 r:h[X.length]? =some (.b U.row)
 e:h[X.length+1]? =some (.b x.row)
 n:bh h x
theorem Hx.ext{X h k x U}(s:Hx X x U h)(e:Ext h k):Hx X x U k:=⟨e.some s.r,e.some s.e,s.n.ext e⟩
section
variable {P:Program}(T:fq P) {B X W:ah}{ts:TS}{V:RV}{x:EV}
include T
def EJ(w:eS V.an)(ox:bh B x)(we:j8 x.ev .copy)(nk:sU V.an x.ev .copy)(s:cH B X x V W V)(hlen:ts.length=250)(t2:slot ts 2=.ptr X.length 0)(t3:slot ts 3=.ptr (X.length+1) 0)(t4:slot ts 4=.ptr (X.length+2) 0):
  WC P bJ Au [] ts W (FQ [(4,some (some 7)),(5,none)] (sS B X V (bz V.an x.ev .copy) (dF V.an x.ev .copy))):=by
 have ow:=ox.ext s.ex;have oV:=s.bk.o.ok;have SN:x.ev.kind=bu .copy:=cA we.kd;obtain⟨lr,le,sb,gm⟩:=cH.fa s;obtain⟨i0,d0⟩:=bO ow we 0 0 rfl De;obtain⟨i1,d1⟩:=bO ow we 1 1 rfl De;obtain⟨j0,f0,q0⟩:=cW ow we 0 0 rfl De;unfold Au fn225;simp only[ai.tl];have k0:aL x.ev 0∈iQ V.an:=nk.kn 0 1 rfl;have k1:aL x.ev 1∈iQ V.an:=nk.kn 1 1 rfl;have U5:V.aj.length<=64:=by have:=w.l2;simpa [RV.an]using this
 have htp:∀y∈V.aj,y.1.aE.length<2^30:=λy hy=>(w.vj.sh y hy).2
 by_cases h1:aL x.ev 0=aL x.ev 1
 case pos=>
  have e1:decide (aL x.ev 0=aL x.ev 1)=true:=Z8 h1;refine pL (NT @t2 @t3 @t4 @le @lr @bB @aS @bg @aG @SN @iI @aaz @aaq @j0 @f0 @i0 @d0 @i1 @d1 @e1 @sb @gm) ?_;rw[bz,aai h1];exact z156
 have e1:decide (aL x.ev 0=aL x.ev 1)=false:=Z3 h1;refine pL (Q8 @t2 @t3 @t4 @le @lr @bB @aS @bg @aG @SN @iI @aaz @aaq @j0 @f0 @i0 @d0 @i1 @d1 @e1) ?_;refine WF.ce T.c84 (r84 T (oV.ext Xx) w.len k0 _) λg1=>?_
 obtain⟨W2,Te⟩:∃Z,Z=W++g1:=⟨_,rfl⟩;rw[<-Te];have Tb:cH B X x V W2 V:=by rw[Te];exact fw.grow s ⟨g1,rfl⟩
 have ow:=ox.ext Tb.ex;have oV:=Tb.bk.o.ok;obtain⟨lr,le,sb,gm⟩:=cH.fa Tb;obtain⟨i0,d0⟩:=bO ow we 0 0 rfl De;obtain⟨i1,d1⟩:=bO ow we 1 1 rfl De;obtain⟨j0,f0,q0⟩:=cW ow we 0 0 rfl De;cases h2:gT V.an (bI x.ev 0) (aL x.ev 0)with
 |false=>
  refine Rs (A8 t2 t3 t4 @aay @lr @aG @sb @gm) ?_;rw[bz,aab h1,aai (by rw[h2];rfl)];exact J9
 |true=>
 refine Rs (mU t2 t3 t4 @aar @le @lr @aG @aS @i1 @d1) ?_;refine WF.ce T.c84 (r84 T (oV.ext Xx) w.len k1 _) λg2=>?_
 obtain⟨W3,S4⟩:∃Z,Z=W2++g2:=⟨_,rfl⟩;rw[<-S4];have Ti:cH B X x V W3 V:=by rw[S4];exact fw.grow Tb ⟨g2,rfl⟩
 have ow:=ox.ext Ti.ex;have oV:=Ti.bk.o.ok;obtain⟨lr,le,sb,gm⟩:=cH.fa Ti;obtain⟨i0,d0⟩:=bO ow we 0 0 rfl De;obtain⟨i1,d1⟩:=bO ow we 1 1 rfl De;obtain⟨j0,f0,q0⟩:=cW ow we 0 0 rfl De;cases h3:gT V.an (bI x.ev 0) (aL x.ev 1)with
 |false=>
  refine Rs (A8 t2 t3 t4 @aay @lr @aG @sb @gm) ?_;rw[bz,aab h1,aab (by rw[h2];decide),aai (by rw[h3];rfl)];exact D4
 |true=>
 have Ud:bz V.an x.ev .copy=0:=by rw[bz,aab h1,aab (by rw[h2];decide),aab (by rw[h3];decide)]
 refine Rs (A4 t2 t3 t4 @aar) ?_;obtain⟨a,ha⟩:∃a,a=aL x.ev 0:=⟨_,rfl⟩;obtain⟨z,hz⟩:∃z,z=aL x.ev 1:=⟨_,rfl⟩;refine WL.inv T.mix (λm ts W=>∃(k:Nat) (U:RV),k<=V.aj.length/\m=V.aj.length-k/\cH B X x V W U/\U.s2=V.s2/\U.aj.length=V.aj.length/\
   {U.an with aj:=V.an.aj} =V.an/\(∀i (hi:i<U.aj.length) (hi':i<V.aj.length),(U.aj[i]).1=if i<k then jS a z (V.aj[i]).1 else(V.aj[i]).1)/\
   ts.length=250/\slot ts 2=.ptr X.length 0/\slot ts 3=.ptr (X.length+1) 0/\slot ts 4=.ptr (X.length+2) 0/\slot ts 7=.i k) V.aj.length
  ⟨0,V,Om,rfl,Ti,rfl,rfl,rfl,λi hi hi'=>by rw[aab Om],Sn,(Sq t2),(Sq t3),(Sq t4),ga⟩ ?_
 clear t2 t3 t4 hlen i0 i1 d0 d1 j0 f0 oV ow lr le sb gm;rintro _ ts W4 ⟨k,U,hk,rfl,s,To,UY,hreg,hU,hlen,t2,t3,t4,t7⟩;have ow:=ox.ext s.ex;have oU:=s.bk.o.ok;obtain⟨lr,le,sb,gm⟩:=cH.fa s;by_cases hlt:k<V.aj.length
 ·have VY:k<U.aj.length:=Om
  have e3:=dN hlt;have e5:=wrapN (n:=k) Om;have ll:∀(G:Nat->Option ak),Go.Abs.ja .sl G U.s2=some V.aj.length:=λG=>by rw[oU.i2.aH,UY]
  have ix:bf 3 U.s2 (.i (k:Int))=some (cI U.s2 3 k,.ar):=oU.i2.c6 VY;have Ta:U.aj[k]∈U.aj:=aad _;have hx1:(U.aj[k]).1=(V.aj[k]).1:=by rw[hU k VY hlt,aab Om]
  have hxl:(U.aj[k]).1.aE.length<2^30:=by rw[hx1];exact htp _ (aad _)
  have Xh:=s.bk.o.e2 _ Ta;have next:∀(U2:RV),U2.aj.length=V.aj.length->(∀i (hi:i<U2.aj.length) (hi':i<U.aj.length),(U2.aj[i]).1=if i=k then jS a z (U.aj[i]).1 else(U.aj[i]).1)->
    ∀i (hi:i<U2.aj.length) (hi':i<V.aj.length),(U2.aj[i]).1=if i<k+1 then jS a z (V.aj[i]).1 else(V.aj[i]).1:=by
   intro U2 a3 a5 i hi hi';exact z59
  obtain⟨y,hy⟩:∃y,y=U.aj[k]:=⟨_,rfl⟩;have ly:∀{kk:ah},Ext W4 kk->ao none (jF U.s2 3 k 2) (λb=>kk[b]?)=some (y.2,.ar):=λ{kk} e=>oU.i2.kT VY (by rw[<-hy];rfl) e
  rw[<-hy]at Xh hxl;have oy:=Xh.aY.one;obtain⟨i0,d0⟩:=bO ow we 0 0 rfl De;obtain⟨i1,d1⟩:=bO ow we 1 1 rfl De;rw[<-ha]at d0;rw[<-hz]at d1;refine Rs (Bo t2 t3 t4 t7 @lr @le @dC @ll e3 ix @ly @aS @i0 @d0) ?_;refine WF.ce T.c35 (r35 T (Xh.aY.ext Xx) Om a) λg3=>?_
  by_cases c1:a∈y.1.aE
  case neg=>
   have u1:decide (a∈y.1.aE)=false:=Z3 c1;rw[u1];refine Rs (A5 t2 t3 t4 t7 e5) ?_;refine⟨_,Om,k+1,U,Om,rfl,fw.grow s ⟨g3,rfl⟩,To,UY,hreg,next U UY (λi hi hi'=>?_),rfl⟩;split
   ·rename_i UR;subst UR;rw[<-hy,jS,aab (λw=>c1 w.1)]
   ·rfl
  have u1:decide (a∈y.1.aE)=true:=Z8 c1;rw[u1];refine Rs (A8 t2 t3 t4 t7 @le @aS @i1 @d1) ?_;refine WF.ce T.c35 (r35 T (Xh.aY.ext Xx) Om z) λg4=>?_
  by_cases c2:z∈y.1.aE
  ·have u2:decide (z∈y.1.aE)=true:=Z8 c2;rw[u2];refine Rs (A6 t2 t3 t4 t7 @aar e5) ?_;refine⟨_,Om,k+1,U,Om,rfl,fw.grow s (by rw[Z4];exact⟨_,rfl⟩),To,UY,hreg,next U UY (λi hi hi'=>?_),rfl⟩;split
   ·rename_i UR;subst UR;rw[<-hy,jS,aab (λw=>w.2 c2)]
   ·rfl
  have u2:decide (z∈y.1.aE)=false:=Z3 c2;rw[u2];refine Rs (A5 t2 t3 t4 t7 @aay) ?_;obtain⟨W5,T3⟩:∃Z,Z=W4++g3++g4:=⟨_,rfl⟩;rw[<-T3];have YW:Ext W4 W5:=by rw[T3,Z4];exact⟨_,rfl⟩
  have s5:cH B X x V W5 U:=fw.grow s YW;have S5:Hx X x U W5:=⟨s5.bk.m,cH.MO s5,ox.ext s5.ex⟩;have hfx5:=s5.bk.o.e2 y (by rw[hy];exact Ta);refine pG (Hx X x U) ?_;refine dt S5 rfl rfl ?_;refine Rs (A4 t2 t3 t4 t7) ?_;refine lD S5 (v:=U.s2) (λg hg=>?_) ?_
  ·simp only[aO,aT,aZ,a8,reduceAdd,reduceMul,reduceLeDiff,reduceEqDiff,bd,hlen,aal,aan,t2,aA hg.r,dC]
  refine Rs (A4 t2 t3 t4 t7) ?_;refine dt S5 rfl rfl ?_;refine Rs (A4 t2 t3 t4 t7) ?_;refine dt S5 rfl rfl ?_;refine Rs (A4 t2 t3 t4 t7) ?_;have S6:Hx X x U (W5++[ak.b []]):=S5.ext ⟨_,rfl⟩;refine dt S6 rfl rfl ?_;refine Rs (A4 t2 t3 t4 t7) ?_;refine dt S6 rfl rfl ?_;refine Rs (A4 t2 t3 t4 t7) ?_;obtain⟨n5,hn5⟩:∃n,n=W5.length:=⟨_,rfl⟩;refine WR.pk (N:=n5) (w:=16) ba (Nat.le_of_eq hn5) (hfx5.aY.ext Xx) (by simp only[aaa];omega) λt0 g5 ft=>?_
  obtain⟨W6,UH⟩:∃Z,Z=W5++[ak.b []]++g5:=⟨_,rfl⟩;rw[<-UH]at ft ⊢;have e56:Ext W5 W6:=by rw[UH,Z4];exact⟨_,rfl⟩
  have S7:Hx X x U W6:=S5.ext e56;have oq:=S7.n;have iq:bf 1 x.sn (.i 1)=_:=(xz oq we (i:=1) De).1;have p0:=ft.aY.one;refine Rs (A4 t2 t3 t4 t7) ?_;refine dt S7 rfl rfl ?_;refine Rs (A4 t2 t3 t4 t7) ?_;refine lD S7 (v:=x.sn) (λg hg=>?_) ?_
  ·simp only[aO,aT,aZ,a8,reduceAdd,reduceMul,reduceLeDiff,reduceEqDiff,bd,hlen,aal,aan,t3,aA hg.e,aS]
  refine Rs (A4 t2 t3 t4 t7) ?_;refine dt S7 rfl rfl ?_;refine Rs (A5 t2 t3 t4 t7 @iq) ?_;refine lD S7 (v:=.str z) (λg hg=>?_) ?_
  ·have h9:=@(xz hg.n we (i:=1) De).2;rw[<-hz]at h9;refine Zs t3 ?_;exact h9 (Ext.refl _)
  refine Rs (A4 t2 t3 t4 t7) ?_;refine dt S7 rfl rfl ?_;refine Rs (A4 t2 t3 t4 t7) ?_;refine dt (S7.ext ⟨_,rfl⟩) rfl rfl ?_;refine Rs (A4 t2 t3 t4 t7) ?_;rw[hn5]at ft;have s6:cH B X x V W6 U:=fw.grow s5 e56;refine WR.pn (B:=W5) (cs:=y.1.aE.map aq) ft rfl e56 De (by simp only[aaa];omega) ?_;intro W7 t' x7 hff hn7 q7 l7 hk7;have hrow:y.1.aE.map aq++[[AV.str z]]=(y.1.aE++[z]).map aq:=by rw[aae];rfl
  rw[hrow]at hff;have k7:∀i,i<W5.length->W7[i]? =W5[i]? :=λi hi=>x7.get hi
  have s7:cH B X x V W7 U:=fw.grow s5 x7;have S8:Hx X x U W7:=S5.ext x7;refine Rs (A4 t2 t3 t4 t7) ?_;refine pF S8 rfl ?_;have hs27:Fr B.length W7 U.s2 3 (U.aj.map aU):=s7.bk.o.i2;have ix:bf 3 U.s2 (.i (k:Int))=some (cI U.s2 3 k,.ar):=oU.i2.c6 VY;refine Rs (A6 t2 t3 t4 t7 ix q7) ?_;refine WR.CI (B:=B) (x':=(⟨y.1.name,y.1.line,y.1.aE++[z]⟩,t')) (row:=aU) hs27 s7.ex VY De q7 (by rw[<-hy];rfl) ?_;intro W8 x8 l8 hf8 hk8;have ft8:Fr B.length W8 t' 1 ((y.1.aE++[z]).map aq):=(hff.aD λi hi=>hk8 i λe=>by
   have h1:=(hff.bQ hi).1;have h2:=(s5.bk.o.ep (b:=i) (by rw[<-e];simp[RV.bl])).2;omega).low s5.ex.len
  have s8:cH B X x V W8 {U with aj:=U.aj.set k (⟨y.1.name,y.1.line,y.1.aE++[z]⟩,t') }:=fw.qS s VY hf8 ft8 (λj hj=>by have h1:=(hff.bQ hj).1;have:=YW.len;omega) (λj hj n1 n2=>by
   rw[hk8 j n1,k7 j (by have:=YW.len;omega)];exact YW.get hj) x8 (by have:=YW.len;have:=e56.len;omega)
  refine Rs (A5 t2 t3 t4 t7 e5) ?_;refine⟨_,Om,k+1,_,Om,rfl,s8,To,(by simp only[aaL];exact UY),hreg,next _ (by simp only[aaL];exact UY) (λi hi hi'=>?_),rfl⟩;by_cases UR:i=k
  ·subst UR;simp only[abY,aan];rw[<-hy,jS,aai ⟨c1,c2⟩]
  ·exact Ke
 ·have e3:decide ((k:Int)<V.aj.length)=false:=Z3 Om;have e4:k=V.aj.length:=Om
  have ll:∀(G:Nat->Option ak),Go.Abs.ja .sl G U.s2=some V.aj.length:=λG=>by rw[oU.i2.aH,UY]
  refine Rs (lI t2 t3 t4 t7 @lr @dC @ll e3 @aG @sb @gm) ?_;rw[Ud];refine cH.fin s (λ_=>?_);exact RC
def C9{d}(hd:d=.line\/d=.tape\/d=.gK\/d=.copy\/d=.accept)(o:cK B.length X V)(w:eS V.an)(hx:Ext B X)(ox:bh B x)(we:j8 x.ev d)(nk:sU V.an x.ev d):
  dA P 225 [.agg V.row,.agg x.row] X (sS B X V (bz V.an x.ev d) (dF V.an x.ev d)):=by
 refine .of T.mix (acv T.c225 (aax some O4)) ?_;obtain⟨ts,SH⟩:∃ts,ts=aW 250 [.agg V.row,.agg x.row]:=⟨_,rfl⟩;have hlen:ts.length=250:=by rw[SH];rfl
 have t0:slot ts 0=.agg V.row:=by rw[SH];rfl
 have t1:slot ts 1=.agg x.row:=by rw[SH];rfl
 show WC P bJ (.seq ((fn225).body.hd) Au) [] (aW 250 [.agg V.row,.agg x.row]) X (FQ [(4,some (some 7)),(5,none)] (sS B X V (bz V.an x.ev d) (dF V.an x.ev d)));rw[<-SH];clear SH;have SG:=@aB.box _ _ o.ok;have hex:=@bh.box _ _ (ox.ext hx);have s:cH B X x V (X++[.b V.row]++[.b x.row]++[.b ki]) V:=by
  exact z20
 unfold ki at s;generalize hB:Au=R;unfold fn225;simp only[ai.hd];refine Rs (A4 t0 t1 @SG @hex) ?_;rw[<-hB];rcases hd with rfl|rfl|rfl|rfl|rfl
 ·exact EI T w ox we nk s Sn Sw (by simp only[aO,aT,aZ,a8,reduceAdd,reduceMul,reduceLeDiff,reduceEqDiff,bd,hlen,aal,aan];simp) (by simp only[aO,aT,aZ,a8,reduceAdd,reduceMul,reduceLeDiff,reduceEqDiff,bd,hlen,aal,aan];simp)
 ·exact EG T w ox we nk s Sn Sw (by simp only[aO,aT,aZ,a8,reduceAdd,reduceMul,reduceLeDiff,reduceEqDiff,bd,hlen,aal,aan];simp) (by simp only[aO,aT,aZ,a8,reduceAdd,reduceMul,reduceLeDiff,reduceEqDiff,bd,hlen,aal,aan];simp)
 ·exact EH T w ox we nk s Sn Sw (by simp only[aO,aT,aZ,a8,reduceAdd,reduceMul,reduceLeDiff,reduceEqDiff,bd,hlen,aal,aan];simp) (by simp only[aO,aT,aZ,a8,reduceAdd,reduceMul,reduceLeDiff,reduceEqDiff,bd,hlen,aal,aan];simp)
 ·exact EJ T w ox we nk s Sn Sw (by simp only[aO,aT,aZ,a8,reduceAdd,reduceMul,reduceLeDiff,reduceEqDiff,bd,hlen,aal,aan];simp) (by simp only[aO,aT,aZ,a8,reduceAdd,reduceMul,reduceLeDiff,reduceEqDiff,bd,hlen,aal,aan];simp)
 ·exact At T w ox we nk s Sn Sw (by simp only[aO,aT,aZ,a8,reduceAdd,reduceMul,reduceLeDiff,reduceEqDiff,bd,hlen,aal,aan];simp) (by simp only[aO,aT,aZ,a8,reduceAdd,reduceMul,reduceLeDiff,reduceEqDiff,bd,hlen,aal,aan];simp)
end
def fw.Mx{B W0 W W2 b K U}(s:fw B W0 b K W U)(hk:∀i,i<W.length->W2[i]? =W[i]?)(hl:W.length<=W2.length)(hx:Ext B W2):fw B W0 b K W2 U:=by
 refine⟨⟨s.bk.o.ar λi hi=>hk i (s.bk.o.ep hi).2,s.bk.hN,(hk _ s.bk.lt).trans s.bk.m,s.bk.ne⟩,hx,aaT s.ln hl,λi hi=>?_,s.kl⟩;rw[hk i (aaY (s.kl i hi).1 s.ln)];exact s.kp i hi
structure vt(B W Y:ah)(mb:Nat)(c:List AV)(t:AV)(ins:List (By)):Prop where
 k:∀i,i<W.length->Y[i]? =W[i]?
 b:B.length<=W.length
 l:W.length<=mb
 x:Ext B Y
 m:Y[mb]? =some (.b c)
 f:Fr W.length Y t 1 (ins.map aq)
 n:∀i,sB t=some i->i≠mb
def vt.lt{B W Y mb c t ins}(s:vt B W Y mb c t ins):mb<Y.length:=(Z2.1 s.m).1
def vt.grow{B W Y Y2 mb c t ins}(s:vt B W Y mb c t ins)(e:Ext Y Y2):vt B W Y2 mb c t ins:=by
 have h1:=s.lt;have h2:=s.l;exact⟨λi hi=>by rw[e.get Om,s.k i hi],s.b,s.l,s.x.trans e,e.some s.m,s.f.ext e,s.n⟩
theorem vt.set{B W Y mb c t ins}(s:vt B W Y mb c t ins)(c':List AV):vt B W (Y.set mb (.b c')) mb c' t ins:=by
 have h1:=s.lt;have h2:=s.l;have h3:=s.b;exact⟨λi hi=>by rw[aaj Om,s.k i hi],s.b,s.l,s.x.iJ Om,aak h1,s.f.aD λi hi=>aaj (abo (s.n i hi)),s.n⟩
def vt.rc{B X W Y x V mb c t ins}(s:vt B W Y mb c t ins)(r:cH B X x V W V):cH B X x V Y V:=
 fw.Mx r s.k (by have:=s.lt;have:=s.l;omega) s.x
def vt.st{B W Y mb c t ins}(s:vt B W Y mb c t ins){i v}(hv:v.one=true)(hi:i+1<=c.length):aX 1 (.ptr mb i) v (λz=>Y[z]?)=some (az,.set mb (.b (c.set i v))):=
 (aK s.m).trans (bP hv hi)
def xH(k:Nat):ai:=(fn226).body.dr k
def FT(k:Nat):ai:=((fn226).body.dr k).hd
def QL:xH 1=.seq (FT 1) (xH 2):=rfl
def Jl:xH 2=.seq (FT 2) (xH 3):=rfl
def QM:fn226=⟨96,2,[(4,some (some 7)),(5,none)],.seq (FT 0) (xH 1)⟩:=rfl
section
variable {P:Program}(T:fq P) {B X W Y:ah}{ts:TS}{V:RV}{x:EV}{mb:Nat}
include T
theorem uQ(w:eS V.an)(s:cH B X x V W V){y t ins}(hb:vt B W Y mb [.str y.name,.str y.gives,.str y.line,t] t ins)(hy:y.bC=ins)(hlen:ts.length=96)(t2:slot ts 2=.ptr X.length 0)(t4:slot ts 4=.ptr (X.length+2) 0)(t6:slot ts 6=.ptr mb 0):
  WC P bJ (xH 3) [] ts Y (FQ [(4,some (some 7)),(5,none)] (sS B X V (if 32<=V.an.aC.length then 5 else 0) {V.an with aC:=V.an.aC++[y] })):=by
 have sY:=hb.rc s;have oV:=sY.bk.o.ok;have lm:=@dB _ _ _ hb.m;have hml:V.an.aC.length=V.aC.length:=by simp[RV.an]
 have ot:=hb.f.aY.one;obtain⟨lr,le,sb,gm⟩:=cH.fa sY;unfold xH fn226;simp only[ai.j,ai.s,ai.r,ai.dr,ai.tl];by_cases h1:32<=V.aC.length
 case pos=>
  have e1:decide ((32:Int)<=(V.aC.length:Int))=true:=Z8 Om;refine Rs (mU t2 t4 t6 @lr @eU oV.i3.aH e1 @aG @sb @gm) ?_;rw[hml,aai h1];exact J8
 have e1:decide ((32:Int)<=(V.aC.length:Int))=false:=Z3 Om;obtain⟨z,hz⟩:∃z:List AV,z=aR (y,t):=⟨_,rfl⟩;have TH:[AV.str y.name,.str y.gives,.str y.line,t]=z:=by rw[hz];rfl
 refine Rs (A9 t2 t4 t6 @lr @eU oV.i3.aH e1 @lm @ot) ?_;rw[TH];refine WR.pn (B:=B) (cs:=V.aC.map aR) (sY.bk.o.i3) (by rw[hz];rfl) sY.ex De (by rw[aaa];omega) ?_;intro W5 s' x5 hff hn5 q5 l5 hk5;have hrow:V.aC.map aR++[z]=(V.aC++[(y,t)]).map aR:=by rw[aae,hz];rfl
 rw[hrow]at hff;have hlW:W.length<=Y.length:=by have:=hb.lt;have:=hb.l;omega
 have bY:∀i,sB t=some i->sB V.s3≠some i:=λi hi e=>by
  have h1:=(hb.f.bQ hi).1;have h2:=(s.bk.o.ep (b:=i) (by rw[<-e];simp[RV.bl])).2;omega
 have f5:Fr B.length W5 t 1 (y.bC.map aq):=by
  rw[hy];exact(hb.f.aD λi hi=>hk5 i (hb.f.bQ hi).2 (bY i hi)).low hb.b
 have s5:cH B X x V (W5.set X.length (.b (V.row.set 4 s'))) {V with aC:=V.aC++[(y,t)],s3:=s'}:=fw.p3 s hff f5 (λi hi=>.inr (by have:=hn5 i hi;omega)) (λi hi=>⟨(hb.f.bQ hi).1,λe=>by have:=hn5 i e;have:=(hb.f.bQ hi).2;omega⟩) (λi hi hne=>(hk5 i Om hne).trans (hb.k i hi)) x5 Om;have mB:W5[X.length]? =some (.b V.row):=(hk5 _ sY.bk.lt (λz=>sY.bk.ne (by rw[<-z];simp[RV.bl]))).trans sY.bk.m;have Tp:aX 1 (.ptr X.length 4) s' (λz=>W5[z]?)=some (az,.set X.length (.b (V.row.set 4 s'))):=(aK mB).trans (bP q5 (by show 4+1<=7;omega));refine Rs (A5 t2 t4 t6 @Tp q5) ?_;obtain⟨W6,UH⟩:∃Z,Z=W5.set X.length (.b (V.row.set 4 s')):=⟨_,rfl⟩
 rw[<-UH]at s5 ⊢;obtain⟨lr,le,sb,gm⟩:=cH.fa s5;refine Rs (A7 t2 t4 t6 @lr @aG @sb @gm) ?_;rw[hml,aab h1];exact cH.fin s5 (λ_=>by simp only[RV.an,aae,aaX,abF])
variable {t:AV}
def AX(w:eS V.an)(ox:bh B x)(we:j8 x.ev .source)(nk:sU V.an x.ev .source)(s:cH B X x V W V)(hb:vt B W Y mb [.str (aL x.ev 0),.str [],.str [],t] t (x.ev.names.drop 1))(ht:t.one=true)(hlen:ts.length=96)(t2:slot ts 2=.ptr X.length 0)(t3:slot ts 3=.ptr (X.length+1) 0)(t4:slot ts 4=.ptr (X.length+2) 0)(t6:slot ts 6=.ptr mb 0):
  WC P bJ (xH 2) [] ts Y (FQ [(4,some (some 7)),(5,none)] (sS B X V (bz V.an x.ev .source) (dF V.an x.ev .source))):=by
 have sY:=hb.rc s;have ow:=ox.ext sY.ex;have oV:=sY.bk.o.ok;have SN:x.ev.kind=bu .source:=cA we.kd;have lm:=@dB _ _ _ hb.m;obtain⟨lr,le,sb,gm⟩:=cH.fa sY;rw[Jl];generalize hR:xH 3=R;unfold FT fn226;simp only[ai.j,ai.s,ai.r,ai.dr,ai.tl,ai.hd];refine pL (nT t2 t3 t4 t6 @le @bB @SN @iO @kF @jE @aaz @aaq) ?_;refine pG (λg=>cH B X x V g V) ?_;refine dt sY rfl rfl ?_;refine Rs (A4 t2 t3 t4 t6) ?_;refine lD sY (v:=x.sn) (λg hg=>?_) ?_
 ·simp only[aO,aT,aZ,a8,reduceAdd,reduceMul,reduceLeDiff,reduceEqDiff,bd,hlen,aal,aan,t3,cH.le hg (Ext.refl _),aS]
 refine Rs (A4 t2 t3 t4 t6) ?_;have i1:bf 1 x.sn (.i 1)=_:=(xz ow we (i:=1) De).1;refine dt sY rfl rfl ?_;refine Rs (A5 t2 t3 t4 t6 @i1) ?_;refine lD sY (v:=.str (aL x.ev 1)) (λg hg=>?_) ?_
 ·have h9:=@(xz (ox.ext (fw.ex hg)) we (i:=1) De).2;refine Zs t3 ?_;exact h9 (Ext.refl _)
 refine Rs (A4 t2 t3 t4 t6) ?_;refine dt sY rfl rfl ?_;refine Rs (A4 t2 t3 t4 t6) ?_;have Tm:=hb.set [.str (aL x.ev 0),.str eo,.str [],t];have kM:aX 1 (.ptr mb 1) (.str [115,104,111,116,115]) (λz=>Y[z]?)=some (az,.set mb (.b [.str (aL x.ev 0),.str eo,.str [],t])):=hb.st rfl (by show 1+1<=4;omega);obtain⟨Y1,Xo⟩:∃Z,Z=Y.set mb (.b [.str (aL x.ev 0),.str eo,.str [],t]):=⟨_,rfl⟩;rw[<-Xo]at Tm;refine dt sY rfl rfl ?_;refine Rs (A5 t2 t3 t4 t6 @kM) ?_;rw[<-Xo];have S1:=Tm.rc s;refine pF S1 rfl ?_;have Tx:=Tm.set [.str (aL x.ev 0),.str eo,.str (aL x.ev 1),t];have eX:aX 1 (.ptr mb 2) (.str (aL x.ev 1)) (λz=>Y1[z]?)=some (az,.set mb (.b [.str (aL x.ev 0),.str eo,.str (aL x.ev 1),t])):=Tm.st rfl (by show 2+1<=4;omega)
 have Vh:=Tx.set [.str (aL x.ev 0),.str eo,.str (aL x.ev 1),.af];have nC:aX 1 (.ptr mb 3) .af (λz=>(Y1.set mb (.b [.str (aL x.ev 0),.str eo,.str (aL x.ev 1),t]))[z]?)=some (az,.set mb (.b [.str (aL x.ev 0),.str eo,.str (aL x.ev 1),.af])):=Tx.st rfl (by show 3+1<=4;omega);have hb4:vt B W _ mb [.str (aL x.ev 0),.str eo,.str (aL x.ev 1),.af] .af []:=⟨Vh.k,Vh.b,Vh.l,Vh.x,Vh.m,.nil,λi hi=>by cases hi⟩;refine Rs (A6 t2 t3 t4 t6 @eX @nC) ?_;rw[<-hR];exact uQ T w s (y:=⟨aL x.ev 0,eo,aL x.ev 1,[]⟩) hb4 rfl Sn (Sq t2) (Sq t4) (Sq t6)
def FP(w:eS V.an)(ox:bh B x)(we:j8 x.ev .gu)(nk:sU V.an x.ev .gu)(s:cH B X x V W V)(hb:vt B W Y mb [.str (aL x.ev 0),.str [],.str [],t] t (x.ev.names.drop 1))(ht:t.one=true)(hlen:ts.length=96)(t2:slot ts 2=.ptr X.length 0)(t3:slot ts 3=.ptr (X.length+1) 0)(t4:slot ts 4=.ptr (X.length+2) 0)(t6:slot ts 6=.ptr mb 0):
  WC P bJ (xH 2) [] ts Y (FQ [(4,some (some 7)),(5,none)] (sS B X V (bz V.an x.ev .gu) (dF V.an x.ev .gu))):=by
 have sY:=hb.rc s;have ow:=ox.ext sY.ex;have oV:=sY.bk.o.ok;have SN:x.ev.kind=bu .gu:=cA we.kd;have lm:=@dB _ _ _ hb.m;obtain⟨lr,le,sb,gm⟩:=cH.fa sY;obtain⟨i1,d1⟩:=bO ow we 1 1 rfl De;obtain⟨j1,f1,q1⟩:=cW ow we 1 1 rfl De;have k1:aL x.ev 1∈iC V.an:=nk.kn 1 3 rfl;rw[Jl];generalize hR:xH 3=R;unfold FT fn226;simp only[ai.j,ai.s,ai.r,ai.dr,ai.tl,ai.hd];refine pL (HA t2 t3 t4 t6 @le @lr @aS @bg @aG @bB @SN @iO @kF @jE @aaz @aaq @j1 @f1) ?_;refine WF.ce T.c20 (r20 T _ _ _) λg1=>?_
 obtain⟨Y1,Xo⟩:∃Z,Z=Y++g1:=⟨_,rfl⟩;rw[<-Xo];have hb:=hb.grow (show Ext Y Y1 from⟨g1,Xo⟩);have sY:=hb.rc s;have ow:=ox.ext sY.ex;have oV:=sY.bk.o.ok;have lm:=@dB _ _ _ hb.m;obtain⟨lr,le,sb,gm⟩:=cH.fa sY;obtain⟨i1,d1⟩:=bO ow we 1 1 rfl De;obtain⟨j1,f1,q1⟩:=cW ow we 1 1 rfl De;by_cases h1:bj (bI x.ev 1) 1 4=0
 case neg=>
  have e1:decide (bj (bI x.ev 1) 1 4≠0)=true:=Z8 h1;refine Rs (A8 t2 t3 t4 e1 @lr @aG @sb @gm) ?_;rw[bz,aai h1];exact J8
 have e1:decide (bj (bI x.ev 1) 1 4≠0)=false:=Z3 (λz=>z h1);refine Rs (nT t2 t3 t4 t6 @le @lr @aS @bg @aG e1 @j1 @f1) ?_;refine WF.ce T.c263 (r263 T _) λg2=>?_
 obtain⟨Y2,Vi⟩:∃Z,Z=Y1++g2:=⟨_,rfl⟩;rw[<-Vi];have hb:=hb.grow (show Ext Y1 Y2 from⟨g2,Vi⟩);have sY:=hb.rc s;have ow:=ox.ext sY.ex;have oV:=sY.bk.o.ok;have lm:=@dB _ _ _ hb.m;obtain⟨lr,le,sb,gm⟩:=cH.fa sY;obtain⟨i1,d1⟩:=bO ow we 1 1 rfl De;obtain⟨j1,f1,q1⟩:=cW ow we 1 1 rfl De;refine Rs (lI t2 t3 t4 t6 @le @lr @aS @bg @aG @i1 @d1) ?_;refine WF.ce T.c264 (r264 T (oV.ext Xx) w.len k1) λg3=>?_
 obtain⟨Y3,hY3⟩:∃Z,Z=Y2++g3:=⟨_,rfl⟩;rw[<-hY3];have hb:=hb.grow (show Ext Y2 Y3 from⟨g3,hY3⟩);have sY:=hb.rc s;have ow:=ox.ext sY.ex;have oV:=sY.bk.o.ok;have lm:=@dB _ _ _ hb.m;obtain⟨lr,le,sb,gm⟩:=cH.fa sY;by_cases h2:(iG V.an (aL x.ev 1)).gives=nA (bI x.ev 1)
 case neg=>
  have e2:decide ((iG V.an (aL x.ev 1)).gives≠nA (bI x.ev 1))=true:=Z8 h2;refine Rs (A9 t2 t3 t4 t6 e2 @lr @aG @sb @gm) ?_;rw[bz,aab (λz=>z h1),aai h2];exact J8
 have e2:decide ((iG V.an (aL x.ev 1)).gives≠nA (bI x.ev 1))=false:=Z3 (λz=>z h2);have Tm:=hb.set [.str (aL x.ev 0),.str (kg (bI x.ev 1)),.str [],t];have kM:aX 1 (.ptr mb 1) (.str (kg (bI x.ev 1))) (λz=>Y3[z]?)=some (az,.set mb (.b [.str (aL x.ev 0),.str (kg (bI x.ev 1)),.str [],t])):=hb.st rfl (by show 1+1<=4;omega);refine Rs (A6 t2 t3 t4 t6 e2 @kM) ?_;rw[<-hR];have hc:bz V.an x.ev .gu=if 32<=V.an.aC.length then 5 else 0:=by rw[bz,aab (λz=>z h1),aab (λz=>z h2)]
 rw[hc];exact uQ T w s (y:=⟨aL x.ev 0,kg (bI x.ev 1),[],x.ev.names.drop 1⟩) Tm rfl Sn (Sq t2) (Sq t4) (Sq t6)
def Dz(w:eS V.an)(ox:bh B x)(we:j8 x.ev .merge)(nk:sU V.an x.ev .merge)(s:cH B X x V W V)(hb:vt B W Y mb [.str (aL x.ev 0),.str [],.str [],t] t (x.ev.names.drop 1))(ht:t.one=true)(hlen:ts.length=96)(t2:slot ts 2=.ptr X.length 0)(t3:slot ts 3=.ptr (X.length+1) 0)(t4:slot ts 4=.ptr (X.length+2) 0)(t6:slot ts 6=.ptr mb 0):
  WC P bJ (xH 2) [] ts Y (FQ [(4,some (some 7)),(5,none)] (sS B X V (bz V.an x.ev .merge) (dF V.an x.ev .merge))):=by
 have sY:=hb.rc s;have ow:=ox.ext sY.ex;have oV:=sY.bk.o.ok;have SN:x.ev.kind=bu .merge:=cA we.kd;have lm:=@dB _ _ _ hb.m;obtain⟨lr,le,sb,gm⟩:=cH.fa sY;obtain⟨i1,d1⟩:=bO ow we 1 1 rfl De;obtain⟨i2,d2⟩:=bO ow we 2 2 rfl De;have k1:aL x.ev 1∈iC V.an:=nk.kn 1 3 rfl;have k2:aL x.ev 2∈iC V.an:=nk.kn 2 3 rfl;rw[Jl];generalize hR:xH 3=R;unfold FT fn226;simp only[ai.j,ai.s,ai.r,ai.dr,ai.tl,ai.hd];by_cases h1:aL x.ev 1=aL x.ev 2
 case pos=>
  have e1:decide (aL x.ev 1=aL x.ev 2)=true:=Z8 h1;refine pL (Q6 @t2 @t3 @t4 @t6 @le @lr @aS @bg @aG @bB @SN @iO @kF @jE @aaz @aaq @i1 @d1 @i2 @d2 @e1 @sb @gm) ?_;rw[bz,aai h1];exact J8
 have e1:decide (aL x.ev 1=aL x.ev 2)=false:=Z3 h1;refine pL (Q7 @t2 @t3 @t4 @t6 @le @lr @aS @bg @aG @bB @SN @iO @kF @jE @aaz @aaq @i1 @d1 @i2 @d2 @e1) ?_;refine WF.ce T.c264 (r264 T (oV.ext Xx) w.len k1) λg2=>?_
 obtain⟨Y1,Xo⟩:∃Z,Z=Y++g2:=⟨_,rfl⟩;rw[<-Xo];have hb:=hb.grow (show Ext Y Y1 from⟨g2,Xo⟩);have sY:=hb.rc s;have ow:=ox.ext sY.ex;have oV:=sY.bk.o.ok;have lm:=@dB _ _ _ hb.m;obtain⟨lr,le,sb,gm⟩:=cH.fa sY;have Tm:=hb.set [.str (aL x.ev 0),.str (iG V.an (aL x.ev 1)).gives,.str [],t];have kM:aX 1 (.ptr mb 1) (.str (iG V.an (aL x.ev 1)).gives) (λz=>Y1[z]?)=some (az,.set mb (.b [.str (aL x.ev 0),.str (iG V.an (aL x.ev 1)).gives,.str [],t])):=hb.st rfl (by show 1+1<=4;omega);refine Rs (A5 t2 t3 t4 t6 @kM) ?_;obtain⟨Y2,Vi⟩:∃Z,Z=Y1.set mb (.b [.str (aL x.ev 0),.str (iG V.an (aL x.ev 1)).gives,.str [],t]):=⟨_,rfl⟩
 rw[<-Vi]at Tm ⊢;have hb:=Tm;obtain⟨Y3,hY3⟩:∃Z,Z=Y2++[]:=⟨_,rfl⟩;rw[aaw]at hY3;rw[<-hY3];have hb:=hb.grow (show Ext Y2 Y3 from⟨[],by rw[aaw];exact hY3⟩);have sY:=hb.rc s;have ow:=ox.ext sY.ex;have oV:=sY.bk.o.ok;have lm:=@dB _ _ _ hb.m;obtain⟨lr,le,sb,gm⟩:=cH.fa sY;obtain⟨i1,d1⟩:=bO ow we 1 1 rfl De;obtain⟨i2,d2⟩:=bO ow we 2 2 rfl De;refine Rs (lI t2 t3 t4 t6 @le @lr @aS @bg @aG @i2 @d2) ?_;refine WF.ce T.c264 (r264 T (oV.ext Xx) w.len k2) λg3=>?_
 obtain⟨Y4,hY4⟩:∃Z,Z=Y3++g3:=⟨_,rfl⟩;rw[<-hY4];have hb:=hb.grow (show Ext Y3 Y4 from⟨g3,hY4⟩);have sY:=hb.rc s;have ow:=ox.ext sY.ex;have oV:=sY.bk.o.ok;have lm:=@dB _ _ _ hb.m;obtain⟨lr,le,sb,gm⟩:=cH.fa sY;by_cases h2:(iG V.an (aL x.ev 1)).gives=(iG V.an (aL x.ev 2)).gives
 case neg=>
  have e2:decide ((iG V.an (aL x.ev 2)).gives≠(iG V.an (aL x.ev 1)).gives)=true:=Z8 (λz=>h2 z.symm);refine Rs (mU t2 t3 t4 t6 @lm e2 @lr @aG @sb @gm) ?_;rw[bz,aab h1,aai h2];exact J8
 have e2:decide ((iG V.an (aL x.ev 2)).gives≠(iG V.an (aL x.ev 1)).gives)=false:=Z3 (λz=>z h2.symm);refine Rs (A6 t2 t3 t4 t6 @lm e2) ?_;rw[<-hR];have hc:bz V.an x.ev .merge=if 32<=V.an.aC.length then 5 else 0:=by rw[bz,aab h1,aab (λz=>z h2)]
 rw[hc];exact uQ T w s (y:=⟨aL x.ev 0,(iG V.an (aL x.ev 1)).gives,[],x.ev.names.drop 1⟩) hb rfl Sn (Sq t2) (Sq t4) (Sq t6)
omit T in
theorem GW(o:cK B.length X V)(hx:Ext B X):cH B X x V (X++[.b V.row]++[.b x.row]++[.b ki]) V:=by
 exact z20
def Dy{d}(hd:d=.source\/d=.gu\/d=.merge)(w:eS V.an)(ox:bh B x)(we:j8 x.ev d)(nk:sU V.an x.ev d)(s:cH B X x V W V)(hlen:ts.length=96)(t2:slot ts 2=.ptr X.length 0)(t3:slot ts 3=.ptr (X.length+1) 0)(t4:slot ts 4=.ptr (X.length+2) 0):
  WC P bJ (xH 1) [] ts W (FQ [(4,some (some 7)),(5,none)] (sS B X V (bz V.an x.ev d) (dF V.an x.ev d))):=by
 have ow:=ox.ext s.ex;have hn1:1<=x.ev.names.length:=by rw[we.nl];rcases hd with rfl|rfl|rfl<;>decide
 have hn3:x.ev.names.length<=3:=by rw[we.nl];rcases hd with rfl|rfl|rfl<;>decide
 have Wg:0<(bN d).length:=by rw[<-we.nl];exact hn1
 obtain⟨i0,d0⟩:=bO ow we 0 0 rfl Wg;obtain⟨lr,le,sb,gm⟩:=cH.fa s;obtain⟨s',es',SI⟩:=ow.n.Eg (lo:=some (.i 1)) (hi:=none) (mM (k:=1) hn1);have et:List.take (x.ev.names.length-1) (List.drop 1 x.ev.names)=x.ev.names.drop 1:=aaM Si;rw[et]at SI;rw[QL];generalize hR:xH 2=R;unfold FT fn226;simp only[ai.j,ai.s,ai.r,ai.dr,ai.tl,ai.hd];refine Rs (A8 t2 t3 t4 @le @aS @i0 @d0 @es') ?_;refine WR.pk (N:=W.length) (w:=16) ba (aah _) (SI.ext Xx) (by simp only[aaa,ach];omega) λt g f=>?_
 have ot:=f.aY.one;obtain⟨Y,hY⟩:∃Z,Z=W++[ak.b []]++g:=⟨_,rfl⟩;rw[<-hY]at f ⊢;have eY:Ext W Y:=by rw[hY,Z4];exact⟨_,rfl⟩
 refine Rs (A4 t2 t3 t4 @ot) ?_;have hb:vt B W (Y++[ak.b [AV.str (aL x.ev 0),.str [],.str [],t]]) Y.length [AV.str (aL x.ev 0),.str [],.str [],t] t (x.ev.names.drop 1):=by
  refine⟨λi hi=>?_,s.ex.len,eY.len,s.ex.trans (eY.trans ⟨_,rfl⟩),ba,f.app _,λi hi e=>?_⟩
  ·rw[Z7 (by have:=eY.len;omega),eY.get hi]
  ·have:=(f.bQ hi).2;omega
 rw[<-hR];rcases hd with rfl|rfl|rfl
 ·exact AX T w ox we nk s hb ot Sn (Sq t2) (Sq t3) (Sq t4) Sw
 ·exact FP T w ox we nk s hb ot Sn (Sq t2) (Sq t3) (Sq t4) Sw
 ·exact Dz T w ox we nk s hb ot Sn (Sq t2) (Sq t3) (Sq t4) Sw
def IT{d}(hd:d=.source\/d=.gu\/d=.merge)(o:cK B.length X V)(w:eS V.an)(hx:Ext B X)(ox:bh B x)(we:j8 x.ev d)(nk:sU V.an x.ev d):
  dA P 226 [.agg V.row,.agg x.row] X (sS B X V (bz V.an x.ev d) (dF V.an x.ev d)):=by
 refine .of T.mix (acv T.c226 (aax some QM)) ?_;obtain⟨ts,SH⟩:∃ts,ts=aW 96 [.agg V.row,.agg x.row]:=⟨_,rfl⟩;have hlen:ts.length=96:=by rw[SH];rfl
 have t0:slot ts 0=.agg V.row:=by rw[SH];rfl
 have t1:slot ts 1=.agg x.row:=by rw[SH];rfl
 show WC P bJ (.seq (FT 0) (xH 1)) [] (aW 96 [.agg V.row,.agg x.row]) X (FQ [(4,some (some 7)),(5,none)] (sS B X V (bz V.an x.ev d) (dF V.an x.ev d)));rw[<-SH];clear SH;have SG:=@aB.box _ _ o.ok;have hex:=@bh.box _ _ (ox.ext hx);have s:cH B X x V (X++[.b V.row]++[.b x.row]++[.b ki]) V:=GW o hx;unfold ki at s;generalize hR:xH 1=R;unfold FT fn226;simp only[ai.dr,ai.hd];refine Rs (A4 t0 t1 @SG @hex) ?_;rw[<-hR];exact Dy T hd w ox we nk s Sn Sw (by simp only[aO,aT,aZ,a8,reduceAdd,reduceMul,reduceLeDiff,reduceEqDiff,bd,hlen,aal,aan];simp) (by simp only[aO,aT,aZ,a8,reduceAdd,reduceMul,reduceLeDiff,reduceEqDiff,bd,hlen,aal,aan];simp)
end
def AQ(k:Nat):ai:=(fn227).body.dr k
def QC(k:Nat):ai:=((fn227).body.dr k).hd
def QB:fn227=⟨223,2,[(4,some (some 7)),(5,none)],.seq (QC 0) (AQ 1)⟩:=rfl
structure Q1(V:RV)(n:By)(p:Nat)(J:lH×AV):Prop where
 ps:p=bn (jg V.an) n
 lt:p<V.aF.length
 g:V.aF[p]? =some J
 e:J.1=gX V.an n
 m:J∈V.aF
 i:cV (λy:lH×AV=>decide (y.1.name=n)) V.aF=(p:Int)
def PT{V n}(hn:n∈jg V.an):∃p J,Q1 V n p J:=by
 have hlt:bn (jg V.an) n<V.aF.length:=by have:=cN hn;simpa [jg,RV.an]using this
 refine⟨_,V.aF[bn (jg V.an) n],rfl,hlt,Z6 hlt,?_,aad _,?_⟩
 ·rw[gX,de (f:=lH.name) (l:=V.an.aF) (d:=AA) hn];exact BB
 ·rw[iT];exact fp (f:=λy:lH×AV=>y.1.name) (by rw[<-iT];exact hn)
theorem Q1.at{V n p J}(j:Q1 V n p J):V.aF[p]'j.lt=J:=by
 have:=j.g;rw[Z6 j.lt]at this;exact aa0 this
section
variable {P:Program}(T:fq P) {B X W:ah}{ts:TS}{V:RV}{x:EV}
include T
def Jk(w:eS V.an)(ox:bh B x)(we:j8 x.ev .rel)(nk:sU V.an x.ev .rel)(s:cH B X x V W V)(hlen:ts.length=223)(t2:slot ts 2=.ptr X.length 0)(t3:slot ts 3=.ptr (X.length+1) 0)(t4:slot ts 4=.ptr (X.length+2) 0):
  WC P bJ (AQ 1) [] ts W (FQ [(4,some (some 7)),(5,none)] (sS B X V (bz V.an x.ev .rel) (dF V.an x.ev .rel))):=by
 have ow:=ox.ext s.ex;have oV:=s.bk.o.ok;have SN:x.ev.kind=bu .rel:=cA we.kd;obtain⟨lr,le,sb,gm⟩:=cH.fa s;obtain⟨i0,d0⟩:=bO ow we 0 0 rfl De;unfold AQ fn227;simp only[ai.j,ai.s,ai.r,ai.dr,ai.tl];have k0:aL x.ev 0∈lK V.an:=nk.kn 0 5 rfl;have hlt:bn (lK V.an) (aL x.ev 0)<V.aJ.length:=by have:=cN k0;simpa [lK,RV.an]using this
 have ei:cV (λy:qM=>decide (y.name=aL x.ev 0)) V.aJ=(bn (lK V.an) (aL x.ev 0):Int):=fp (f:=qM.name) k0;have sp:kC V.an (aL x.ev 0)=V.aJ[bn (lK V.an) (aL x.ev 0)]:=de k0;obtain⟨p,hp⟩:∃p,p=bn (lK V.an) (aL x.ev 0):=⟨_,rfl⟩;rw[<-hp]at ei;have hlt:p<V.aJ.length:=by rw[hp];exact hlt
 have sp:kC V.an (aL x.ev 0)=V.aJ[p]:=by rw[sp];congr 1;exact hp.symm
 refine pL (Bn @t2 @t3 @t4 @le @lr @bB @aS @bg @aG @SN @iI @aaz @aaq @i0 @d0) ?_;refine WF.ce T.c57 (r57 T (oV.ext Xx) w.len _) λg1=>?_
 rw[ei];obtain⟨W2,Te⟩:∃Z,Z=W++g1:=⟨_,rfl⟩;rw[<-Te];have Tb:cH B X x V W2 V:=by rw[Te];exact fw.grow s ⟨g1,rfl⟩
 have ow:=ox.ext Tb.ex;have oV:=Tb.bk.o.ok;obtain⟨lr,le,sb,gm⟩:=cH.fa Tb;have ix:bf 4 V.s5 (.i (p:Int))=some (cI V.s5 4 p,.ar):=oV.i5.c6 hlt;have l3:∀{k:ah},Ext W2 k->ao none (jF V.s5 4 p 3) (λb=>k[b]?)=some (.bool (kC V.an (aL x.ev 0)).rel,.ar):=λ{k} e=>by rw[sp];exact oV.i5.kT hlt rfl e
 cases h1:(kC V.an (aL x.ev 0)).rel with
 |true=>
  rw[h1]at l3;refine Rs (mU t2 t3 t4 ix @l3 @lr @aG @fL @sb @gm) ?_;rw[bz,aai h1];exact J9
 |false=>
  rw[h1]at l3;have Ud:bz V.an x.ev .rel=0:=by rw[bz,aab (by rw[h1];decide)]
  refine Rs (A7 t2 t3 t4 ix @l3 @lr @fL) ?_;refine WR.CI (B:=B) (x':={V.aJ[p]with rel:=true}) (row:=cD) Tb.bk.o.i5 Tb.ex hlt De rfl rfl ?_;intro W5 x5 l5 hff hk5;have s5:cH B X x V W5 {V with aJ:=V.aJ.set p {V.aJ[p]with rel:=true} }:=fw.q5 Tb hff (λi _ hne=>hk5 i hne) x5 Om;obtain⟨lr,_,sb,gm⟩:=cH.fa s5;refine Rs (A7 t2 t3 t4 @lr @aG @sb @gm) ?_;exact Kq
def Fw(w:eS V.an)(ox:bh B x)(we:j8 x.ev .gL)(nk:sU V.an x.ev .gL)(s:cH B X x V W V)(hlen:ts.length=223)(t2:slot ts 2=.ptr X.length 0)(t3:slot ts 3=.ptr (X.length+1) 0)(t4:slot ts 4=.ptr (X.length+2) 0):
  WC P bJ (AQ 1) [] ts W (FQ [(4,some (some 7)),(5,none)] (sS B X V (bz V.an x.ev .gL) (dF V.an x.ev .gL))):=by
 have ow:=ox.ext s.ex;have oV:=s.bk.o.ok;have SN:x.ev.kind=bu .gL:=cA we.kd;obtain⟨lr,le,sb,gm⟩:=cH.fa s;obtain⟨i0,d0⟩:=bO ow we 0 0 rfl De;obtain⟨i1,d1⟩:=bO ow we 1 1 rfl De;unfold AQ fn227;simp only[ai.j,ai.s,ai.r,ai.dr,ai.tl];have k1:aL x.ev 1∈jg V.an:=nk.kn 1 4 rfl;obtain⟨p,J,jx⟩:=PT k1;have ix:bf 3 V.s4 (.i (p:Int))=some (cI V.s4 3 p,.ar):=oV.i4.c6 jx.lt;refine pL (GD t2 t3 t4 @le @lr @bB @aS @bg @fc @aG @SN @iI @aaz @aaq @i1 @d1) ?_;refine WF.ce T.c56 (r56 T (oV.ext Xx) w.len _) λg1=>?_
 rw[jx.i];obtain⟨W2,Te⟩:∃Z,Z=W++g1:=⟨_,rfl⟩;rw[<-Te];have Tb:cH B X x V W2 V:=by rw[Te];exact fw.grow s ⟨g1,rfl⟩
 have ow:=ox.ext Tb.ex;have oV:=Tb.bk.o.ok;obtain⟨lr,le,sb,gm⟩:=cH.fa Tb;obtain⟨i0,d0⟩:=bO ow we 0 0 rfl De;obtain⟨i1,d1⟩:=bO ow we 1 1 rfl De;have ld:∀{k:ah},Ext W2 k->ao (some 3) (cI V.s4 3 p) (λb=>k[b]?)=some (.agg (bF J),.ar):=λ{k} e=>by rw[<-jx.at];exact oV.i4.gP jx.lt e
 have oJ:=oV.e4 J jx.m;have oJ1:=oJ.one;have hJ:=w.jb J.1 (aao jx.m);unfold bF at ld;refine Rs (A6 t2 t3 t4 ix @ld @oJ1) ?_;obtain⟨jb,hjb⟩:∃n,n=W2.length:=⟨_,rfl⟩;rw[<-hjb];obtain⟨W3,S4⟩:∃Z,Z=W2++[ak.b [AV.str J.1.name,.str J.1.mod,J.2]]:=⟨_,rfl⟩;rw[<-S4];have Ti:cH B X x V W3 V:=by rw[S4];exact fw.grow Tb ⟨[ak.b [AV.str J.1.name,.str J.1.mod,J.2]],rfl⟩
 have ow:=ox.ext Ti.ex;have oV:=Ti.bk.o.ok;obtain⟨lr,le,sb,gm⟩:=cH.fa Ti;obtain⟨i0,d0⟩:=bO ow we 0 0 rfl De;obtain⟨i1,d1⟩:=bO ow we 1 1 rfl De;have mj:W3[jb]? =some (.b [AV.str J.1.name,.str J.1.mod,J.2]):=by rw[S4,hjb];exact ba
 have lj:=@dB _ _ _ mj;have oJ:=oV.e4 J jx.m;refine Rs (lI t2 t3 t4 @le @lr @bB @aS @bg @aG @i1 @d1) ?_;refine WF.ce T.c265 (r265 T (oV.ext Xx) w.len _) λg2=>?_
 obtain⟨W4,TF⟩:∃Z,Z=W3++g2:=⟨_,rfl⟩;rw[<-TF];have Uz:cH B X x V W4 V:=by rw[TF];exact fw.grow Ti ⟨g2,rfl⟩
 have ow:=ox.ext Uz.ex;have oV:=Uz.bk.o.ok;obtain⟨lr,le,sb,gm⟩:=cH.fa Uz;obtain⟨i0,d0⟩:=bO ow we 0 0 rfl De;obtain⟨i1,d1⟩:=bO ow we 1 1 rfl De;have mj:=(show Ext W3 W4 from⟨g2,TF⟩).some mj;have lj:=@dB _ _ _ mj;have oJ:=oV.e4 J jx.m;cases h1:qH V.an (aL x.ev 1)with
 |true=>
  refine Rs (A7 t2 t3 t4 @lr @aG @sb @gm) ?_;rw[bz,aai h1];exact z152
 |false=>
 refine Rs (A5 t2 t3 t4 @lj @oJ1) ?_;refine WF.res T.c60 (r60 T (x:=J) (oJ.ext Xx) Om) ?_;rintro vl g3 Ty;obtain⟨W5,T3⟩:∃Z,Z=W4++g3:=⟨_,rfl⟩;rw[<-T3];have sW5:cH B X x V W5 V:=by rw[T3];exact fw.grow Uz ⟨g3,rfl⟩
 have ow:=ox.ext sW5.ex;have oV:=sW5.bk.o.ok;obtain⟨lr,le,sb,gm⟩:=cH.fa sW5;obtain⟨i0,d0⟩:=bO ow we 0 0 rfl De;obtain⟨i1,d1⟩:=bO ow we 1 1 rfl De;rw[<-T3]at Ty;have mj:=(show Ext W4 W5 from⟨g3,T3⟩).some mj;have lj:=@dB _ _ _ mj;have oJ:=oV.e4 J jx.m;rw[jx.e]at Ty;by_cases h2:cZ (gX V.an (aL x.ev 1)).bE 0=[]
 case neg=>
  have e2:decide ((0:Int)<((cZ (gX V.an (aL x.ev 1)).bE 0).length:Int))=true:=Z8 (by have:=abV.2 h2;omega);refine Rs (A9 t2 t3 t4 Ty.aH e2 @lr @aG @sb @gm) ?_;rw[bz,aab (by rw[h1];decide),aai h2];exact cH.fin sW5 (λz=>absurd z De)
 have e2:decide ((0:Int)<((cZ (gX V.an (aL x.ev 1)).bE 0).length:Int))=false:=Z3 (by rw[h2];decide);by_cases h3:16<=V.aJ.length
 case pos=>
  have e3:decide ((16:Int)<=(V.aJ.length:Int))=true:=Z8 Om;refine Rs (nT t2 t3 t4 Ty.aH e2 @lr @fL oV.i5.aH e3 @aG @sb @gm) ?_;rw[bz,aab (by rw[h1];decide),aab (λz=>z h2),aai (show 16<=V.an.aJ.length from h3)];exact cH.fin sW5 (λz=>absurd z De)
 have e3:decide ((16:Int)<=(V.aJ.length:Int))=false:=Z3 Om;have Ud:bz V.an x.ev .gL=0:=by rw[bz,aab (by rw[h1];decide),aab (λz=>z h2),aab (show ¬16<=V.an.aJ.length from h3)]
 refine Rs (HA t2 t3 t4 @le @lr @bB @aS @bg Ty.aH e2 @fL oV.i5.aH e3 @i0 @d0 @i1 @d1 @lj) ?_;refine WF.ce T.c31 (r31 T (oJ.ext Xx) Om hJ.2.2.2) λg4=>?_
 rw[jx.e];obtain⟨W6,UH⟩:∃Z,Z=W5++g4:=⟨_,rfl⟩;rw[<-UH];have XR:cH B X x V W6 V:=by rw[UH];exact fw.grow sW5 ⟨g4,rfl⟩
 have ow:=ox.ext XR.ex;have oV:=XR.bk.o.ok;obtain⟨lr,le,sb,gm⟩:=cH.fa XR;obtain⟨y,hy⟩:∃y:qM,y=⟨aL x.ev 0,aL x.ev 1,gE (gX V.an (aL x.ev 1)).bE,false⟩:=⟨_,rfl⟩;obtain⟨z,hz⟩:∃z:List AV,z=cD y:=⟨_,rfl⟩;have TH:[AV.str (aL x.ev 0),.str (aL x.ev 1),.i (gE (gX V.an (aL x.ev 1)).bE),.bool false]=z:=by rw[hz,hy];rfl
 refine Rs (A3 t2 t3 t4) ?_;rw[TH];refine WR.pn (B:=B) (cs:=V.aJ.map cD) (XR.bk.o.i5) (by rw[hz];rfl) XR.ex De (by rw[aaa];omega) ?_;intro W7 s' x5 hff hn5 q5 l5 hk5;have hrow:V.aJ.map cD++[z]=(V.aJ++[y]).map cD:=by rw[aae,hz];rfl
 rw[hrow]at hff;have s5:cH B X x V (W7.set X.length (.b (V.row.set 6 s'))) {V with aJ:=V.aJ++[y],s5:=s'}:=fw.p5 XR hff (λi hi=>.inr (acp (hn5 i hi))) hk5 x5 l5;have mB:W7[X.length]? =some (.b V.row):=(hk5 _ XR.bk.lt (λz=>XR.bk.ne (by rw[<-z];simp[RV.bl]))).trans XR.bk.m;have Tp:aX 1 (.ptr X.length 6) s' (λz=>W7[z]?)=some (az,.set X.length (.b (V.row.set 6 s'))):=(aK mB).trans (bP q5 (by show 6+1<=7;omega));refine Rs (A5 t2 t3 t4 @Tp q5) ?_;obtain⟨W8,hW8⟩:∃Z,Z=W7.set X.length (.b (V.row.set 6 s')):=⟨_,rfl⟩;rw[<-hW8]at s5 ⊢;obtain⟨lr,_,sb,gm⟩:=cH.fa s5;refine Rs (A7 t2 t3 t4 @lr @aG @sb @gm) ?_
 rw[Ud];exact cH.fin s5 (λ_=>by rw[hy];rfl)
def Fx(w:eS V.an)(ox:bh B x)(we:j8 x.ev .fail)(nk:sU V.an x.ev .fail)(s:cH B X x V W V)(hlen:ts.length=223)(t2:slot ts 2=.ptr X.length 0)(t3:slot ts 3=.ptr (X.length+1) 0)(t4:slot ts 4=.ptr (X.length+2) 0):
  WC P bJ (AQ 1) [] ts W (FQ [(4,some (some 7)),(5,none)] (sS B X V (bz V.an x.ev .fail) (dF V.an x.ev .fail))):=by
 have ow:=ox.ext s.ex;have oV:=s.bk.o.ok;have SN:x.ev.kind=bu .fail:=cA we.kd;obtain⟨lr,le,sb,gm⟩:=cH.fa s;obtain⟨i0,d0⟩:=bO ow we 0 0 rfl De;obtain⟨j1,f1,q1⟩:=cW ow we 1 1 rfl De;unfold AQ fn227;simp only[ai.j,ai.s,ai.r,ai.dr,ai.tl];have k0:aL x.ev 0∈jg V.an:=nk.kn 0 4 rfl;obtain⟨p,J,jx⟩:=PT k0;have ix:bf 3 V.s4 (.i (p:Int))=some (cI V.s4 3 p,.ar):=oV.i4.c6 jx.lt;refine pL (Bn t2 t3 t4 @le @lr @bB @aS @bg @aG @SN @iI @aaz @aaq @i0 @d0) ?_;refine WF.ce T.c56 (r56 T (oV.ext Xx) w.len _) λg1=>?_
 rw[jx.i];obtain⟨W2,Te⟩:∃Z,Z=W++g1:=⟨_,rfl⟩;rw[<-Te];have Tb:cH B X x V W2 V:=by rw[Te];exact fw.grow s ⟨g1,rfl⟩
 have ow:=ox.ext Tb.ex;have oV:=Tb.bk.o.ok;obtain⟨lr,le,sb,gm⟩:=cH.fa Tb;obtain⟨i0,d0⟩:=bO ow we 0 0 rfl De;obtain⟨j1,f1,q1⟩:=cW ow we 1 1 rfl De;refine Rs (lI t2 t3 t4 @le @lr @bB @aS @bg @aG @i0 @d0) ?_;refine WF.ce T.c265 (r265 T (oV.ext Xx) w.len _) λg2=>?_
 obtain⟨W3,S4⟩:∃Z,Z=W2++g2:=⟨_,rfl⟩;rw[<-S4];have Ti:cH B X x V W3 V:=by rw[S4];exact fw.grow Tb ⟨g2,rfl⟩
 have ow:=ox.ext Ti.ex;have oV:=Ti.bk.o.ok;obtain⟨lr,le,sb,gm⟩:=cH.fa Ti;obtain⟨i0,d0⟩:=bO ow we 0 0 rfl De;obtain⟨j1,f1,q1⟩:=cW ow we 1 1 rfl De;have oJ:=oV.e4 J jx.m;have l2:∀{k:ah},Ext W3 k->ao none (jF V.s4 3 p 2) (λb=>k[b]?)=some (J.2,.ar):=λ{k} e=>oV.i4.kT jx.lt (by rw[jx.at];rfl) e
 cases h1:qH V.an (aL x.ev 0)with
 |true=>
  refine Rs (A7 t2 t3 t4 @lr @aG @sb @gm) ?_;have hc:bz V.an x.ev .fail=23:=by
   exact KP
  rw[hc];exact D4
 |false=>
 by_cases h2:(J.1.bE.length:Int)<=bI x.ev 1
 case pos=>
  have e2:decide ((J.1.bE.length:Int)<=bI x.ev 1)=true:=Z8 h2;refine Rs (HA t2 t3 t4 @le @lr @bB @aS @bg @fc @aG @j1 @f1 ix @l2 oJ.aH e2 @sb @gm) ?_;have hc:bz V.an x.ev .fail=3:=by
   exact KY
  rw[hc];exact D4
 have e2:decide ((J.1.bE.length:Int)<=bI x.ev 1)=false:=Z3 h2;have hct:kh V.an x.ev=0:=by rw[kh,aab (by rw[h1];decide),<-jx.e,aab h2]
 have hsl:(bI x.ev 1).toNat<J.1.bE.length:=Om
 have Yo:bI x.ev 1=((bI x.ev 1).toNat:Int):=Om
 have iy:bf 1 J.2 (.i (bI x.ev 1))=some (cI J.2 1 (bI x.ev 1).toNat,.ar):=by
  rw[Yo];exact oJ.c6 hsl
 have hsu:fY V.an x.ev=J.1.bE[(bI x.ev 1).toNat]:=by
  exact z160
 have lv:∀{k:ah},Ext W3 k->ao none (cI J.2 1 (bI x.ev 1).toNat) (λb=>k[b]?)=some (.i (fY V.an x.ev),.ar):=λ{k} e=>by rw[hsu];exact oJ.lC hsl rfl e
 have Wk:cI J.2 1 (bI x.ev 1).toNat=jF J.2 1 (bI x.ev 1).toNat 0:=rfl;by_cases h3:fY V.an x.ev<0
 case pos=>
  have e3:decide (fY V.an x.ev<0)=true:=Z8 h3;exact RH
 have e3:decide (fY V.an x.ev<0)=false:=Z3 h3;have Ud:bz V.an x.ev .fail=0:=by rw[bz,aab (λz=>z hct),aab h3]
 repeat (first|simp (config:={maxSteps:=1000000}) only[aO,aT,aZ,a8,reduceAdd,reduceMul,reduceLeDiff,reduceEqDiff,bd,hlen,aal,aan,t2,t3,t4,le,lr,bB,aS,bg,aG,SN,iI,reduceCtorEq,aaz,aaq,fc,j1,f1,ix,l2,oJ.aH,e2,iy,lv,e3]|simp (config:={maxSteps:=1000000}) (disch:=first|(simp only[Z1,Z5,Z9]<;>omega)|rfl|omega|fail) only[dX,aO,aT,aZ,a8,reduceAdd,reduceMul,reduceLeDiff,reduceEqDiff,bd,hlen,aal,aan,t2,t3,t4,le,lr,bB,aS,bg,aG,SN,iI,reduceCtorEq,aaz,aaq,fc,j1,f1,ix,l2,oJ.aH,e2,iy,lv,e3])
 rw[Wk];have hfJ:Fr B.length W3 J.2 1 (J.1.bE.map aM):=Ti.bk.o.e4 J jx.m;refine WR.CI (B:=B) (x':=(-1:Int)) (row:=aM) (L:=J.1.bE) hfJ Ti.ex hsl De rfl rfl ?_;intro W5 x5 l5 hff hk5;have s5:cH B X x V W5 {V with aF:=V.aF.set p ({J.1 with bE:=J.1.bE.set (bI x.ev 1).toNat (-1:Int) },J.2) }:=by
  have ZI:(V.aF[p]'jx.lt).2=J.2:=by rw[jx.at]
  have:=fw.qJ Ti (W2:=W5) jx.lt (y:={J.1 with bE:=J.1.bE.set (bI x.ev 1).toNat (-1:Int) }) (by rw[jx.at];exact⟨rfl,rfl⟩) (by rw[ZI];exact hff) (λi _ hne=>hk5 i (by rw[<-ZI];exact hne)) x5 Om;rw[ZI]at this;exact this
 obtain⟨lr,_,sb,gm⟩:=cH.fa s5;refine Rs (A7 t2 t3 t4 @lr @aG @sb @gm) ?_;rw[Ud];refine cH.fin s5 (λ_=>?_);have e:nD V.an x.ev (-1:Int)=(V.aF.set p ({J.1 with bE:=J.1.bE.set (bI x.ev 1).toNat (-1:Int) },J.2)).map Prod.fst:=by
  rw[nD,<-jx.ps,<-jx.e,ab9];rfl
 rw[dF,e];rfl
def Fv(w:eS V.an)(ox:bh B x)(we:j8 x.ev .gp)(nk:sU V.an x.ev .gp)(s:cH B X x V W V)(hlen:ts.length=223)(t2:slot ts 2=.ptr X.length 0)(t3:slot ts 3=.ptr (X.length+1) 0)(t4:slot ts 4=.ptr (X.length+2) 0):
  WC P bJ (AQ 1) [] ts W (FQ [(4,some (some 7)),(5,none)] (sS B X V (bz V.an x.ev .gp) (dF V.an x.ev .gp))):=by
 have ow:=ox.ext s.ex;have oV:=s.bk.o.ok;have SN:x.ev.kind=bu .gp:=cA we.kd;obtain⟨lr,le,sb,gm⟩:=cH.fa s;obtain⟨i0,d0⟩:=bO ow we 0 0 rfl De;obtain⟨j1,f1,q1⟩:=cW ow we 1 1 rfl De;obtain⟨j2,f2,q2⟩:=cW ow we 2 2 rfl De;unfold AQ fn227;simp only[ai.j,ai.s,ai.r,ai.dr,ai.tl];have k0:aL x.ev 0∈jg V.an:=nk.kn 0 4 rfl;obtain⟨p,J,jx⟩:=PT k0;have ix:bf 3 V.s4 (.i (p:Int))=some (cI V.s4 3 p,.ar):=oV.i4.c6 jx.lt;refine pL (Bn t2 t3 t4 @le @lr @bB @aS @bg @aG @SN @iI @aaz @aaq @i0 @d0) ?_;refine WF.ce T.c56 (r56 T (oV.ext Xx) w.len _) λg1=>?_
 rw[jx.i];obtain⟨W2,Te⟩:∃Z,Z=W++g1:=⟨_,rfl⟩;rw[<-Te];have Tb:cH B X x V W2 V:=by rw[Te];exact fw.grow s ⟨g1,rfl⟩
 have ow:=ox.ext Tb.ex;have oV:=Tb.bk.o.ok;obtain⟨lr,le,sb,gm⟩:=cH.fa Tb;obtain⟨i0,d0⟩:=bO ow we 0 0 rfl De;obtain⟨j1,f1,q1⟩:=cW ow we 1 1 rfl De;obtain⟨j2,f2,q2⟩:=cW ow we 2 2 rfl De;refine Rs (lI t2 t3 t4 @le @lr @bB @aS @bg @aG @i0 @d0) ?_;refine WF.ce T.c265 (r265 T (oV.ext Xx) w.len _) λg2=>?_
 obtain⟨W3,S4⟩:∃Z,Z=W2++g2:=⟨_,rfl⟩;rw[<-S4];have Ti:cH B X x V W3 V:=by rw[S4];exact fw.grow Tb ⟨g2,rfl⟩
 have ow:=ox.ext Ti.ex;have oV:=Ti.bk.o.ok;obtain⟨lr,le,sb,gm⟩:=cH.fa Ti;obtain⟨i0,d0⟩:=bO ow we 0 0 rfl De;obtain⟨j1,f1,q1⟩:=cW ow we 1 1 rfl De;obtain⟨j2,f2,q2⟩:=cW ow we 2 2 rfl De;have oJ:=oV.e4 J jx.m;have l2:∀{k:ah},Ext W3 k->ao none (jF V.s4 3 p 2) (λb=>k[b]?)=some (J.2,.ar):=λ{k} e=>oV.i4.kT jx.lt (by rw[jx.at];rfl) e
 cases h1:qH V.an (aL x.ev 0)with
 |true=>
  refine Rs (A7 t2 t3 t4 @lr @aG @sb @gm) ?_;have hc:bz V.an x.ev .gp=23:=by
   exact KP
  rw[hc];exact D4
 |false=>
 by_cases h2:(J.1.bE.length:Int)<=bI x.ev 1
 case pos=>
  have e2:decide ((J.1.bE.length:Int)<=bI x.ev 1)=true:=Z8 h2;refine Rs (HA t2 t3 t4 @le @lr @bB @aS @bg @fc @aG @j1 @f1 ix @l2 oJ.aH e2 @sb @gm) ?_;have hc:bz V.an x.ev .gp=3:=by
   exact KY
  rw[hc];exact D4
 have e2:decide ((J.1.bE.length:Int)<=bI x.ev 1)=false:=Z3 h2;have hct:kh V.an x.ev=0:=by rw[kh,aab (by rw[h1];decide),<-jx.e,aab h2]
 have hsl:(bI x.ev 1).toNat<J.1.bE.length:=Om
 have Yo:bI x.ev 1=((bI x.ev 1).toNat:Int):=Om
 have iy:bf 1 J.2 (.i (bI x.ev 1))=some (cI J.2 1 (bI x.ev 1).toNat,.ar):=by
  rw[Yo];exact oJ.c6 hsl
 have hsu:fY V.an x.ev=J.1.bE[(bI x.ev 1).toNat]:=by
  exact z160
 have lv:∀{k:ah},Ext W3 k->ao none (cI J.2 1 (bI x.ev 1).toNat) (λb=>k[b]?)=some (.i (fY V.an x.ev),.ar):=λ{k} e=>by rw[hsu];exact oJ.lC hsl rfl e
 have Wk:cI J.2 1 (bI x.ev 1).toNat=jF J.2 1 (bI x.ev 1).toNat 0:=rfl;by_cases h3:0<=fY V.an x.ev
 case pos=>
  have e3:decide (0<=fY V.an x.ev)=true:=Z8 h3;exact RH
 have e3:decide (0<=fY V.an x.ev)=false:=Z3 h3;have Ud:bz V.an x.ev .gp=0:=by rw[bz,aab (λz=>z hct),aab h3]
 repeat (first|simp (config:={maxSteps:=1000000}) only[aO,aT,aZ,a8,reduceAdd,reduceMul,reduceLeDiff,reduceEqDiff,bd,hlen,aal,aan,t2,t3,t4,le,lr,bB,aS,bg,aG,SN,iI,reduceCtorEq,aaz,aaq,fc,j1,f1,j2,f2,ix,l2,oJ.aH,e2,iy,lv,e3]|simp (config:={maxSteps:=1000000}) (disch:=first|(simp only[Z1,Z5,Z9]<;>omega)|rfl|omega|fail) only[dX,aO,aT,aZ,a8,reduceAdd,reduceMul,reduceLeDiff,reduceEqDiff,bd,hlen,aal,aan,t2,t3,t4,le,lr,bB,aS,bg,aG,SN,iI,reduceCtorEq,aaz,aaq,fc,j1,f1,j2,f2,ix,l2,oJ.aH,e2,iy,lv,e3])
 rw[Wk];have hfJ:Fr B.length W3 J.2 1 (J.1.bE.map aM):=Ti.bk.o.e4 J jx.m;refine WR.CI (B:=B) (x':=(bI x.ev 2)) (row:=aM) (L:=J.1.bE) hfJ Ti.ex hsl De rfl rfl ?_;intro W5 x5 l5 hff hk5;have s5:cH B X x V W5 {V with aF:=V.aF.set p ({J.1 with bE:=J.1.bE.set (bI x.ev 1).toNat (bI x.ev 2) },J.2) }:=by
  have ZI:(V.aF[p]'jx.lt).2=J.2:=by rw[jx.at]
  have:=fw.qJ Ti (W2:=W5) jx.lt (y:={J.1 with bE:=J.1.bE.set (bI x.ev 1).toNat (bI x.ev 2) }) (by rw[jx.at];exact⟨rfl,rfl⟩) (by rw[ZI];exact hff) (λi _ hne=>hk5 i (by rw[<-ZI];exact hne)) x5 Om;rw[ZI]at this;exact this
 obtain⟨lr,_,sb,gm⟩:=cH.fa s5;refine Rs (A7 t2 t3 t4 @lr @aG @sb @gm) ?_;rw[Ud];refine cH.fin s5 (λ_=>?_);have e:nD V.an x.ev (bI x.ev 2)=(V.aF.set p ({J.1 with bE:=J.1.bE.set (bI x.ev 1).toNat (bI x.ev 2) },J.2)).map Prod.fst:=by
  rw[nD,<-jx.ps,<-jx.e,ab9];rfl
 rw[dF,e];rfl
end
structure SE(W Y:ah)(jb:Nat)(c:List AV)(t:AV)(k:Nat):Prop where
 l:W.length<=jb
 x:Ext W Y
 m:Y[jb]? =some (.b (c++[t]))
 f:Fr W.length Y t 1 ((List.replicate k (-1:Int)).map aM)
 n:sB t≠some jb
section
variable {P:Program}(T:fq P) {B X W:ah}{ts:TS}{V:RV}{x:EV}
include T
def Jj(w:eS V.an)(ox:bh B x)(we:j8 x.ev .run)(nk:sU V.an x.ev .run)(s:cH B X x V W V)(hlen:ts.length=223)(t2:slot ts 2=.ptr X.length 0)(t3:slot ts 3=.ptr (X.length+1) 0)(t4:slot ts 4=.ptr (X.length+2) 0):
  WC P bJ (AQ 1) [] ts W (FQ [(4,some (some 7)),(5,none)] (sS B X V (bz V.an x.ev .run) (dF V.an x.ev .run))):=by
 have ow:=ox.ext s.ex;have oV:=s.bk.o.ok;have SN:x.ev.kind=bu .run:=cA we.kd;obtain⟨lr,le,sb,gm⟩:=cH.fa s;obtain⟨i0,d0⟩:=bO ow we 0 0 rfl De;obtain⟨i1,d1⟩:=bO ow we 1 1 rfl De;obtain⟨j1,f1,q1⟩:=cW ow we 1 1 rfl De;unfold AQ fn227;simp only[ai.j,ai.s,ai.r,ai.dr,ai.tl];have k1:aL x.ev 1∈iC V.an:=nk.kn 1 3 rfl;refine pL (Bn t2 t3 t4 @le @lr @bB @aS @bg @aG @SN @iI @aaz @aaq @i1 @d1) ?_;refine WF.res T.c59 (r59 T (oV.ext Xx) w _) ?_;rintro ns g1 hns;obtain⟨W2,Te⟩:∃Z,Z=W++g1:=⟨_,rfl⟩;rw[<-Te];have Tb:cH B X x V W2 V:=by rw[Te];exact fw.grow s ⟨g1,rfl⟩
 have ow:=ox.ext Tb.ex;have oV:=Tb.bk.o.ok;obtain⟨lr,le,sb,gm⟩:=cH.fa Tb;rw[<-Te]at hns;obtain⟨S,hS⟩:∃S,S=jl V.an (aL x.ev 1):=⟨_,rfl⟩;rw[<-hS]at hns;have hSm:∀y∈S,y∈V.an.lines:=λy hy=>by rw[hS,jl]at hy;exact(aa6.1 hy).1
 have hSl:S.length<=16:=by
  have h1:S.length<=V.an.lines.length:=by rw[hS,jl];exact aaF _ _
  have:=w.l0;omega
 rw[abJ]at hns;refine Rs (A3 t2 t3 t4) ?_;refine WL.inv T.mix (λm ts h'=>∃(k:Nat) (g:ah),k<=S.length/\m=S.length-k/\h' =W2++g/\(∀y∈S.take k,y.acc=true)/\ts.length=223/\slot ts 2=.ptr X.length 0/\slot ts 3=.ptr (X.length+1) 0/\slot ts 4=.ptr (X.length+2) 0/\slot ts 6=ns/\slot ts 7=.i k) S.length
  ⟨0,[],Om,rfl,by rw[aaw],(λy hy=>by cases hy),Sn,(Sq t2),(Sq t3),(Sq t4),Sw,ga⟩ ?_
 clear t2 t3 t4 hlen;rintro _ ts _ ⟨k,g,hk,rfl,rfl,hsf,hlen,t2,t3,t4,t6,t7⟩;obtain⟨W3,S4⟩:∃Z,Z=W2++g:=⟨_,rfl⟩;rw[<-S4];have Ti:cH B X x V W3 V:=by rw[S4];exact fw.grow Tb ⟨g,rfl⟩
 have ow:=ox.ext Ti.ex;have oV:=Ti.bk.o.ok;obtain⟨lr,le,sb,gm⟩:=cH.fa Ti;have e23:Ext W2 W3:=⟨g,S4⟩;have hns:=hns.ext e23;by_cases TU:k<S.length
 ·have e3:decide ((k:Int)<S.length)=true:=Z8 Om;have e5:=wrapN (n:=k) Om;have iy:=hns.c6 (kk:=.i64) TU;obtain⟨y,hy⟩:∃y,y=S[k]:=⟨_,rfl⟩;have TM:y∈V.an.lines:=hSm y (by rw[hy];exact aad _);have lf:∀{kk:ah},Ext W3 kk->ao none (cI ns 1 k) (λb=>kk[b]?)=some (.str y.name,.ar):=λ{kk} e=>hns.lC TU (by rw[<-hy];rfl) e
  have Vq:y.name∈eP V.an:=aao TM;have hps:=cN Vq;have Up:bn (eP V.an) y.name<V.lines.length:=by simpa [eP,RV.an]using hps
  have iz:bf 3 V.s0 (.i ((bn (eP V.an) y.name:Nat):Int))=some (cI V.s0 3 (bn (eP V.an) y.name),.ar):=oV.i0.c6 Up;have huy:V.lines[bn (eP V.an) y.name]=y:=by
   have a1:cC V.an y.name=y:=qX w.n0.nd TM;rw[cC,de (f:=gN.name) (l:=V.an.lines) (d:=Az) Vq]at a1;exact a1
  have ly:∀{kk:ah},Ext W3 kk->ao none (jF V.s0 3 (bn (eP V.an) y.name) 2) (λb=>kk[b]?)=some (.bool y.acc,.ar):=λ{kk} e=>oV.i0.kT Up (by rw[huy];rfl) e
  refine Rs (nT t2 t3 t4 t6 t7 hns.aH e3 @lr @eJ @aG @iy @lf) ?_;refine WF.ce T.c28 (r28 T (oV.ext Xx) w.len _) λg3=>?_
  have ej:cV (λy':gN=>decide (y'.name=y.name)) V.lines=(bn (eP V.an) y.name:Int):=fp (f:=gN.name) Vq;rw[ej];cases h4:y.acc with
  |false=>
   rw[h4]at ly;refine Rs (nT t2 t3 t4 t6 t7 @iz @ly @aay @lr @aG @sb @gm) ?_;rw[bz,aai (by rw[<-hS];exact abx.2 ⟨y,by rw[hy];exact aad _,by rw[h4];rfl⟩)];exact cH.fin (fw.grow Ti ⟨g3,rfl⟩) (λz=>absurd z De)
  |true=>
   rw[h4]at ly;refine Rs (A9 t2 t3 t4 t6 t7 @iz @ly @aar e5) ?_;refine⟨_,Om,k+1,g++g3,Om,rfl,by rw[S4];simp only[Z4],?_,rfl⟩;intro y' hy';exact Rm
 have e3:decide ((k:Int)<S.length)=false:=Z3 Om;have e4:k=S.length:=Om
 rw[e4,aaI]at hsf;have hne:¬(jl V.an (aL x.ev 1)).any (λx=>!x.acc)=true:=by
  exact z154
 obtain⟨i0,d0⟩:=bO ow we 0 0 rfl De;obtain⟨i1,d1⟩:=bO ow we 1 1 rfl De;obtain⟨j1,f1,q1⟩:=cW ow we 1 1 rfl De;refine Rs (Bo t2 t3 t4 @le @lr @bB @aS @bg t6 t7 hns.aH e3 @j1 @f1) ?_;refine WF.ce T.c20 (r20 T _ _ _) λg4=>?_
 obtain⟨W4,TF⟩:∃Z,Z=W3++g4:=⟨_,rfl⟩;rw[<-TF];have Uz:cH B X x V W4 V:=by rw[TF];exact fw.grow Ti ⟨g4,rfl⟩
 have ow:=ox.ext Uz.ex;have oV:=Uz.bk.o.ok;obtain⟨lr,le,sb,gm⟩:=cH.fa Uz;obtain⟨i0,d0⟩:=bO ow we 0 0 rfl De;obtain⟨i1,d1⟩:=bO ow we 1 1 rfl De;obtain⟨j1,f1,q1⟩:=cW ow we 1 1 rfl De;by_cases h1:bj (bI x.ev 1) 1 32=0
 case neg=>
  have e1:decide (bj (bI x.ev 1) 1 32≠0)=true:=Z8 h1;refine Rs (A8 t2 t3 t4 e1 @lr @aG @sb @gm) ?_;rw[bz,aab hne,aai h1];exact z152
 have e1:decide (bj (bI x.ev 1) 1 32≠0)=false:=Z3 (λz=>z h1);have U9:V.an.aF.length=V.aF.length:=by simp[RV.an]
 by_cases h2:16<=V.aF.length
 case pos=>
  have e2:decide ((16:Int)<=(V.aF.length:Int))=true:=Z8 Om;refine Rs (lI t2 t3 t4 e1 @lr @fc oV.i4.aH e2 @aG @sb @gm) ?_;rw[bz,aab hne,aab (λz=>z h1),aai (by rw[U9];exact h2)];exact z152
 have e2:decide ((16:Int)<=(V.aF.length:Int))=false:=Z3 Om;have Ud:bz V.an x.ev .run=0:=by rw[bz,aab hne,aab (λz=>z h1),aab (by rw[U9];exact h2)]
 have hr:=iR (λz=>z h1);obtain⟨n,hn⟩:∃n:Nat,n=(bI x.ev 1).toNat:=⟨_,rfl⟩;have hnv:bI x.ev 1=(n:Int):=Om
 have hn32:n<=32:=Om
 obtain⟨jb,hjb⟩:∃n,n=W4.length:=⟨_,rfl⟩;refine Rs (GD t2 t3 t4 @le @lr @bB @aS @bg e1 @fc oV.i4.aH e2 @i0 @d0 @i1 @d1) ?_;rw[<-hjb];refine WL.inv T.mix (λm ts Y=>∃(k:Nat) (t:AV),k<=n/\m=n-k/\SE W4 Y jb [AV.str (aL x.ev 0),.str (aL x.ev 1)] t k/\ts.length=223/\slot ts 2=.ptr X.length 0/\slot ts 3=.ptr (X.length+1) 0/\slot ts 4=.ptr (X.length+2) 0/\slot ts 8=.ptr jb 0/\slot ts 9=.i k) n
  ⟨0,.af,Om,rfl,⟨Om,⟨_,rfl⟩,by rw[hjb];exact ba,.nil,by simp[sB]⟩,Sn,(Sq t2),(Sq t3),(Sq t4),Sw,ga⟩ ?_
 clear t2 t3 t4 t6 t7 hlen;rintro _ ts Y ⟨k',t,hk',rfl,hb,hlen,t2,t3,t4,t8,t9⟩;have sY:cH B X x V Y V:=fw.grow Uz hb.x;have ow:=ox.ext sY.ex;have oV:=sY.bk.o.ok;obtain⟨lr,le,sb,gm⟩:=cH.fa sY;obtain⟨j1,f1,q1⟩:=cW ow we 1 1 rfl De;have lj:=@dB _ _ _ hb.m;have ot:=hb.f.aY.one;have ZH:=(Z2.1 hb.m).1;by_cases hlt3:k'<n
 ·have e6:decide ((k':Int)<bI x.ev 1)=true:=Z8 Om;have e7:IntKind.i64.wrap ((k':Int)+1)=((k'+1:Nat):Int):=wrapN Om;refine Rs (Bo t2 t3 t4 @le @lr @bB @aS @bg t8 t9 @j1 @f1 e6 @lj) ?_;refine WR.pn (B:=W4) (cs:=(List.replicate k' (-1:Int)).map aM) hb.f rfl hb.x De (by simp only[aaa,abd];omega) ?_;intro W5 s' x5 hff hn5 q5 l5 hk5;have hrow:(List.replicate k' (-1:Int)).map aM++[[AV.i (-1)]]=(List.replicate (k'+1) (-1:Int)).map aM:=by rw[List.replicate_succ',aae];rfl
  rw[hrow]at hff;have m5:W5[jb]? =some (.b [AV.str (aL x.ev 0),.str (aL x.ev 1),t]):=(hk5 jb ZH hb.n).trans hb.m;have Tp:aX 1 (.ptr jb 2) s' (λz=>W5[z]?)=some (az,.set jb (.b [AV.str (aL x.ev 0),.str (aL x.ev 1),s'])):=(aK m5).trans (bP q5 (by show 2+1<=3;omega));have hs'j:∀i,sB s' =some i->i≠jb:=λi hi=>by have:=hn5 i hi;omega
  refine Rs (A8 t2 t3 t4 t8 t9 @Tp q5 e7) ?_;refine⟨_,Om,k'+1,s',Om,rfl,⟨hb.l,x5.iJ hb.l,aak Om,hff.aD λi hi=>aaj (abo (hs'j i hi)),λe=>hs'j _ e rfl⟩,rfl⟩
 ·have e6:decide ((k':Int)<bI x.ev 1)=false:=Z3 Om;have ekn:k' =n:=Om
  obtain⟨y,hy⟩:∃y:lH,y=⟨aL x.ev 0,aL x.ev 1,List.replicate n (-1)⟩:=⟨_,rfl⟩;obtain⟨z,hz⟩:∃z:List AV,z=bF (y,t):=⟨_,rfl⟩;have TH:[AV.str (aL x.ev 0),.str (aL x.ev 1),t]=z:=by rw[hz,hy];rfl
  have hbf:=hb.f;rw[ekn]at hbf;refine Rs (GD t2 t3 t4 @le @lr @bB @aS @bg t8 t9 @j1 @f1 e6 @fc @lj @ot) ?_;rw[TH];refine WR.pn (B:=B) (cs:=V.aF.map bF) (sY.bk.o.i4) (by rw[hz];rfl) sY.ex De (by rw[aaa];omega) ?_;intro W5 s' x5 hff hn5 q5 l5 hk5;have hrow:V.aF.map bF++[z]=(V.aF++[(y,t)]).map bF:=by rw[aae,hz];rfl
  rw[hrow]at hff;have hlW:W4.length<=Y.length:=hb.x.len;have bY:∀i,sB t=some i->sB V.s4≠some i:=λi hi e=>by
   have h1:=(hbf.bQ hi).1;have h2:=(Uz.bk.o.ep (b:=i) (by rw[<-e];simp[RV.bl])).2;omega
  have f5:Fr B.length W5 t 1 (y.bE.map aM):=by
   rw[hy];exact(hbf.aD λi hi=>hk5 i (hbf.bQ hi).2 (bY i hi)).low Uz.ex.len
  have s5:cH B X x V (W5.set X.length (.b (V.row.set 5 s'))) {V with aF:=V.aF++[(y,t)],s4:=s'}:=fw.p4 Uz hff f5 (λi hi=>.inr (by have:=hn5 i hi;omega)) (λi hi=>⟨(hbf.bQ hi).1,λe=>by have:=hn5 i e;have:=(hbf.bQ hi).2;omega⟩) (λi hi hne=>(hk5 i Om hne).trans (hb.x.get hi)) x5 Om;have mB:W5[X.length]? =some (.b V.row):=(hk5 _ sY.bk.lt (λz=>sY.bk.ne (by rw[<-z];simp[RV.bl]))).trans sY.bk.m;have Tp:aX 1 (.ptr X.length 5) s' (λz=>W5[z]?)=some (az,.set X.length (.b (V.row.set 5 s'))):=(aK mB).trans (bP q5 (by show 5+1<=7;omega));refine Rs (A7 t2 t3 t4 t8 t9 @Tp q5) ?_;obtain⟨W6,UH⟩:∃Z,Z=W5.set X.length (.b (V.row.set 5 s')):=⟨_,rfl⟩
  rw[<-UH]at s5 ⊢;obtain⟨lr,_,sb,gm⟩:=cH.fa s5;refine Rs (A9 t2 t3 t4 t8 t9 @lr @aG @sb @gm) ?_;rw[Ud];exact cH.fin s5 (λ_=>by simp only[RV.an,aae,aaX,abF,dF,hy,hn])
def C8{d}(hd:d=.run\/d=.gp\/d=.fail\/d=.gL\/d=.rel)(o:cK B.length X V)(w:eS V.an)(hx:Ext B X)(ox:bh B x)(we:j8 x.ev d)(nk:sU V.an x.ev d):
  dA P 227 [.agg V.row,.agg x.row] X (sS B X V (bz V.an x.ev d) (dF V.an x.ev d)):=by
 refine .of T.mix (acv T.c227 (aax some QB)) ?_;obtain⟨ts,SH⟩:∃ts,ts=aW 223 [.agg V.row,.agg x.row]:=⟨_,rfl⟩;have hlen:ts.length=223:=by rw[SH];rfl
 have t0:slot ts 0=.agg V.row:=by rw[SH];rfl
 have t1:slot ts 1=.agg x.row:=by rw[SH];rfl
 show WC P bJ (.seq (QC 0) (AQ 1)) [] (aW 223 [.agg V.row,.agg x.row]) X (FQ [(4,some (some 7)),(5,none)] (sS B X V (bz V.an x.ev d) (dF V.an x.ev d)));rw[<-SH];clear SH;have SG:=@aB.box _ _ o.ok;have hex:=@bh.box _ _ (ox.ext hx);have s:cH B X x V (X++[.b V.row]++[.b x.row]++[.b ki]) V:=GW o hx;unfold ki at s;generalize hR:AQ 1=R;unfold QC fn227;simp only[ai.dr,ai.hd];refine Rs (A4 t0 t1 @SG @hex) ?_;rw[<-hR];rcases hd with rfl|rfl|rfl|rfl|rfl
 ·exact Jj T w ox we nk s Sn Sw (by simp only[aO,aT,aZ,a8,reduceAdd,reduceMul,reduceLeDiff,reduceEqDiff,bd,hlen,aal,aan];simp) (by simp only[aO,aT,aZ,a8,reduceAdd,reduceMul,reduceLeDiff,reduceEqDiff,bd,hlen,aal,aan];simp)
 ·exact Fv T w ox we nk s Sn Sw (by simp only[aO,aT,aZ,a8,reduceAdd,reduceMul,reduceLeDiff,reduceEqDiff,bd,hlen,aal,aan];simp) (by simp only[aO,aT,aZ,a8,reduceAdd,reduceMul,reduceLeDiff,reduceEqDiff,bd,hlen,aal,aan];simp)
 ·exact Fx T w ox we nk s Sn Sw (by simp only[aO,aT,aZ,a8,reduceAdd,reduceMul,reduceLeDiff,reduceEqDiff,bd,hlen,aal,aan];simp) (by simp only[aO,aT,aZ,a8,reduceAdd,reduceMul,reduceLeDiff,reduceEqDiff,bd,hlen,aal,aan];simp)
 ·exact Fw T w ox we nk s Sn Sw (by simp only[aO,aT,aZ,a8,reduceAdd,reduceMul,reduceLeDiff,reduceEqDiff,bd,hlen,aal,aan];simp) (by simp only[aO,aT,aZ,a8,reduceAdd,reduceMul,reduceLeDiff,reduceEqDiff,bd,hlen,aal,aan];simp)
 ·exact Jk T w ox we nk s Sn Sw (by simp only[aO,aT,aZ,a8,reduceAdd,reduceMul,reduceLeDiff,reduceEqDiff,bd,hlen,aal,aan];simp) (by simp only[aO,aT,aZ,a8,reduceAdd,reduceMul,reduceLeDiff,reduceEqDiff,bd,hlen,aal,aan];simp)
end
def uT(k:Nat):ai:=(fn129).body.dr k
def DK(k:Nat):ai:=((fn129).body.dr k).hd
def QU:fn129=⟨63,2,[(4,some (some 7)),(5,none)],.seq (DK 0) (uT 1)⟩:=rfl
def Nj:uT 1=.seq (DK 1) (uT 2):=rfl
def QT:uT 2=.seq (DK 2) (uT 3):=rfl
def QS:uT 3=.seq (DK 3) (uT 4):=rfl
def QR:uT 4=.seq (DK 4) (uT 5):=rfl
def J5(h:ah)(c:Int)(R':dM):AV->ah->Prop:=λv k=>Ext h k/\∃V':RV,v=.dW [.agg V'.row,.i c]/\aB k V'/\(c=0->V'.an=R'/\∀i,some i∈V'.bl->h.length<=i)
def aB.JV{h:ah}{V:RV}(o:aB h V){W:ah}{b:Nat}(hz:W[b]? =some (.b ki)):aX 7 (.ptr b 0) (.agg V.row) (λz=>W[z]?)=some (az,.set b (.b V.row)):=by
 have h1:=@aK 7 b 0 (.agg V.row) (λz=>W[z]?) _ hz;have st:=@aB.st _ _ o;unfold ki at h1;rw[st]at h1;exact h1
def aB.R3{h:ah}{V U:RV}(o:aB h V){W:ah}{b:Nat}(hz:W[b]? =some (.b U.row)):aX 7 (.ptr b 0) (.agg V.row) (λz=>W[z]?)=some (az,.set b (.b V.row)):=by
 have h1:=@aK 7 b 0 (.agg V.row) (λz=>W[z]?) _ hz;rw[h1];exact o.st
def o7{W:ah}{b:Nat}{V:RV}(hb:b<W.length):ao (some 7) (.ptr b 0) (λz=>(W.set b (.b V.row))[z]?)=some (.agg V.row,.ar):=by
 rw[aA (aak hb)];rfl
section
variable {P:Program}(T:fq P) {h K:ah}{ts:TS}{V U:RV}{x:EV}
include T
def Jy{d:Kd}{ob:Nat}{c:Int}{R':dM}(we:j8 x.ev d)(hd:d≠.dR)(ox:bh h x)(hx:Ext h K)(hob:h.length+2<ob)(mo:K[ob]? =some (.b U.row))(me:K[h.length+1]? =some (.b x.row))(mr:K[h.length+2]? =some (.b ki))
  (oU:aB K U) (hU:∀i,some i∈U.bl->h.length+2<i/\i≠ob) (hc:c=0->{U.an with tick:=bI x.ev 0} =R') (hlen:ts.length=63) (t3:slot ts 3=.ptr (h.length+1) 0) (t4:slot ts 4=.ptr (h.length+2) 0) (t7:slot ts 7=.ptr ob 0) (t8:slot ts 8=.i c):
  WC P bJ (uT 5) [] ts K (FQ [(4,some (some 7)),(5,none)] (J5 h c R')):=by
 have:=T.mix;have hv0:0<cF d:=by cases d<;>first|exact absurd rfl hd|decide
 have ow:=ox.ext hx;obtain⟨j0,f0,_⟩:=cW ow we 0 0 rfl hv0;have le:=@dB _ _ _ me;obtain⟨V2,hV2⟩:∃V2:RV,V2={U with tick:=bI x.ev 0}:=⟨_,rfl⟩;have hrow:U.row.set 0 (.i (bI x.ev 0))=V2.row:=by rw[hV2];rfl
 have sbo:aX 1 (.ptr ob 0) (.i (bI x.ev 0)) (λz=>K[z]?)=some (az,.set ob (.b V2.row)):=by
  rw[<-hrow];exact(aK mo).trans (bP rfl (by show 0+1<=7;omega))
 unfold uT fn129 gA;simp only[ai.j,ai.s,ai.r,ai.dr,ai.tl];refine Rs (A9 t3 t4 t7 t8 @le @bg @j0 @f0 @sbo) ?_;have hbo:=(Z2.1 mo).1;have hbr:=(Z2.1 mr).1;obtain⟨K1,U7⟩:∃Z,Z=K.set ob (.b V2.row):=⟨_,rfl⟩;rw[<-U7];have mo1:K1[ob]? =some (.b V2.row):=by rw[U7];exact aak hbo
 have mr1:K1[h.length+2]? =some (.b ki):=by rw[U7,aaj Om];exact mr
 have l1:K1.length=K.length:=by rw[U7,aaL]
 have lo:=@dB _ _ _ mo1;have oV:aB K V2:=by rw[hV2];exact⟨oU.i0,oU.i1,oU.i2,oU.i3,oU.i4,oU.i5,oU.e2,oU.e3,oU.e4⟩
 have sb:=oV.JV mr1;have gm:=o7 (W:=K1) (b:=h.length+2) (V:=V2) Om;refine Rs (A8 t3 t4 t7 t8 @lo @aG @sb @gm) ?_;refine⟨?_,V2,rfl,oV.ar λi hi=>?_,λz=>⟨by rw[<-hc z,hV2];rfl,λi hi=>?_⟩⟩
 ·rw[U7];exact(hx.iJ Om).iJ Om
 ·have:some i∈U.bl:=by rw[hV2]at hi;exact hi
  have:=hU i this;rw[aaj Om,U7,aaj Om]
 ·have:some i∈U.bl:=by rw[hV2]at hi;exact hi
  have:=hU i this;omega
def Ni{d:Kd}{B X:ah}{ob:Nat}(we:j8 x.ev d)(hd:d≠.dR)(nk:sU U.an x.ev d)(w:eS U.an)(ox:bh h x)(hB:Ext h B)(hx:Ext B X)(hob:ob<X.length)(hbo:B.length<=ob)(hBl:h.length+3<=B.length)(mo:X[ob]? =some (.b U.row))(me:B[h.length+1]? =some (.b x.row))(mr:B[h.length+2]? =some (.b ki))
  (o:cK B.length X U) (hU:some ob∉U.bl) (hlen:ts.length=63) (t3:slot ts 3=.ptr (h.length+1) 0) (t4:slot ts 4=.ptr (h.length+2) 0) (t7:slot ts 7=.ptr ob 0):
  WC P bJ (uT 4) [] ts X (FQ [(4,some (some 7)),(5,none)] (J5 h (bz U.an x.ev d) (fQ U.an x.ev d))):=by
 have SN:x.ev.kind=bu d:=cA we.kd;have le:∀{k n a},Ext X k->ao n (.ptr (h.length+1) a) (λz=>k[z]?)=dG n a (.b x.row):=λ{_ _ _} e=>aA ((hx.trans e).some me)
 have lo:=@dB _ _ _ mo;have oB:=ox.ext hB;rw[QR];generalize hR:uT 5=R;unfold DK fn129 gA;simp only[ai.j,ai.s,ai.r,ai.dr,ai.tl,ai.hd];have fin:∀{v:AV}{k:ah},sS B X U (bz U.an x.ev d) (dF U.an x.ev d) v k->∃V2:RV,v=.dW [.agg V2.row,.i (bz U.an x.ev d)]/\aX 7 (.ptr ob 0) (.agg V2.row) (λz=>k[z]?)=some (az,.set ob (.b V2.row))/\
   (∀ts':TS,ts'.length=63->slot ts' 3=.ptr (h.length+1) 0->slot ts' 4=.ptr (h.length+2) 0->slot ts' 7=.ptr ob 0->slot ts' 8=.i (bz U.an x.ev d)->WC P bJ R [] ts' (k.set ob (.b V2.row)) (FQ [(4,some (some 7)),(5,none)] (J5 h (bz U.an x.ev d) (fQ U.an x.ev d)))):=by
  rintro v k ⟨x1,hl,hfr,V2,rfl,o2,hc,hlo⟩;have mo2:k[ob]? =some (.b U.row):=(hfr ob hob hU).trans mo;have hV2:∀i,some i∈V2.bl->B.length<=i/\i≠ob:=λi hi=>⟨(o2.ep hi).1,λe=>by
   subst e;rcases hlo _ hi with z|z
   ·exact hU z
   ·omega⟩
  refine⟨V2,rfl,o2.ok.R3 mo2,λts' SP u3 u4 u7 u8=>?_⟩;rw[<-hR];refine Jy T we hd ox ((hB.trans x1).iJ Om) Om (aak (Z2.1 mo2).1) ?_ ?_ (o2.ok.ar λi hi=>?_) (λi hi=>?_) (λz=>?_) SP u3 u4 u7 u8
  ·rw[aaj Om];exact x1.some me
  ·rw[aaj Om];exact x1.some mr
  ·rw[aaj (abo (hV2 i hi).2)]
  ·have:=hV2 i hi;exact⟨Om,this.2⟩
  ·rw[hc z];rfl
 cases d with
 |dR=>exact absurd rfl hd
 |line=>
  refine pL (nT @t3 @t4 @t7 @le @lo @bB @bR @aG @SN @iI @aaz @aaq) ?_;refine WF.gen T.c225 (C9 T (d:=.line) De o w hx oB we nk) ?_;intro v k hv;exact z3
 |tape=>
  refine pL (nT @t3 @t4 @t7 @le @lo @bB @bR @aG @SN @iI @aaz @aaq) ?_;refine WF.gen T.c225 (C9 T (d:=.tape) De o w hx oB we nk) ?_;intro v k hv;exact z3
 |gK=>
  refine pL (nT @t3 @t4 @t7 @le @lo @bB @bR @aG @SN @iI @aaz @aaq) ?_;refine WF.gen T.c225 (C9 T (d:=.gK) De o w hx oB we nk) ?_;intro v k hv;exact z3
 |copy=>
  refine pL (nT @t3 @t4 @t7 @le @lo @bB @bR @aG @SN @iI @aaz @aaq) ?_;refine WF.gen T.c225 (C9 T (d:=.copy) De o w hx oB we nk) ?_;intro v k hv;exact z3
 |accept=>
  refine pL (nT @t3 @t4 @t7 @le @lo @bB @bR @aG @SN @iI @aaz @aaq) ?_;refine WF.gen T.c225 (C9 T (d:=.accept) De o w hx oB we nk) ?_;intro v k hv;exact z3
 |source=>
  refine pL (nT @t3 @t4 @t7 @le @lo @bB @bR @aG @SN @iI @aaz @aaq) ?_;refine WF.gen T.c226 (IT T (d:=.source) De o w hx oB we nk) ?_;intro v k hv;exact z3
 |gu=>
  refine pL (nT @t3 @t4 @t7 @le @lo @bB @bR @aG @SN @iI @aaz @aaq) ?_;refine WF.gen T.c226 (IT T (d:=.gu) De o w hx oB we nk) ?_;intro v k hv;exact z3
 |merge=>
  refine pL (nT @t3 @t4 @t7 @le @lo @bB @bR @aG @SN @iI @aaz @aaq) ?_;refine WF.gen T.c226 (IT T (d:=.merge) De o w hx oB we nk) ?_;intro v k hv;exact z3
 |run=>
  refine pL (nT @t3 @t4 @t7 @le @lo @bB @bR @aG @SN @iI @aaz @aaq) ?_;refine WF.gen T.c227 (C8 T (d:=.run) De o w hx oB we nk) ?_;intro v k hv;exact z3
 |gp=>
  refine pL (nT @t3 @t4 @t7 @le @lo @bB @bR @aG @SN @iI @aaz @aaq) ?_;refine WF.gen T.c227 (C8 T (d:=.gp) De o w hx oB we nk) ?_;intro v k hv;exact z3
 |fail=>
  refine pL (nT @t3 @t4 @t7 @le @lo @bB @bR @aG @SN @iI @aaz @aaq) ?_;refine WF.gen T.c227 (C8 T (d:=.fail) De o w hx oB we nk) ?_;intro v k hv;exact z3
 |gL=>
  refine pL (nT @t3 @t4 @t7 @le @lo @bB @bR @aG @SN @iI @aaz @aaq) ?_;refine WF.gen T.c227 (C8 T (d:=.gL) De o w hx oB we nk) ?_;intro v k hv;exact z3
 |rel=>
  refine pL (nT @t3 @t4 @t7 @le @lo @bB @bR @aG @SN @iI @aaz @aaq) ?_;refine WF.gen T.c227 (C8 T (d:=.rel) De o w hx oB we nk) ?_;intro v k hv;exact z3
def Jx{d:Kd}{H:ah}(hH:H=h++[ak.b V.row]++[.b x.row]++[.b ki])(o:aB h V)(w:eS V.an)(ox:bh h x)(we:j8 x.ev d)(hd:d≠.dR)(hlen:ts.length=63)(t2:slot ts 2=.ptr h.length 0)(t3:slot ts 3=.ptr (h.length+1) 0)(t4:slot ts 4=.ptr (h.length+2) 0):
  WC P bJ (uT 1) [] ts H (FQ [(4,some (some 7)),(5,none)] (J5 h (fD V.an x.ev d) (fQ V.an x.ev d))):=by
 have hv0:0<cF d:=by cases d<;>first|exact absurd rfl hd|decide
 have Tj:Ext h H:=by rw[hH];exact Xx
 have Wp:H.length=h.length+3:=by rw[hH];simp
 have mV:H[h.length]? =some (.b V.row):=by rw[hH];simp
 have me:H[h.length+1]? =some (.b x.row):=by rw[hH];simp
 have mr:H[h.length+2]? =some (.b ki):=by rw[hH];simp
 clear hH;have ow:=ox.ext Tj;have oW:=o.ext Tj;obtain⟨j0,f0,_⟩:=cW ow we 0 0 rfl hv0;have lr:=@dB _ _ _ mV;have le:=@dB _ _ _ me;have sb:∀{k},Ext H k->aX 7 (.ptr (h.length+2) 0) (.agg V.row) (λz=>k[z]?)=some (az,.set (h.length+2) (.b V.row)):=λ{_} e=>(o.ext (Tj.trans e)).JV (e.some mr)
 have gm:∀{k},Ext H k->ao (some 7) (.ptr (h.length+2) 0) (λz=>(k.set (h.length+2) (.b V.row))[z]?)=some (.agg V.row,.ar):=λ{_} e=>o7 (by have:=e.len;omega)
 have ZY:∀{k:ah}{c:Int},Ext H k->fD V.an x.ev d=c->c≠0->J5 h (fD V.an x.ev d) (fQ V.an x.ev d) (.dW [.agg V.row,.i c]) (k.set (h.length+2) (.b V.row)):=by
  intro k c e hc h0;refine⟨(Tj.trans e).iJ Om,V,by rw[hc],?_,λz=>absurd (hc.symm.trans z) h0⟩;exact o.sub λb c' mu tl hb=>by
   have hlt:=(Z2.1 hb).1;rw[aaj Om];exact(Tj.trans e).some hb
 by_cases h1:bI x.ev 0<V.an.tick
 ·have e1:decide (bI x.ev 0<V.tick)=true:=Z8 h1;rw[Nj];generalize hR:uT 2=R;unfold DK fn129 gA;simp only[ai.j,ai.s,ai.r,ai.dr,ai.tl,ai.hd];refine Rs (D3 t2 t3 t4 @le @lr @bg @mZ @aG @j0 @f0 e1 @sb @gm) ?_;exact ZY (.refl _) (by rw[fD,aai h1]) De
 have e1:decide (bI x.ev 0<V.tick)=false:=Z3 h1;rw[Nj,QT];generalize hR:uT 3=R;unfold DK fn129 gA;simp only[ai.j,ai.s,ai.r,ai.dr,ai.tl,ai.hd];refine Rs (nT t2 t3 t4 @le @lr @bg @bR @mZ @aG @j0 @f0 e1) ?_;refine WF.ce T.c223 (r223 T (d:=d) (oW.ext Xx) w.len (ow.ext Xx) we) λg1=>?_
 by_cases h2:ka d V.an x.ev=0
 case neg=>
  have e2:decide (ka d V.an x.ev≠0)=true:=Z8 h2;refine Rs (A8 t2 t3 t4 e2 @lr @aG @sb @gm) ?_;have ef:=ZY (k:=H++g1) (c:=ka d V.an x.ev) ⟨g1,rfl⟩ (by rw[fD,aab h1,aai h2]) h2;rw[List.set_append_left _ _ Om]at ef;exact ef
 have e2:decide (ka d V.an x.ev≠0)=false:=Z3 (λz=>z h2);have hes:fD V.an x.ev d=bz V.an x.ev d:=by rw[fD,aab h1,aab (λz=>z h2)]
 rw[hes];refine Rs (A4 t2 t3 t4 e2) ?_;rw[<-hR];obtain⟨B,hB⟩:∃B,B=H++g1:=⟨_,rfl⟩;rw[<-hB];have eB:Ext H B:=⟨g1,hB⟩;have lr:∀{k n a},Ext B k->ao n (.ptr h.length a) (λz=>k[z]?)=dG n a (.b V.row):=λ{_ _ _} e=>aA (e.some (eB.some mV))
 clear sb gm ZY le f0 j0 e1 e2;rw[QS];generalize hR:uT 4=R;unfold DK fn129 gA;simp only[ai.j,ai.s,ai.r,ai.dr,ai.tl,ai.hd];refine Rs (A5 t2 t3 t4 @lr @aG) ?_;refine WF.res T.c224 (r224 T (oW.ext eB) w) ?_;rintro _ g2 ⟨U,hU,rfl,own⟩;have SG:=@aB.box _ _ own.ok;have st:=@aB.st _ _ own.ok;refine Rs (A5 t2 t3 t4 @SG @st) ?_;obtain⟨X0,hX0⟩:∃Z,Z=B++g2:=⟨_,rfl⟩;rw[<-hX0]at own ⊢;have e0:Ext B X0:=⟨g2,hX0⟩;rw[<-hR,<-hU];refine Ni T (ob:=X0.length) we hd (by rw[hU];exact wg h2) (by rw[hU];exact w) ox (Tj.trans eB) (e0.trans ⟨_,rfl⟩) Si e0.len (by have:=eB.len;omega) ba (eB.some me) (eB.some mr) (own.app _) (λhi=>?_) Sn (Sq t3) (Sq t4) Sw
 have:=(own.ep hi).2;omega
def r129{d}(o:aB h V)(w:eS V.an)(ox:bh h x)(we:j8 x.ev d)(hd:d≠.dR):ay P 129 [.agg V.row,.agg x.row] h (λv k=>∃V':RV,v=.dW [.agg V'.row,.i (fD V.an x.ev d)]/\aB k V'/\(fD V.an x.ev d=0->V'.an=fQ V.an x.ev d/\∀i,some i∈V'.bl->h.length<=i)):=by
 refine .of T.mix (acv T.c129 (aax some QU)) ?_;obtain⟨ts,SH⟩:∃ts,ts=aW 63 [.agg V.row,.agg x.row]:=⟨_,rfl⟩;have hlen:ts.length=63:=by rw[SH];rfl
 have t0:slot ts 0=.agg V.row:=by rw[SH];rfl
 have t1:slot ts 1=.agg x.row:=by rw[SH];rfl
 show WC P bJ (.seq (DK 0) (uT 1)) [] (aW 63 [.agg V.row,.agg x.row]) h (FQ [(4,some (some 7)),(5,none)] (J5 h (fD V.an x.ev d) (fQ V.an x.ev d)));rw[<-SH];clear SH;have SG:=@aB.box _ _ o;have hex:=@bh.box _ _ ox;generalize hR:uT 1=R;unfold DK fn129 gA;simp only[ai.dr,ai.hd];refine Rs (A4 t0 t1 @SG @hex) ?_;rw[<-hR];exact Jx T rfl o w ox we hd Sn Sw (by simp only[aO,aT,aZ,a8,reduceAdd,reduceMul,reduceLeDiff,reduceEqDiff,bd,hlen,aal,aan];simp) (by simp only[aO,aT,aZ,a8,reduceAdd,reduceMul,reduceLeDiff,reduceEqDiff,bd,hlen,aal,aan];simp)
end
end Go.Abs
