/- A part of the proof that HouseSessions holds. No condition. -/
import Derived.Test.YtgplmdgpmbegiaaGreatDoorSe8
import Derived.Test.YtgplmdgpmbegiaaGreatDoorSe7
import Derived.Laws.Externs
import Derived.Shelf.Strconv.Itoa3
import Derived.Shelf.Strconv.Atoi
import Derived.Lib.AtoiErrMem
import Derived.Test.YtgplmdgpmbegiaaGreatDoorSe1
import Derived.Test.YtgplmdgpmbegiaaGreatDoorSe2
import Derived.Test.YtgplmdgpmbegiaaGreatDoorSe5
import Derived.Test.YtgplmdgpmbegiaaGreatDoorSe6
import Derived.ChangeArms
import Derived.Deep.Slices
import Derived.WideShapes
import Derived.ChangeShapes
import Derived.ChangeMaps5
import Derived.OpenShut
import Derived.Carry
import Derived.ChangeSame
import Derived.RowKit
import Derived.ProofKit
import Derived.LaidMore
import Derived.Lay
import Derived.SevenTiedAt
import Derived.Stop.Joined
import Derived.Test.YtgplmdgpmbegiaaGreatDoorRows
import Derived.Test.YtgplmdgpmbegiaaGreatDoorTie
import Derived.Test.YtgplmdgpmbegiaaGreatDoorCards
import Derived.Test.YtgplmdgpmbegiaaGreatDoorSe0
set_option maxHeartbeats 4000000
set_option linter.all false
open Nat (reduceAdd reduceMul reduceLeDiff reduceEqDiff)
namespace Go.Abs
theorem pW{c}:∀{s},(cK c s).2.2=true->s=(cK c s).1++c:: (cK c s).2.1
 |[],h=>by cases h
 |x::r,h=>by
  rw[cK]at h ⊢;split
  ·rename_i e;rw[e];rfl
  ·rename_i e;rw[ZW e]at h;exact aan (x::·) (pW (s:=r) h)
set_option maxRecDepth 10000
attribute [local irreducible] WP WC WE WB WR WF WL WG fR WQ
section
variable {P:Program}(T:fD P) {h:ah}
include T
def r37(X:xX P)(Z:nj P)(w:Pw h)(s:By)(hsl:s.length<=2^37):ay P 37 [.str s] h (λv k=>∃(L':List EV) (s':AV),L'.map EV.ev=(cj s).1/\v=.dz [s',.i (cj s).2.1,.i (cj s).2.2]/\Fr h.length k s' 5 (L'.map EV.row)/\∀x∈L',As h.length k s' x):=by
 refine .jd 55 T.mix T.c37 ?_;intro ts hlen t0;unfold fn37 gA;by_cases h6:1000000<s.length
 ·exact Rg
 have d1:decide ((1000000:Int)<s.length)=false:=ZN Om;have hrs:cj s=jf (s.length+1) s [] 0:=ZW h6;refine Rs (A2 t0 @d1) ?_;refine WL.inv T.mix (λn ts h'=>∃(a f:Nat) (out:AV) (L':List EV) (g:ah),a<=s.length/\n=s.length-a/\h' =h++g/\L'.length<=a/\cj s=jf (f+1) (s.drop a) (L'.map EV.ev) a/\s.length-a<=f/\Fr h.length (h++g) out 5 (L'.map EV.row)/\(∀x∈L',As h.length (h++g) out x)/\
   ts.length=55/\slot ts 0=.str s/\slot ts 5=out/\slot ts 6=.i a) s.length
  ⟨0,s.length,.af,[],[],Om,rfl,Si,Z0 _,hrs,Om,.nil,(λx hx=>by cases hx),Sn,(Sq t0),Sw,gf⟩ ?_
 rintro _ ts _ ⟨a,f,out,L',g,ha,rfl,rfl,hLa,SD,hf,hfr,hin,hlen,t0,t5,t6⟩;by_cases hlt:a<s.length
 ·have e3:decide ((a:Int)<s.length)=true:=ZR Om;have hne:s.drop a≠[]:=λe=>by have:=aan List.length e;rw[aa7]at this;simp at this;omega
  obtain⟨f',rfl⟩:∃f',f=f'+1:=⟨f-1,Om⟩;rw[jf,ZW hne]at SD;have hdl:(s.drop a).length=s.length-a:=aa7;have hcl:=oZ (c:=10) (s:=s.drop a)
  repeat (first|simp (config:={maxSteps:=1000000}) only[aQ,aR,aX,aY,reduceAdd,reduceMul,reduceLeDiff,reduceEqDiff,bd,hlen,Z3,Z7,t0,t5,t6,e3,gP (show a<=s.length by omega)]|simp (config:={maxSteps:=1000000}) (disch:=first|(simp only[ZL,ZP,ZT]<;>omega)|rfl|omega|fail) only[eD,aQ,aR,aX,aY,reduceAdd,reduceMul,reduceLeDiff,reduceEqDiff,bd,hlen,Z3,Z7,t0,t5,t6,e3,gP (show a<=s.length by omega)])
  refine WF.ce T.c98 (r98 T X (s.drop a) 10 Om) λg1=>?_
  have hsp:=pW (c:=10) (s:=s.drop a);generalize (cK 10 (s.drop a)).1=ln at SD hcl hsp ⊢;generalize (cK 10 (s.drop a)).2.1=rest at SD hcl hsp ⊢;cases hwh:(cK 10 (s.drop a)).2.2 with
  |false=>
   rw[hwh]at SD;refine Rs (A4 t0 t5 t6 @aai) ?_;rw[SD];exact⟨L',_,rfl,rfl,hfr.app g1,λx hx=>(hin x hx).app g1⟩
  |true=>
  rw[hwh]at SD;have hsp:=hsp hwh;have TF:(s.drop a).length=ln.length+(rest.length+1):=by rw[hsp];simp
  have Tb:rest=s.drop (a+ln.length+1):=by
   have:(s.drop a).drop (ln.length+1)=rest:=by rw[hsp,<-abk];simp
   rw[<-this,abk];congr 1
  have w1:IntKind.i64.wrap (((L'.map EV.row).length:Int)+1)=(L'.length:Int)+1:=by rw[ZU];exact aZ Om Om
  have w1':IntKind.i64.wrap ((L'.length:Int)+1)=(L'.length:Int)+1:=aZ Om Om;refine Rs (A7 t0 t5 t6 @aad hfr.aO.aL @w1 @w1') ?_;refine WF.res T.c99 (r99 T X Z (w.ext Xx) ln Om _) ?_;rintro _ g2 ⟨x,hx,rfl,fn,fv⟩;have hml:(L'.map EV.ev).length=L'.length:=ZU _;have SD:cj s=if(cZ ln ((L'.length:Int)+1)).2≠0 then(L'.map EV.ev,(a:Int),(cZ ln ((L'.length:Int)+1)).2)else jf (f'+1) rest (L'.map EV.ev++[(cZ ln ((L'.length:Int)+1)).1]) (a+ln.length+1):=by rw[SD,hml];rfl
  rw[<-hx]at SD;generalize (cZ ln ((L'.length:Int)+1)).2=er at SD ⊢;have ox:bj (h++g++g1++g2) x:=⟨fn.aO,fv.aO⟩;have st:∀{b':Nat}{a0 a1 a2 a3 a4:AV},kG 5 0 (.agg x.row) b' (.b [a0,a1,a2,a3,a4])=some (aA,.set b' (.b x.row)):=λ{_ _ _ _ _ _}=>ox.st
  by_cases he:er=0
  case neg=>
   have d2:decide (er≠0)=true:=ZR he;rw[ZY he]at SD;refine Rs (A5 t0 t5 t6 @st @d2) ?_;rw[SD];exact⟨L',_,rfl,rfl,((hfr.app g1).app g2).app _,λx hx=>(((hin x hx).app g1).app g2).app _⟩
  have d2:decide (er≠0)=false:=ZN (λz=>z he);rw[ZW (λz=>z he)]at SD;have ox2:bj (h++g++g1++g2++[an.b x.row]) x:=ox.ext ⟨_,rfl⟩;have bs:=@bj.Du _ _ ox2;refine Rs (A7 t0 t5 t6 @st @d2 @bS @bs) ?_;refine WR.fP (h0:=h) (cs:=L'.map EV.row) (ys:=[x.row]) ((((hfr.app _).app _).app _).app _) (Fr.push (N:=0) (aam _) [x.row] (by intro y hy;rw[Z9]at hy;rw[hy];rfl)).aO De Si (by simp only[ZU,ZP,ZT];omega) Xx ?_;intro g' SI hff hkp;have hrow:L'.map EV.row++[x.row]=(L'++[x]).map EV.row:=by rw[ZV];rfl
  rw[hrow]at hff;rw[hrow];obtain⟨sn,SY⟩:∃sn,sn=AV.slice (h++g++g1++g2++[an.b x.row]++[an.cells x.row true true]).length 0 ((L'++[x]).map EV.row).length 5:=⟨_,rfl⟩;rw[<-SY]at hff ⊢;have Um:∀i,sB sn=some i->(h++g++g1++g2).length+2=i:=λi hi=>by rw[SY]at hi;cases hi;simp only[ZL,Z6]<;>omega
  have hout:∀b,sB out=some b->b<(h++g).length:=λb hb=>(hfr.bB hb).2
  have kp:∀i,i<(h++g++g1++g2).length->sB out≠some i->(h++g')[i]? =(h++g++g1++g2)[i]? :=λi hi hne=>by
   rw[hkp i (by simp only[ZL,Z6]at hi ⊢;omega) (λb0 o n e he zz=>hne (by rw[he,zz];rfl)),ZO (h++g++g1++g2),ZQ hi]
  have w2:IntKind.i64.wrap ((ln.length:Int)+1)=((ln.length+1:Nat):Int):=wrapN Om;have w3:IntKind.i64.wrap ((a:Int)+((ln.length+1:Nat):Int))=((a+ln.length+1:Nat):Int):=by rw[aZ Om Om];omega
  refine Rs (A5 t0 t5 t6 @w2 @w3) ?_;refine⟨s.length-(a+ln.length+1),Om,a+ln.length+1,f',sn,L'++[x],g',Om,rfl,rfl,by simp;omega,?_,Om,hff,λy hy=>?_,rfl,rfl⟩
  ·rw[SD,Tb,ZV];rfl
  ·have lg:∀{i},i<(h++g).length->i<(h++g++g1++g2).length:=λ{i} hi=>by simp only[ZL]at hi ⊢;omega
   rcases ZX.1 hy with hy|hy
   ·have oy:=hin y hy;have ln:=λj (hj:sB y.sn=some j)=>(oy.n.bB hj).2
    have lv:=λj (hj:sB y.sv=some j)=>(oy.v.bB hj).2
    refine⟨((oy.n.app g1).app g2).aB λj hj=>kp j (lg (ln j hj)) (oy.dn j hj),((oy.v.app g1).app g2).aB λj hj=>kp j (lg (lv j hj)) (oy.dv j hj),λj hj e=>?_,λj hj e=>?_⟩
    ·have h1:=lg (ln j hj);have h2:=Um j e;omega
    ·have h1:=lg (lv j hj);have h2:=Um j e;omega
   ·rw[Z9]at hy;subst hy;have ln:=λj (hj:sB y.sn=some j)=>fn.bB hj
    have lv:=λj (hj:sB y.sv=some j)=>fv.bB hj
    have en:(h++g++g1).length=(h++g).length+g1.length:=ZL;exact Oo
 ·have e3:decide ((a:Int)<s.length)=false:=ZN Om;have e4:a=s.length:=Om
  have Zl:s.drop a=[]:=abI Om;rw[jf,ZY Zl]at SD;refine Rs (A4 t0 t5 t6 e3) ?_;rw[SD];exact⟨L',_,rfl,rfl,hfr,hin⟩
end
def qF:Nat->Nat
 | 0=>198
 | 1=>126
 | 2=>200
 | 3=>201
 | 4=>202
 | 5=>203
 |_=>204
def j5(q:Nat×Bool×Nat):AV:=.agg [.bool q.2.1,.i (q.2.2:Nat),.func (.func (qF q.1)) [] []]
def CF:List (AV×AV):=[(.str [108,101,102,116],j5 (0,true,4)),(.str [102,114,111,109],j5 (1,true,5)),(.str [108,105,110,101,115],j5 (2,true,3)),(.str [117,110,115,97,102,101],j5 (3,false,2)),(.str [116,97,112,101,115],j5 (4,true,2)),(.str [114,101,108,101,97,115,101,100],j5 (5,false,5)),(.str [119,97,110,116],j5 (6,true,0))]
def I5(k:By):jW .s (.str k) CF=some ((jE k).map j5):=by
 unfold jE CF;by_cases h0:k=[108,101,102,116]
 ·subst h0;rfl
 have b0:(k==[108,101,102,116])=false:=by simp[h0]
 by_cases h1:k=[102,114,111,109]
 ·subst h1;rfl
 have b1:(k==[102,114,111,109])=false:=by simp[h1]
 by_cases h2:k=[108,105,110,101,115]
 ·subst h2;rfl
 have b2:(k==[108,105,110,101,115])=false:=by simp[h2]
 by_cases h3:k=[117,110,115,97,102,101]
 ·subst h3;rfl
 have b3:(k==[117,110,115,97,102,101])=false:=by simp[h3]
 by_cases h4:k=[116,97,112,101,115]
 ·subst h4;rfl
 have b4:(k==[116,97,112,101,115])=false:=by simp[h4]
 by_cases h5:k=[114,101,108,101,97,115,101,100]
 ·subst h5;rfl
 have b5:(k==[114,101,108,101,97,115,101,100])=false:=by simp[h5]
 by_cases h6:k=[119,97,110,116]
 ·subst h6;rfl
 have b6:(k==[119,97,110,116])=false:=by simp[h6]
 simp only[jW,dJ,b0,b1,b2,b3,b4,b5,b6,ZW h0,ZW h1,ZW h2,ZW h3,ZW h4,ZW h5,ZW h6];rfl
def CX{h:ah}{r:Nat}(hb:h[r]? =some (.bu CF)){z:AV}{ok:Bool}{k:By}:jj .s z ok (.map r) (.str k) (λb=>h[b]?)=lX z ok ((jE k).map j5):=rP hb (I5 k)
theorem oG:∀{l}{i:Nat},∀y∈db l i,(i:Int)<=y/\y<(i:Int)+l.length
 |[],i,y,h=>by simp[db]at h
 |x::r,i,y,h=>by
  rw[db]at h;have key:y∈db r (i+1)->(i:Int)<=y/\y<(i:Int)+(x::r).length:=λh=>by
   have:=oG y h;rw[ZP];omega
  split at h
  ·rcases aap.1 h with rfl|h
   ·rw[ZP];omega
   ·exact key h
  ·exact key h
section
variable {P:Program}(T:fD P) {h:ah}
include T
theorem rS{h ks ts Q g es a l z ps k v es'}(ha:a+1<=ts.length)(h1:(a=1)=False)(t1:slot ts 1=.map h.length)
  (hv:sj (fy z (ps.map λp=>(p.1,p.2.1,val ts p.2.2)))=some v) (hu:pK .s (.str k) v es=some es')
  (K:∀ts',ts'.length=ts.length->slot ts' 1=slot ts 1->WP P bL l ks ts' (h++[.bu es']++g) Q):
  WP P bL (.o a (.build z ps):: .x (.gy .s (.t 1) (.c (.str k)) (.t a))::l) ks ts (h++[.bu es]++g) Q:=by
 have e1:uN .s (.map h.length) (.str k) v (λb=>(h++[an.bu es]++g)[b]?)=some (aA,.set h.length (.bu es')):=uM vd hu;unfold bN.o bN.x;rw[sJ,hv,vj,vt];have e2:val (put ts (some a) v) (.t 1)=.map h.length:=by
  simp only[qn,vH,bd,h1,t1]
 have e3:val (put ts (some a) v) (.t a)=v:=by simp only[qn,vH,bd,ha]
 rw[jR,e2,e3,zg,e1,sI,CG,qn];have e4:(h++[an.bu es]++g).set h.length (.bu es')=h++[.bu es']++g:=zq;rw[e4];exact K _ (by simp only[bd]) (by simp only[bd,h1])
def r109:ay P 109 [] h (λv h'=>v=.map h.length/\h' =h++[.bu CF]):=by
 refine .of T.mix T.c109 ?_;obtain⟨ts,Sv⟩:∃ts,ts=aU 10 []:=⟨_,rfl⟩;have hlen:ts.length=10:=by rw[Sv];rfl
 unfold fn109;show WC P bL _ [] (aU 10 []) h _;rw[<-Sv];clear Sv;have m0:slot ((ts.set 0 AV.dF).set 1 (.map h.length)) 1=.map h.length:=by simp only[bd,hlen,reduceAdd,reduceLeDiff]
 have l0:((ts.set 0 AV.dF).set 1 (.map h.length)).length=10:=by simp only[bd,hlen]
 dsimp only[ai.j,ai.s,ai.r];rw[sK,sL,MJ T,vv,sK,sL,MK T];rw[<-aaf (h++[an.bu []])];generalize (ts.set 0 AV.dF).set 1 (.map h.length)=ts0 at *;clear hlen;refine rS T (v:=j5 (0,true,4)) (es':=[(.str [108,101,102,116],j5 (0,true,4))]) (by rw[l0];decide) (abn De) m0 rfl rfl ?_;intro Ug lx mx;have l1:=lx.trans l0;have m1:=mx.trans m0;clear lx mx l0 m0;refine rS T (v:=j5 (1,true,5)) (es':=[(.str [108,101,102,116],j5 (0,true,4)),(.str [102,114,111,109],j5 (1,true,5))]) (by rw[l1];decide) (abn De) m1 rfl rfl ?_;intro VV lx mx;have l2:=lx.trans l1;have m2:=mx.trans m1;clear lx mx l1 m1
 refine rS T (v:=j5 (2,true,3)) (es':=[(.str [108,101,102,116],j5 (0,true,4)),(.str [102,114,111,109],j5 (1,true,5)),(.str [108,105,110,101,115],j5 (2,true,3))]) (by rw[l2];decide) (abn De) m2 rfl rfl ?_;intro ts3 lx mx;have l3:=lx.trans l2;have m3:=mx.trans m2;clear lx mx l2 m2;refine rS T (v:=j5 (3,false,2)) (es':=[(.str [108,101,102,116],j5 (0,true,4)),(.str [102,114,111,109],j5 (1,true,5)),(.str [108,105,110,101,115],j5 (2,true,3)),(.str [117,110,115,97,102,101],j5 (3,false,2))]) (by rw[l3];decide) (abn De) m3 rfl rfl ?_;intro ts4 lx mx;have l4:=lx.trans l3;have m4:=mx.trans m3;clear lx mx l3 m3
 refine rS T (v:=j5 (4,true,2)) (es':=[(.str [108,101,102,116],j5 (0,true,4)),(.str [102,114,111,109],j5 (1,true,5)),(.str [108,105,110,101,115],j5 (2,true,3)),(.str [117,110,115,97,102,101],j5 (3,false,2)),(.str [116,97,112,101,115],j5 (4,true,2))]) (by rw[l4];decide) (abn De) m4 rfl rfl ?_;intro ts5 lx mx;have l5:=lx.trans l4;have m5:=mx.trans m4;clear lx mx l4 m4;refine rS T (v:=j5 (5,false,5)) (es':=[(.str [108,101,102,116],j5 (0,true,4)),(.str [102,114,111,109],j5 (1,true,5)),(.str [108,105,110,101,115],j5 (2,true,3)),(.str [117,110,115,97,102,101],j5 (3,false,2)),(.str [116,97,112,101,115],j5 (4,true,2)),(.str [114,101,108,101,97,115,101,100],j5 (5,false,5))]) (by rw[l5];decide) (abn De) m5 rfl rfl ?_
 intro ts6 lx mx;have l6:=lx.trans l5;have m6:=mx.trans m5;clear lx mx l5 m5;refine rS T (v:=j5 (6,true,0)) (es':=[(.str [108,101,102,116],j5 (0,true,4)),(.str [102,114,111,109],j5 (1,true,5)),(.str [108,105,110,101,115],j5 (2,true,3)),(.str [117,110,115,97,102,101],j5 (3,false,2)),(.str [116,97,112,101,115],j5 (4,true,2)),(.str [114,101,108,101,97,115,101,100],j5 (5,false,5)),(.str [119,97,110,116],j5 (6,true,0))]) (by rw[l6];decide) (abn De) m6 rfl rfl ?_;intro ts7 lx mx;have l7:=lx.trans l6;have m7:=mx.trans m6;clear lx mx l6 m6;have hlen:=l7;rw[aaf];refine Rs @m7 ?_;rfl
section
variable {V:RV}(o:aC h V) (w:fQ V.ao)
include o w
def r198(Z:nj P)(pw:Pw h){n}(hn:n∈gD V.ao):ay P 198 [.agg V.row,.str n] h (λv k=>aI k v 1 ((fu V.ao n 0).map ak)):=by
 refine .fo 10 T.mix T.c198 ?_;intro ts hlen t0 t1;unfold fn198 gA;have Su:=@aC.box _ _ o;have l:=w.len;refine Rs (A4 t0 t1 @Su @aE) ?_;refine WF.res T.c124 (r124 T (o.ext Xx) l hn) ?_;rintro _ g1 ⟨x,hx,VG,rfl⟩;have hj:=w.jb x.1 (aah hx);refine Rs (A2 t0 t1) ?_;refine WF.res T.c125 (r125 T ((o.e4 x hx).ext Xx) Om (λs hs=>(hj.2.2.2 s hs).1)) ?_;intro v g2 hv;have TF:=jN (l:=x.1.bz) (i:=0);refine Rs (A2 t0 t1) ?_;refine WF.res T.c199 (r199 T hv Om ee (λy hy k ek=>by
  have:=oG y hy;exact ze T Z Om Om (pw.ext (Ext.trans Xx ek)))) ?_
 intro v3 g3 hv3;have hr:=hv3.aO;refine Rs t0 ?_;rw[VG]at hr;exact hr
def r200(n:By):ay P 200 [.agg V.row,.str n] h (λv k=>aI k v 1 ((fu V.ao n 2).map ak)):=by
 refine .fo 9 T.mix T.c200 ?_;intro ts hlen t0 t1;unfold fn200 gA;have Su:=@aC.box _ _ o;have l:=w.len;have hin:∀x∈V.aD,x.1.bA.length<2^30:=λx hx=>by have:=(w.md x.1 (aah hx)).2.1;omega
 refine Rs (A4 t0 t1 @Su @aE) ?_;refine WF.res T.c122 (r122 T (o.ext Xx) l hin _) ?_;rintro v3 g3 h3;have hsl:(iT V.ao n).length<2^30:=by
  have h1:(iT V.ao n).length<=V.ao.lines.length:=by unfold iT;exact aav _ _
  have:=w.l0;omega
 refine Rs (A2 t0 t1) ?_;refine WF.res T.c121 (r121 T h3 Om (λx=>x.name) (λx _ k _=>bH.of (a:=[]) (c:=[]) T.c123 (r123 T x))) ?_;intro v4 g4 h4;have hr:=h4.aO;refine Rs t0 ?_;exact hr
def r201(n:By):ay P 201 [.agg V.row,.str n] h (λv k=>aI k v 1 ((fu V.ao n 3).map ak)):=by
 refine .fo 9 T.mix T.c201 ?_;intro ts hlen t0 t1;unfold fn201 gA;have Su:=@aC.box _ _ o;have l:=w.len;refine Rs (A5 t0 t1 @Su @aE @rG) ?_;refine WF.res T.c80 (r80 T (o.ext Xx) l w.yL _) ?_;intro v4 g4 h4;refine Rs t0 ?_;exact h4
def r202{n}(hn:n∈k5 V.ao):ay P 202 [.agg V.row,.str n] h (λv k=>aI k v 1 ((fu V.ao n 4).map ak)):=by
 refine .fo 9 T.mix T.c202 ?_;intro ts hlen t0 t1;unfold fn202 gA;have Su:=@aC.box _ _ o;have l:=w.len;refine Rs (A4 t0 t1 @Su @aE) ?_;refine WF.res T.c77 (r77 T (o.ext Xx) l hn) ?_;rintro _ g1 ⟨x,hx,VG,rfl⟩;have hr:=(o.e2 x hx);unfold bt;refine Rs (A2 t0 t1) ?_;rw[VG]at hr;exact hr.ext Xx
end
end
def tJ{l x}:pO (l++[x])=pO l++(if x.rel then [x.name,ee x.kE]else []):=by
 unfold pO;simp only[ZV,abj,aaJ,abd,aa0,List.flatten_nil,aaf]
theorem n7:∀{l},(pO l).length<=2*l.length
 |[]=>by simp[pO]
 |x::r=>by
  have:=n7 (l:=r);unfold pO at this ⊢;rw[aaJ,aa0,ZL,ZP];split
  ·simp only[ZP,ZT];omega
  ·simp only[ZT];omega
section
variable {P:Program}(T:fD P) {h:ah}
include T
section
variable {V:RV}(o:aC h V) (w:fQ V.ao)
include o w
def r203(Z:nj P)(pw:Pw h)(n:By):ay P 203 [.agg V.row,.str n] h (λv k=>aI k v 1 ((fu V.ao n 5).map ak)):=by
 refine .fo 27 T.mix T.c203 ?_;intro ts hlen t0 t1;unfold fn203 gA;have Su:=@aC.box _ _ o;have l5:V.aK.length<=16:=w.l5;refine Rs (A5 t0 t1 @Su @gE o.i5.aL) ?_;refine WL.inv T.mix (λn ts h'=>∃(k:Nat) (out:AV) (g:ah),k<=V.aK.length/\n=V.aK.length-k/\h' =h++g/\Fr h.length (h++g) out 1 ((pO (V.aK.take k)).map ak)/\
   ts.length=27/\slot ts 5=out/\slot ts 9=V.s5/\slot ts 10=.i V.aK.length/\slot ts 11=.i k) V.aK.length
  ⟨0,.af,_,Om,rfl,rfl,.nil,Sn,(Sq t1),Sw,(Sq t0),gf⟩ ?_
 rintro _ ts _ ⟨k,out,g,hk,rfl,rfl,hfr,hlen,t5,t9,t10,t11⟩;by_cases hlt:k<V.aK.length
 ·have e3:=eF hlt;have e5:=wrapN (n:=k) Om;have ix:=o.i5.dA (kk:=.i64) hlt;have ld:∀{k'},Ext (h++g) k'->aq (some 4) (cF V.s5 4 k) (λb=>k'[b]?)=some (.agg (dG V.aK[k]),.ar):=λ{k'} e=>o.i5.kR hlt (Ext.trans Xx e)
  obtain⟨x,hx⟩:∃x,x=V.aK[k]:=⟨_,rfl⟩;have Un:x∈V.aK:=by rw[hx];exact ZZ _
  have Zj:=w.pc x Un;have SC:V.aK.take (k+1)=V.aK.take k++[x]:=by rw[hx,aay,ZS hlt];rfl
  have Tz:=n7 (l:=V.aK.take k);have htl:(V.aK.take k).length<=16:=by rw[aaw];omega
  have SY:=tJ (l:=V.aK.take k) (x:=x);rw[<-hx]at ld;unfold dG at ld;cases Wq:x.rel with
  |false=>
   rw[Wq]at ld SY;rw[ZW Si,aaf,<-SC]at SY;rw[<-SY]at hfr;refine Rs (A8 t5 t9 t10 t11 e3 e5 ix @ld) ?_;exact⟨V.aK.length-(k+1),Om,k+1,out,_,Om,rfl,ZO _ _ _,by rw[<-ZO];exact hfr.app _,rfl,rfl⟩
  |true=>
   rw[Wq]at ld SY;rw[ZY rfl,<-SC]at SY;refine Rs (A7 t5 t9 t10 t11 e3 ix @ld) ?_;refine WF.ce T.c113 (Z.itoa Om Om (pw.ext Xx)) λg1=>?_
   rw[iw Zj.2.1];refine Rs (A4 t5 t9 t10 t11) ?_;refine WR.DM (h0:=h) (cs:=(pO (V.aK.take k)).map ak) (ys:=([x.name,ee x.kE] :List (By)).map ak) (((hfr.app _).app _).app _) (Fr.push (N:=0) (aam _) (([x.name,ee x.kE] :List (By)).map ak) (by simp[ak])).aO De (by simp;omega) Xx ?_;intro s' g' hff hkp hle;rw[<-ZV,<-SY]at hff;refine Rs (A5 t5 t9 t10 t11 e5) ?_;exact⟨V.aK.length-(k+1),Om,k+1,s',g',Om,rfl,rfl,hff,rfl,rfl⟩
 ·have e3:=fq hlt;have e4:k=V.aK.length:=Om
  refine Rs (A5 t5 t9 t10 t11 e3) ?_;rw[e4,aaj]at hfr;exact hfr.aO
def r204(Z:nj P)(pw:Pw h){n}(hn:n∈gC V.ao):ay P 204 [.agg V.row,.str n] h (λv k=>aI k v 1 ((fu V.ao n 6).map ak)):=by
 refine .fo 22 T.mix T.c204 ?_;intro ts hlen t0 t1;unfold fn204 gA;have Su:=@aC.box _ _ o;have l:=w.len;have UP:=w.ln _ (iC (f:=iH.name) (l:=V.ao.lines) (n:=n) (d:=AN) hn);have TF:(V.aj.filter λx=>decide (x.1.line=n)).length<=V.aj.length:=aav _ _;have hl2:=l.l2;have hof:(sO V.ao n).length=(V.aj.filter λx=>decide (x.1.line=n)).length:=by
  unfold sO;simp only[RV.ao,abQ,ZU];rfl
 refine Rs (A4 t0 t1 @Su @aE) ?_;refine WF.ce T.c205 (r205 T (o.ext Xx) l hn) λg1=>?_
 have TW:fu V.ao n 6=[ee (sO V.ao n).length,ee (du V.ao n).want,if(du V.ao n).acc then [97,99,99,101,112,116,101,100]else [111,112,101,110]]:=rfl;have UP:1<=(du V.ao n).want/\(du V.ao n).want<=64:=UP;generalize du V.ao n=y at TW UP ⊢;unfold cC;rw[hof]at TW;cases TX:y.acc with
 |true=>
  rw[TX]at TW;refine Rs (A4 t0 t1 @aE @TX) ?_;refine WF.res T.c206 (r206 T (o.ext Xx) l n) ?_;intro v2 g2 h2;refine Rs (A3 t0 t1 h2.aL) ?_;refine WF.ce T.c113 (Z.itoa Om Om (pw.ext Xx)) λg3=>?_
  rw[iw Om];refine Rs (A2 t0 t1) ?_;refine WF.ce T.c113 (Z.itoa Om Om (pw.ext Xx)) λg4=>?_
  rw[iw Om];refine Rs (A2 t0 t1) ?_;rw[TW];exact(Fr.push (es:=1) (N:=0) (aam _) (([ee ((V.aj.filter λx=>decide (x.1.line=n)).length:Nat),ee y.want,[97,99,99,101,112,116,101,100]] :List (By)).map ak) (by simp[ak])).aO
 |false=>
  rw[TX]at TW;refine Rs (A4 t0 t1 @aE @TX) ?_;refine WF.res T.c206 (r206 T (o.ext Xx) l n) ?_;intro v2 g2 h2;refine Rs (A3 t0 t1 h2.aL) ?_;refine WF.ce T.c113 (Z.itoa Om Om (pw.ext Xx)) λg3=>?_
  rw[iw Om];refine Rs (A2 t0 t1) ?_;refine WF.ce T.c113 (Z.itoa Om Om (pw.ext Xx)) λg4=>?_
  rw[iw Om];refine Rs (A2 t0 t1) ?_;rw[TW];exact(Fr.push (es:=1) (N:=0) (aam _) (([ee ((V.aj.filter λx=>decide (x.1.line=n)).length:Nat),ee y.want,[111,112,101,110]] :List (By)).map ak) (by simp[ak])).aO
end
end
def om{n}(h:eZ n=true):n.length<=24:=by
 cases n with
 |nil=>cases h
 |cons c r=>
  unfold eZ at h;simp only[aaq,aaA]at h;rw[ZP];omega
def uL{l}(h:qe l){n}(hn:n∈l):n.length<=24:=om (h.nm n hn)
theorem mJ{c}:∀{l},(∀x∈l,x.length<=64)->(iv c l).length<=65*l.length
 |[],_=>aam _
 |x::r,h=>by
  have ih:=mJ (c:=c) (l:=r) λy hy=>h y (aao _ hy)
  have hx:=h x Si;by_cases hr:r=[]
  ·subst hr;simp only[iv,ZP,ZT];omega
  ·rw[jV hr,ZL,ZP,ZP];omega
theorem tR:∀{l m:List (By)},l.Nodup->(∀x∈l,x∈m)->l.length<=m.length
 |[],_,_,_=>aam _
 |x::r,m,hd,hs=>by
  rw[acm]at hd;have hm:=hs x Si;have:=tR (l:=r) (m:=m.erase x) hd.2 λy hy=>(List.mem_erase_of_ne (λe=>hd.1 (by rw[<-e];exact hy))).2 (hs y (aao _ hy))
  rw[List.length_erase_of_mem hm]at this;have:=List.length_pos_of_mem hm;rw[ZP];omega
def mq{R:hO}(w:fQ R){n k:By}{q:Nat×Bool×Nat}(hq:jE k=some q)(hn:q.2.1=true->eo R q.2.2 n=true):(∀x∈fu R n q.1,x.length<=64)/\(fu R n q.1).length<=64:=by
 have dl:∀{y:Int},0<=y->y<99999999->(ee y).length<=64:=λ{y} h0 h1=>by have:=lA (k:=7) (u:=y.toNat) Om;rw[jt];omega
 unfold jE at hq
 repeat' split at hq
 all_goals cases hq
 ·have hm:n∈gD R:=aaQ (hn rfl);have hj:=w.jb _ (iC (f:=kI.name) (l:=R.aG) (n:=n) (d:=wD) hm);have TF:=jN (l:=(gj R n).bz) (i:=0);have hj:(gj R n).bz.length<=32:=hj.2.2.1;refine⟨λx hx=>?_,?_⟩
  ·obtain⟨y,hy,rfl⟩:=aal.1 hx;have:=oG y hy;exact Ea
  ·show((db _ _).map ee).length<=64;rw[ZU];omega
 ·refine⟨λx hx=>?_,?_⟩
  ·exact z119
  ·show(qo R n).length<=64;unfold qo;exact KD
 ·refine⟨λx hx=>?_,?_⟩
  ·obtain⟨y,hy,rfl⟩:=aal.1 hx;have:=uL w.n0 (aah (f:=iH.name) (aa3.1 hy).1);omega
  ·show((iT R n).map iH.name).length<=64;unfold iT;rw[ZU];have:=aav (λl:iH=>decide (l.name∈(mY R n).map jc.line)) R.lines;have:=w.l0;omega
 ·refine⟨λx hx=>?_,?_⟩
  ·exact z119
  ·show(jB R R.tick).length<=64;unfold jB;exact KD
 ·have hm:n∈k5 R:=aaQ (hn rfl);have hs:=w.sh _ (iC (f:=j7.name) (l:=R.aj) (n:=n) (d:=CP) hm);refine⟨λx hx=>?_,?_⟩
  ·have:=uL w.n1 (hs.2.2.2 x hx);omega
  ·have:=tR hs.2.2.1 hs.2.2.2;have h1:(kB R).length<=16:=by unfold kB;rw[ZU];exact w.l1
   exact aaz this Om
 ·refine⟨λx hx=>?_,?_⟩
  ·obtain⟨l,hl,hx⟩:=List.mem_flatten.1 hx;obtain⟨p,hp,rfl⟩:=aal.1 hl;have Zj:=w.pc p hp;split at hx
   ·simp only[aap,aaI,abm]at hx;rcases hx with rfl|rfl
    ·have:=uL w.n5 (aah (f:=pI.name) hp);omega
    ·exact dl Zj.2.1 Om
   ·cases hx
  ·have:=n7 (l:=R.aK);have:=w.l5;show(pO R.aK).length<=64;omega
 ·have hm:n∈gC R:=aaQ (hn rfl);have hw:=w.ln _ (iC (f:=iH.name) (l:=R.lines) (n:=n) (d:=AN) hm);have hw:1<=(du R n).want/\(du R n).want<=64:=hw;have ho:(sO R n).length<=64:=aaz (aav _ _) w.l2;refine⟨λx hx=>?_,by show(3:Nat)<=64;omega⟩;have hx:x∈[ee (sO R n).length,ee (du R n).want,if(du R n).acc then [97,99,99,101,112,116,101,100]else [111,112,101,110]]:=hx;simp only[aap,aaI,abm]at hx;rcases hx with rfl|rfl|rfl
  ·exact Ea
  ·exact Ea
  ·split<;>decide
section
variable {P:Program}(T:fD P) {h:ah}
include T
def RX{V}(o:aC h V)(w:fQ V.ao)(Z:nj P)(pw:Pw h){n k q}(hq:jE k=some q)(hn:q.2.1=true->eo V.ao q.2.2 n=true):
  bH P (.func (.func (qF q.1)) [] []) [.agg V.row,.str n] h (λv k'=>aI k' v 1 ((fu V.ao n q.1).map ak)):=by
 unfold jE at hq
 repeat' split at hq
 all_goals cases hq
 ·exact bH.of (a:=[]) (c:=[]) T.c198 (r198 T o w Z pw (aaQ (hn rfl)))
 ·exact bH.of (a:=[]) (c:=[]) T.c126 (r126 T o w (aaQ (hn rfl)))
 ·exact bH.of (a:=[]) (c:=[]) T.c200 (r200 T o w n)
 ·exact bH.of (a:=[]) (c:=[]) T.c201 (r201 T o w n)
 ·exact bH.of (a:=[]) (c:=[]) T.c202 (r202 T o w (aaQ (hn rfl)))
 ·exact bH.of (a:=[]) (c:=[]) T.c203 (r203 T o w Z pw n)
 ·exact bH.of (a:=[]) (c:=[]) T.c204 (r204 T o w Z pw (aaQ (hn rfl)))
end
def DQ(k:Nat):ai:=(fn110).body.dr k
def Gc(k:Nat):ai:=(DQ k).hd
def QN:fn110=⟨69,2,[(4,none),(5,none)],.seq (Gc 0) (.seq (Gc 1) (.seq (Gc 2) (.seq (Gc 3) (.seq (Gc 4) (DQ 5)))))⟩:=rfl
def QM:DQ 5=.seq (Gc 5) (.seq (Gc 6) (DQ 7)):=rfl
def O1{k q}(hq:jE k=some q):q.2.2<6:=by
 unfold jE at hq
 repeat' split at hq
 all_goals cases hq
 all_goals decide
section
variable {P:Program}(T:fD P) {h W:ah}{ts:TS}
include T
def Hw{VN n k i wt b6 b8 nm}(oV:aC W VN)(wV:fQ VN.ao)(Z:nj P)(pw:Pw W)(hq:jE k=some (i,nm,wt))(hn:nm=true->eo VN.ao wt n=true)
  (m6:W[b6]? =some (.b [.bool nm,.i (wt:Nat),.func (.func (qF i)) [] []])) (m8:W[b8]? =some (.b VN.row)) (hlen:ts.length=69) (t6:slot ts 6=.ptr b6 0) (t7:slot ts 7=.str n) (t8:slot ts 8=.ptr b8 0) (he:Ext h W):
  WC P bL (DQ 7) [] ts W (FQ [(4,none),(5,none)] λv k=>Ext h k/\v=.dz [.str (p8 (fu VN.ao n i)),.i 0]):=by
 have l6:∀{k:ah}{n':Option Nat}{a:Nat},Ext W k->aq n' (.ptr b6 a) (λz=>k[z]?)=dK n' a (.b [.bool nm,.i (wt:Nat),.func (.func (qF i)) [] []]):=λe=>az (e.some m6)
 have l8:∀{k:ah}{n':Option Nat}{a:Nat},Ext W k->aq n' (.ptr b8 a) (λz=>k[z]?)=dK n' a (.b VN.row):=λe=>az (e.some m8)
 have VB:=mq wV hq hn;have hv0:=RX T oV wV Z pw hq hn;unfold DQ fn110 gA;simp only[ai.j,ai.s,ai.r,ai.dr,ai.tl,ai.hd];refine Rs (A6 t6 t7 t8 @l6 @l8 @aE) ?_;refine WF.val hv0 ?_;intro v g hv;have VB:(∀x∈fu VN.ao n i,x.length<=64)/\(fu VN.ao n i).length<=64:=VB;have hv:aI (W++g) v 1 ((fu VN.ao n i).map ak):=hv;generalize fu VN.ao n i=L at VB hv ⊢;by_cases hL:L=[]
 ·have d0:decide ((L.length:Int)=0)=true:=ZR (by rw[hL];rfl);refine Rs (A5 t6 t7 t8 hv.aL @d0) ?_;exact⟨he.trans Xx,by rw[p8,ZY hL]⟩
 ·have Xe:0<L.length:=aba.2 hL;have d0:decide ((L.length:Int)=0)=false:=ZN Om;have hj:=mJ (c:=32) VB.1;refine Rs (A5 t6 t7 t8 hv.aL @d0) ?_;refine WF.ce T.c114 (Z.join hv ⟨by rw[rT];omega,Om⟩) λg2=>?_
  refine Rs t6 ?_;exact⟨he.trans Xx,by rw[p8,ZW hL,rT]⟩
def Hv{V b n k i wt b6 nm}(o:Ar h b V)(w:lJ V.bP)(hl:V.da.length<=1000)(Z:nj P)(pw:Pw h)(hq:jE k=some (i,nm,wt))(he:Ext h W)
  (m6:W[b6]? =some (.b [.bool nm,.i (wt:Nat),.func (.func (qF i)) [] []])) (hlen:ts.length=69) (t0:slot ts 0=.ptr b 0) (t6:slot ts 6=.ptr b6 0) (t7:slot ts 7=.str n) {R}
  (hR:R=if nm=true/\eo V.bP.now wt n=false then([],10)else(p8 (fu V.bP.now n i),0)):
  WC P bL (DQ 5) [] ts W (FQ [(4,none),(5,none)] λv k=>Ext h k/\v=.dz [.str R.1,.i R.2]):=by
 have l6:∀{k:ah}{n':Option Nat}{a:Nat},Ext W k->aq n' (.ptr b6 a) (λz=>k[z]?)=dK n' a (.b [.bool nm,.i (wt:Nat),.func (.func (qF i)) [] []]):=λe=>az (e.some m6)
 have hwt:wt<6:=O1 hq;obtain⟨RR,TC⟩:∃RR,RR=DQ 7:=⟨_,rfl⟩;have o2:=o.ext he;have oV:=o2.now;have wV:fQ V.now.ao:=by rw[V.km];exact w.now
 rw[<-V.km]at hR;have st:=λ{b':Nat}{a0 a1 a2 a3 a4 a5 a6:AV}=>@aC.st _ _ oV b' a0 a1 a2 a3 a4 a5 a6 false
 rw[QM,<-TC];unfold Gc DQ fn110 gA;simp only[ai.j,ai.s,ai.r,ai.dr,ai.tl,ai.hd];refine Rs (A3 t0 t6 t7) ?_;refine WF.ce T.c79 (r79 T o2 hl) λg1=>?_
 cases nm with
 |false=>
  rw[ZW Si]at hR;refine Rs (A6 t0 t6 t7 @st @l6 @aE) ?_;rw[hR,TC];exact Hw T (VN:=V.now) (b6:=b6) (b8:=(W++g1).length) (oV.ext Xx) wV Z (pw.ext (he.trans Xx)) hq (λe=>by cases e) (Ext.some Xx m6) (by rw[Z1 (Z0 _),aaR];rfl) (Sq t0) (Sq t6) (Sq t7) (Sq t0) (he.trans Xx)
 |true=>
  refine Rs (A6 t0 t6 t7 @st @l6 @aE) ?_;refine WF.ce T.c86 (r86 T (oV.ext Xx) wV.len hwt n) λg2=>?_
  cases hhs:eo V.now.ao wt n with
  |false=>
   rw[ZY ⟨rfl,hhs⟩]at hR;refine Rs (A5 t0 t6 t7 @hhs @aai) ?_;exact⟨he.trans Xx,by rw[hR]⟩
  |true=>
   rw[ZW (by rw[hhs];simp)]at hR;refine Rs (A5 t0 t6 t7 @hhs @aad) ?_;rw[hR,TC];exact Hw T (VN:=V.now) (b6:=b6) (b8:=(W++g1).length) (oV.ext Xx) wV Z (pw.ext (he.trans Xx)) hq (λ_=>hhs) (Ext.some Xx m6) (Ext.some (h:=W++g1++[an.b V.now.row]) Xx (by rw[Z1 (Z0 _),aaR];rfl)) (Sq t0) (Sq t6) (Sq t7) (Sq t0) (he.trans Xx)
end
def Bn:((false:Bool)==false)=true:=rfl
def Bk:((true:Bool)==true)=true:=rfl
def Bl:((true:Bool)==false)=false:=rfl
def Bm:((false:Bool)==true)=false:=rfl
section
variable {P:Program}(T:fD P) {h:ah}
include T
def r110{V b}(o:Ar h b V)(w:lJ V.bP)(hl:V.da.length<=1000)(Z:nj P)(pw:Pw h){s ws}(hs:aI h s 1 (ws.map ak))(hne:0<ws.length)(hwl:ws.length<2^62){q}(hq:jE (ws.headD [])=some q):
  ay P 110 [.ptr b 0,s] h (λv _=>v=.dz [.str (iP V.bP.now ws q).1,.i (iP V.bP.now ws q).2]):=by
 refine .of T.mix (acb T.c110 (aan some QN)) ?_;obtain⟨ts,Sv⟩:∃ts,ts=aU 69 [.ptr b 0,s]:=⟨_,rfl⟩;have hlen:ts.length=69:=by rw[Sv];rfl
 have t0:slot ts 0=.ptr b 0:=by rw[Sv];rfl
 have t1:slot ts 1=s:=by rw[Sv];rfl
 obtain⟨RR,TC⟩:∃RR,RR=DQ 5:=⟨_,rfl⟩;obtain⟨i,nm,wt⟩:=q;show WC P bL _ [] (aU 69 [.ptr b 0,s]) h (FQ _ (λv k=>Ext h k/\v=.dz [.str (iP V.bP.now ws (i,nm,wt)).1,.i (iP V.bP.now ws (i,nm,wt)).2]));rw[<-Sv,<-TC];clear Sv;have Y8:ws[0]=ws.headD []:=by cases ws with|nil=>simp at hne|cons a r=>rfl
 have lP:=hs.lP (kk:=.i64) hne;have ld0:∀{k:ah},Ext h k->aq none (cF s 1 0) (λb=>k[b]?)=some (.str (ws.headD []),.ar):=λ{k} e=>by rw[<-Y8];exact hs.gR (i:=0) hne rfl e
 unfold Gc DQ fn110 gA;simp only[ai.j,ai.s,ai.r,ai.dr,ai.tl,ai.hd];refine Rs (A2 t0 t1) ?_;refine WF.res T.c109 (r109 T) ?_;rintro _ g1 ⟨rfl,hg⟩;have hg:g1=[.bu CF]:=abC hg;subst hg;have lk:∀{z:AV},jj .s z false (.map h.length) (.str (ws.headD [])) (λb=>(h++[an.bu CF])[b]?)=lX z false ((jE (ws.headD [])).map j5):=CX (by rw[Z1 (Z0 _),aaR];rfl);rw[hq]at lk;have Th:∀{z:AV},_=some (AV.agg [.bool nm,.i (wt:Nat),.func (.func (qF i)) [] []],jv.ar):=@lk;have m6:∀{k:ah},Ext (h++[an.bu CF]++[an.b [.bool nm,.i (wt:Nat),.func (.func (qF i)) [] []]]) k->k[(h++[an.bu CF]).length]? =some (an.b [.bool nm,.i (wt:Nat),.func (.func (qF i)) [] []]):=λe=>e.some (by rw[Z1 (Z0 _),aaR];rfl)
 have hsyn:∀{x:By×Int},x=([],25)->iP V.bP.now ws (i,nm,wt)=([],25)->∀{k:ah},Ext h k->(Ext h k/\AV.dz [.str [],.i 25]=.dz [.str (iP V.bP.now ws (i,nm,wt)).1,.i (iP V.bP.now ws (i,nm,wt)).2]):=λ_ he k e=>⟨e,by rw[he]⟩
 cases nm with
 |false=>
  have TZ:iP V.bP.now ws (i,false,wt)=if ws.length≠1 then([],25)else(p8 (fu V.bP.now [] i),0):=by
   unfold iP;simp
  by_cases e1:ws.length=1
  ·have d1:decide ((ws.length:Int)≠1)=false:=ZN (λz=>z Om);have d2:decide ((ws.length:Int)=2)=false:=ZN Om;refine Rs (GM t0 t1 @lP @ld0 @bX @Th @jr @Bn @Bk @Bl @Bm hs.aL @d1 @d2 @aai @aad) ?_;rw[TC];exact Hv T (n:=[]) o w hl Z pw hq Xx (m6 Xx) (Sq t0) (Sq t0) (Sq t0) (Sq t0) (by rw[TZ,ZW (by simpa using e1),ZW Si])
  ·have d1:decide ((ws.length:Int)≠1)=true:=ZR Om;rw[ZY e1]at TZ;by_cases e2:ws.length=2
   ·have d2:decide ((ws.length:Int)=2)=true:=ZR Om;have d3:decide (([] :By)≠[])=false:=rfl;refine Rs (Kh t0 t1 @lP @ld0 @bX @Th @jr @Bn @Bk @Bl @Bm hs.aL @d1 @d2 @d3 @aai @aad) ?_;rw[TZ]
   ·have d2:decide ((ws.length:Int)=2)=false:=ZN Om;refine Rs (GM t0 t1 @lP @ld0 @bX @Th @jr @Bn @Bk @Bl @Bm hs.aL @d1 @d2 @aai @aad) ?_;rw[TZ]
 |true=>
  by_cases e2:ws.length=2
  ·have d2:decide ((ws.length:Int)=2)=true:=ZR Om;have hw1:ws[1]=ws.getD 1 []:=by rw[aar,ZS Om];rfl
   have ix1:aV 1 s (.i 1)=some (cF s 1 1,.ar):=hs.dA (kk:=.i64) (i:=1) Om;have XF:∀{k:ah},Ext h k->aq none (cF s 1 1) (λb=>k[b]?)=some (.str (ws.getD 1 []),.ar):=λ{k} e=>by rw[<-hw1];exact hs.gR (i:=1) Om rfl e
   have TZ:iP V.bP.now ws (i,true,wt)=if ws.getD 1 []=[]then([],25)else if eo V.bP.now wt (ws.getD 1 [])=false then([],10)else(p8 (fu V.bP.now (ws.getD 1 []) i),0):=by
    unfold iP;simp only[e2,and_true,Z7,aco,ne_eq,Bool.true_eq_false,false_and,abm,abl]
   generalize ws.getD 1 []=n at XF TZ;by_cases hn:n=[]
   ·have d3:decide (n≠[])=false:=ZN (λz=>z hn);rw[ZY hn]at TZ;refine Rs (GL t0 t1 @lP @ld0 @ix1 @XF @bX @Th @jr @Bn @Bk @Bl @Bm hs.aL @d2 @d3 @aai @aad) ?_;rw[TZ]
   ·have d3:decide (n≠[])=true:=ZR hn;rw[ZW hn]at TZ;refine Rs (GL t0 t1 @lP @ld0 @ix1 @XF @bX @Th @jr @Bn @Bk @Bl @Bm hs.aL @d2 @d3 @aai @aad) ?_;rw[TC];exact Hv T (n:=n) o w hl Z pw hq Xx (m6 Xx) (Sq t0) (Sq t0) (Sq t0) (Sq t0) (by rw[TZ];simp)
  ·have d2:decide ((ws.length:Int)=2)=false:=ZN Om;have TZ:iP V.bP.now ws (i,true,wt)=([],25):=by
    unfold iP;simp[e2]
   refine Rs (BD t0 t1 @lP @ld0 @bX @Th @jr @Bn @Bk @Bl @Bm hs.aL @d2 @aai @aad) ?_;rw[TZ]
end
def lQ(B h0:ah)(b:Nat)(V:HV)(R:ju×By×Int)(v:AV)(k:ah):Prop:=∃g' V',k=B++g'/\v=.dz [.str R.2.1,.i R.2.2]/\cg B.length (B++g') b V'/\V'.bP=R.1/\
 (∀i,i<h0.length->some i∉V.ex b->(B++g')[i]? =h0[i]?)/\∀j,some j∈V'.ex b->some j∈V.ex b\/h0.length<=j
def lQ.same{B W k b V m c}(o:cg B.length W b V)(e:Ext B W)(e2:Ext W k){R}(hR:R=(V.bP,m,c)):lQ B W b V R (.dz [.str m,.i c]) k:=by
 obtain⟨z,rfl⟩:=e;obtain⟨y,rfl⟩:=e2;exact⟨z++y,V,by rw[ZO],by rw[hR],by rw[<-ZO];exact o.app y,by rw[hR],λi hi _=>by rw[<-ZO,ZQ hi],λj hj=>.inl hj⟩
def lQ.low{B h0 W k b V R v}(s:lQ B W b V R v k)(e:Ext h0 W):lQ B h0 b V R v k:=by
 obtain⟨g',V',h1,h2,h3,h4,h5,h6⟩:=s;obtain⟨z,rfl⟩:=e;refine⟨g',V',h1,h2,h3,h4,λi hi hn=>?_,λj hj=>?_⟩
 ·rw[h5 i (by rw[ZL];omega) hn,ZQ hi]
 ·rcases h6 j hj with h|h
  ·exact .inl h
  ·exact .inr (by rw[ZL]at h;omega)
def rF(H:ju)(ws:List (By)):ju×By×Int:=
 if(cp ws).2=false then(H,[],25)else
 if 1000<=H.cN.length then(H,[],5)else
 if ez H { (cp ws).1 with num:=(H.cN.length:Int)+1}≠0 then(H,[],ez H { (cp ws).1 with num:=(H.cN.length:Int)+1})
 else(ka H { (cp ws).1 with num:=(H.cN.length:Int)+1},[100,111,110,101,32]++ee ((H.cN.length:Int)+1),0)
def Dk{H s}:pV H s=if 4096<s.length then(H,[],26)else if s=[]then(H,[],25)else
  match jE ((aF 32 s).headD [])with
  |some q=>(H,iP H.now (aF 32 s) q)
  |none=>
   match ff ((aF 32 s).headD [])with
   |none=>(H,[],13)
   |some _=>rF H (aF 32 s):=by
 unfold pV;by_cases h1:4096<s.length
 ·rw[ZY h1,ZY h1]
 rw[ZW h1,ZW h1];by_cases h2:s=[]
 ·rw[ZY h2,ZY h2]
 rw[ZW h2,ZW h2];cases jE ((aF 32 s).headD [])with
 |some q=>rfl
 |none=>
  cases ff ((aF 32 s).headD [])with
  |none=>rfl
  |some d=>
   simp only;unfold rF;cases (cp (aF 32 s)).2<;>rfl
def J7(k:Nat):ai:=(fn43).body.dr k
def Jp(k:Nat):ai:=(J7 k).hd
def Qv:fn43=⟨97,2,[(4,none),(5,none)],.seq (Jp 0) (.seq (Jp 1) (.seq (Jp 2) (.seq (Jp 3) (.seq (Jp 4) (.seq (Jp 5) (J7 6))))))⟩:=rfl
section
variable {P:Program}(T:fD P) {B W:ah}{ts:TS}
include T
def NA{V b x}(he:Ext B W)(o:cg B.length W b V)(w:lJ V.bP)(hl:V.cN.length<1000)(ox:bj W x)(hxl:x.ev.names.length<=2^40/\x.ev.bQ.length<=2^40)(gl:Gl B):
  dE P 112 [.ptr b 0,.agg x.row] W (λv k=>Kg B W b V x.ev v k):=by
 obtain⟨g,rfl⟩:=he;exact M3 T o w hl ox hxl gl
def Qu{V b}(he:Ext B W)(o:cg B.length W b V)(w:lJ V.bP)(hl:V.cN.length<=1000)(gl:Gl B)(pw:Pw B)(Z:nj P){sv ws}(hs:aI W sv 1 (ws.map ak))(hwl:∀x∈ws,x.length<=2^40)
  (hlen:ts.length=97) (t0:slot ts 0=.ptr b 0) (t7:slot ts 7=sv):WC P bL (J7 6) [] ts W (FQ [(4,none),(5,none)] λv k=>lQ B W b V (rF V.bP ws) v k):=by
 have Tz:=n8 ws;have Wd:V.bP.cN.length=V.cN.length:=by simp[HV.bP]
 have lb:=@fw _ _ _ o.hb;have Vc:=o.rd.ie.aL;unfold J7 fn43;simp only[ai.j,ai.s,ai.r,ai.dr,ai.tl,ai.hd];refine Rs (A2 t0 t7) ?_;refine WF.res T.c111 (r111 T Z hs hwl) ?_;rintro _ g1 ⟨x,hx,rfl,fn,fv⟩;have ox:bj (W++g1) x:=⟨fn.aO,fv.aO⟩;obtain⟨x',SA⟩:∃x':EV,x' =⟨{x.ev with num:=(V.cN.length:Int)+1},x.sn,x.sv⟩:=⟨_,rfl⟩;have hrow:x'.row=x.row.set 0 (.i ((V.cN.length:Int)+1)):=by rw[SA];rfl
 have TA:x'.ev.num=(V.cN.length:Int)+1:=by rw[SA]
 have hev:({ (cp ws).1 with num:=(V.bP.cN.length:Int)+1}:fi)=x'.ev:=by rw[SA,hx,Wd]
 have Vr:bj (W++g1) x':=by rw[SA];exact⟨ox.n,ox.v⟩
 have SB:rF V.bP ws=if(cp ws).2=false then(V.bP,[],25)else if 1000<=V.cN.length then(V.bP,[],5)else if ez V.bP x'.ev≠0 then(V.bP,[],ez V.bP x'.ev)else(ka V.bP x'.ev,[100,111,110,101,32]++ee ((V.cN.length:Int)+1),0):=by
  unfold rF;rw[hev,Wd]
 have st:∀{b':Nat}{a0 a1 a2 a3 a4:AV},kG 5 0 (.agg x.row) b' (.b [a0,a1,a2,a3,a4])=some (aA,.set b' (.b x.row)):=λ{_ _ _ _ _ _}=>ox.st
 have jd:∀{b':Nat},kG 1 0 (.i ((V.cN.length:Int)+1)) b' (.b x.row)=some (aA,.set b' (.b x'.row)):=λ{b'}=>by
  exact z105
 have hpost:rF V.bP ws=rF V.bP ws:=rfl;generalize hfm:(cp ws).2=fm at SB ⊢;cases fm with
 |false=>
  refine Rs (A4 t0 t7 @st @aai) ?_;refine WF.ce T.c85 (r85 T _ _) λg2=>?_
  refine Rs (A4 t0 t7 @lb @Vc) ?_;refine WF.ce T.c85 (r85 T _ _) λg3=>?_
  refine Rs (A2 t0 t7) ?_;refine WF.ce T.c74 (r74 T (cH [_,_]) Si) λg4=>?_
  have e0:∀c,bn [bW true 25,bW c 5]=25:=λc=>by cases c<;>rfl
  have d0:decide ((25:Int)≠0)=true:=rfl;refine Rs (A3 t0 e0 @d0) ?_;exact lQ.same o he Xx (by rw[SB];rfl)
 |true=>
  rw[ZW Si]at SB;refine Rs (A4 t0 t7 @st @aad) ?_;refine WF.ce T.c85 (r85 T _ _) λg2=>?_
  refine Rs (A4 t0 t7 @lb @Vc) ?_;refine WF.ce T.c85 (r85 T _ _) λg3=>?_
  refine Rs (A2 t0 t7) ?_;refine WF.ce T.c74 (r74 T (cH [_,_]) Si) λg4=>?_
  by_cases hk:1000<=V.cN.length
  ·have dk:decide ((1000:Int)<=(V.cN.length:Int))=true:=ZR Om;have e0:bn [bW false 25,bW true 5]=5:=rfl;have d0:decide ((5:Int)≠0)=true:=rfl;rw[ZY hk]at SB;refine Rs (A4 t0 @dk e0 @d0) ?_;exact lQ.same o he Xx SB
  ·have dk:decide ((1000:Int)<=(V.cN.length:Int))=false:=ZN Om;have e0:bn [bW false 25,bW false 5]=0:=rfl;have d0:decide ((0:Int)≠0)=false:=rfl;rw[ZW hk]at SB;have w1:IntKind.i64.wrap ((V.cN.length:Int)+1)=(V.cN.length:Int)+1:=aZ Om Om;refine Rs (A9 t0 @dk e0 @d0 @lb @Vc @w1 @jd @bS) ?_;obtain⟨Y,hY⟩:∃Y,Y=W++g1++[an.b x'.row]++g2++g3++[an.cells [.i (bW false 25),.i (bW false 5)] true true]++g4:=⟨_,rfl⟩;rw[<-hY];have Xz:Ext W Y:=by rw[hY];exact Xx
   have oY:cg B.length Y b V:=by obtain⟨z,hz⟩:=Xz;rw[hz];exact o.app z
   have oxY:bj Y x':=by rw[hY];exact Vr.ext Xx
   have m12:Y[(W++g1).length]? =some (.b x'.row):=by rw[hY];exact Ext.some (h:=W++g1++[an.b x'.row]) Xx (by rw[Z1 (Z0 _),aaR];rfl)
   refine WF.gen T.c112 (NA T (he.trans Xz) oY w Om oxY ⟨by rw[SA];show x.ev.names.length<=_;rw[hx];omega,by rw[SA];show x.ev.bQ.length<=_;rw[hx];omega⟩ gl) ?_;rintro _ _ ⟨g',V',rfl,rfl,YX,Wc,hkp,hexn⟩;have hYl:W.length<=Y.length:=by obtain⟨z,hz⟩:=Xz;rw[hz,ZL];omega
   have hkW:∀i,i<W.length->some i∉V.ex b->(B++g')[i]? =W[i]? :=λi hi hn=>by
    rw[hkp i Om hn];obtain⟨z,hz⟩:=Xz;rw[hz,ZQ hi]
   have hexW:∀j,some j∈V'.ex b->some j∈V.ex b\/W.length<=j:=λj hj=>(hexn j hj).imp id λh=>by omega
   by_cases Uc:ez V.bP x'.ev=0
   ·have d:decide (ez V.bP x'.ev≠0)=false:=ZN (λz=>z Uc);rw[ZY Uc]at Wc;rw[ZW (λz=>z Uc)]at SB;have m12':(B++g')[(W++g1).length]? =some (.b x'.row):=by
     rw[hkp _ (ZM.1 m12).1 (λhj=>by have:=o.Dh hj;simp only[ZL]at this;omega)];exact m12
    have l12:aq none (.ptr (W++g1).length 0) (λz=>(B++g')[z]?)=some (.i ((V.cN.length:Int)+1),.ar):=by rw[az m12',<-TA];rfl
    refine Rs (A3 t0 @d @l12) ?_;refine WF.ce T.c113 (Z.itoa Om Om (pw.ext ⟨_,rfl⟩)) λg5=>?_
    have hdl:=lA (k:=7) (u:=((V.cN.length:Int)+1).toNat) Om;rw[iw Om];have hdl:(ee ((V.cN.length:Int)+1)).length<=8:=by rw[jt];exact hdl
    have hbc:([100,111,110,101,32] :By).length+(ee ((V.cN.length:Int)+1)).length<2^62:=by
     simp only[ZP,ZT];omega
    have bc:=ep hbc;refine Rs (A2 t0 @bc) ?_;exact⟨g'++g5,V',by rw[ZO],by rw[SB],by rw[<-ZO];exact YX.app g5,by rw[SB,Wc],λi hi hn=>by
     rw[<-ZO,<-hkW i hi hn];have hil:i<(B++g').length:=by
      have e:=hkW i hi hn;rw[ZS hi]at e;exact(ZM.1 e).1
     exact ZQ hil,hexW⟩
   ·have d:decide (ez V.bP x'.ev≠0)=true:=ZR Uc;rw[ZW Uc]at Wc;rw[ZY Uc]at SB;refine Rs (A2 t0 @d) ?_;exact⟨g',V',rfl,by rw[SB],YX,by rw[SB,Wc],hkW,hexW⟩
end
def cg.ext{N h k b V}(o:cg N h b V)(e:Ext h k):cg N k b V:=by obtain⟨z,rfl⟩:=e;exact o.app z
def sg{b o}:mS Ke.yJ (.ptr b o) .nilPtr=some false:=rfl
section
variable {P:Program}(T:fD P) {B g:ah}
include T
def RQ{V b}(o:cg B.length (B++g) b V)(w:lJ V.bP)(hl:V.cN.length<=1000)(gl:Gl B)(pw:Pw B)(X:xX P)(Z:nj P)(s:By)(hs:s.length<=2^36):
  dE P 43 [.ptr b 0,.str s] (B++g) (λv k=>lQ B (B++g) b V (pV V.bP s) v k):=by
 refine .of T.mix (acb T.c43 (aan some Qv)) ?_;obtain⟨ts,Sv⟩:∃ts,ts=aU 97 [.ptr b 0,.str s]:=⟨_,rfl⟩;have hlen:ts.length=97:=by rw[Sv];rfl
 have t0:slot ts 0=.ptr b 0:=by rw[Sv];rfl
 have t1:slot ts 1=.str s:=by rw[Sv];rfl
 obtain⟨RR,TC⟩:∃RR,RR=J7 6:=⟨_,rfl⟩;show WC P bL _ [] (aU 97 [.ptr b 0,.str s]) (B++g) (FQ _ (λv k=>lQ B (B++g) b V (pV V.bP s) v k));rw[<-Sv,<-TC];clear Sv;have he:Ext B (B++g):=⟨g,rfl⟩;obtain⟨W,hW⟩:∃W,W=B++g:=⟨_,rfl⟩;rw[<-hW]at o he ⊢;have eW:Ext W W:=Ext.refl W;have hregs:V.da.length<=1000:=by
  have e1:=w.ln;have e2:=w.le;exact Ld
 have Uo:=Dk (H:=V.bP) (s:=s);unfold Jp J7 fn43;simp only[ai.j,ai.s,ai.r,ai.dr,ai.tl,ai.hd];refine Rs (A3 t0 t1 @sg) ?_;refine WF.ce T.c85 (r85 T _ _) λg1=>?_
 refine Rs (A2 t0 t1) ?_;refine WF.ce T.c85 (r85 T _ _) λg2=>?_
 refine Rs (A2 t0 t1) ?_;refine WF.ce T.c74 (r74 T (cH [_,_]) Si) λg3=>?_
 by_cases h1:4096<s.length
 ·have d1:decide ((4096:Int)<(s.length:Int))=true:=ZR Om;have e0:∀c,bn [bW true 26,bW c 25]=26:=λc=>by cases c<;>rfl
  have d0:decide ((26:Int)≠0)=true:=rfl;rw[ZY h1]at Uo;refine Rs (A5 t0 t1 @d1 e0 @d0) ?_;exact lQ.same o he Xx Uo
 have d1:decide ((4096:Int)<(s.length:Int))=false:=ZN Om;rw[ZW h1]at Uo;by_cases h2:s=[]
 ·have d2:decide (s=[])=true:=ZR h2;have e0:bn [bW false 26,bW true 25]=25:=rfl;have d0:decide ((25:Int)≠0)=true:=rfl;rw[ZY h2]at Uo;refine Rs (A6 t0 t1 @d1 @d2 e0 @d0) ?_;exact lQ.same o he Xx Uo
 have d2:decide (s=[])=false:=ZN h2;rw[ZW h2]at Uo;have e0:bn [bW false 26,bW false 25]=0:=rfl;have d0:decide ((0:Int)≠0)=false:=rfl;refine Rs (A6 t0 t1 @d1 @d2 e0 @d0) ?_;refine WF.res T.c64 (r64 T X s 32 Om) ?_;intro sv g4 hv;have hwl:=tA (c:=32) (s:=s) (n:=2^40) Om;have hwn:(aF 32 s).length<=s.length+1:=by
  rw[jS];have:=abO (a:=(32:UInt8)) (l:=s);omega
 have hne:0<(aF 32 s).length:=aba.2 fJ;obtain⟨ws,hws⟩:∃ws,ws=aF 32 s:=⟨_,rfl⟩;rw[<-hws]at hv hwl hwn hne Uo;have Y8:ws[0]=ws.headD []:=by
  clear hv hwl hwn Uo hws;cases ws with|nil=>simp at hne|cons a r=>rfl
 obtain⟨Y,hY⟩:∃Y,Y=W++g1++g2++[an.cells [.i (bW false 26),.i (bW false 25)] true true]++g3++g4:=⟨_,rfl⟩;rw[<-hY]at hv ⊢;have Xz:Ext W Y:=by rw[hY];exact Xx
 have oY:cg B.length Y b V:=o.ext Xz;have eB:=he.trans Xz;have lP:=hv.lP (kk:=.i64) hne;have ld0:∀{k:ah},Ext Y k->aq none (cF sv 1 0) (λb=>k[b]?)=some (.str (ws.headD []),.ar):=λ{k} e=>by rw[<-Y8];exact hv.gR (i:=0) hne rfl e
 clear o he;refine Rs (A2 t0 t1) ?_;refine WF.res T.c109 (r109 T) ?_;rintro _ g5 ⟨rfl,hg⟩;have hg:g5=[.bu CF]:=abC hg;subst hg;have lk:∀{z:AV},jj .s z true (.map Y.length) (.str (ws.headD [])) (λb=>(Y++[an.bu CF])[b]?)=lX z true ((jE (ws.headD [])).map j5):=CX (by rw[Z1 (Z0 _),aaR];rfl);cases hq:jE (ws.headD [])with
 |some q=>
  obtain⟨i,nm,wt⟩:=q;rw[hq]at lk Uo;have Th:∀{z:AV},_=some (AV.dz [.agg [.bool nm,.i (wt:Nat),.func (.func (qF i)) [] []],.bool true],jv.ar):=@lk;refine Rs (A7 t0 t1 @lP @ld0 @bX @Th @jr) ?_;refine WF.ce T.c110 (r110 T (oY.rd.ext Xx) w hregs Z (pw.ext (eB.trans Xx)) (hv.ext Xx) hne Om hq) λg6=>?_
  refine Rs t0 ?_;exact(lQ.same oY eB Xx Uo).low Xz
 |none=>
  rw[hq]at lk Uo;have Th:∀{z:AV},_=some (AV.dz [z,.bool false],jv.ar):=@lk;refine Rs (A7 t0 t1 @lP @ld0 @bX @Th @jr) ?_;clear lk Th;refine WF.res T.c90 (r90 T) ?_;rintro _ g6 ⟨vf,rfl,hk⟩;obtain⟨Y2,Ut⟩:∃Y2,Y2=Y++[an.bu CF]++[an.b [.bool false,.i 0,.nilFunc]]:=⟨_,rfl⟩;rw[<-Ut]at hk ⊢;have Vp:Ext Y Y2:=by rw[Ut];exact Xx
  have ld2:∀{k:ah},Ext Y2 k->aq none (cF sv 1 0) (λb=>k[b]?)=some (.str (ws.headD []),.ar):=λ{k} e=>ld0 (Vp.trans e)
  have lk:∀{z:AV},jj .s z true (.map Y2.length) (.str (ws.headD [])) (λb=>(Y2++g6)[b]?)=lX z true ((ff (ws.headD [])).map vf):=hk.look;cases hd:ff (ws.headD [])with
  |none=>
   rw[hd]at lk Uo;have Th:∀{z:AV},_=some (AV.dz [z,.bool false],jv.ar):=@lk;refine Rs (A8 t0 t1 @lP @ld2 @bX @Th @jr @aai) ?_;exact(lQ.same oY eB (Vp.trans Xx) Uo).low Xz
  |some d=>
   rw[hd]at lk Uo;have Th:∀{z:AV},_=some (AV.dz [vf d,.bool true],jv.ar):=@lk;obtain⟨rs,a,hvf,hr,ha,hab⟩:=(hk.k d).ex;rw[hvf]at Th;have c1:=mH d;have c2:=l9 d;have c3:=hr.one;refine Rs (mQ t0 t1 @lP @ld2 @bX @Th @aad @c1 @c2 @c3 @ha) ?_;have Uo:pV V.bP s=rF V.bP ws:=Uo;rw[TC,Uo];refine WC.G6 (Qu T (eB.trans (Vp.trans Xx)) (oY.ext (Vp.trans Xx)) w hl gl pw Z (hv.ext (Vp.trans Xx)) hwl (Sq t0) (Sq t0) (Sq t0)) ?_;rintro e ts' h' ⟨q1,v,q2,q3⟩;exact⟨q1,v,q2,lQ.low q3 (Xz.trans (Vp.trans Xx))⟩
end
def V0:HV:=⟨[],[],[],.af,.af,.af⟩
def NJ{h}:cg h.length (h++[.b [.af,.af,.af]]) h.length V0:=
 ⟨Z0 _,by rw[Z1 (Z0 _),aaR];rfl,.nil,.nil,.nil,si.2 ⟨λ_ _=>⟨by simp[sB,V0],by simp[sB,V0],by simp[sB,V0]⟩,λ_ z=>by simp[sB,V0]at z,λ_ z=>by simp[sB,V0]at z⟩,
  λx hx=>(by cases hx),λx hx=>(by cases hx),λx hx=>(by cases hx),λx hx=>(by cases hx)⟩
def NK{b}:∀j,some j∈V0.ex b->j=b:=λj hj=>by
 simp only[HV.ex,V0,sB,aap,aaI,abm,aak,reduceCtorEq]at hj;exact hj
def HN{H ws}(w:lJ H):lJ (rF H ws).1/\(rF H ws).1.cN.length<=H.cN.length+1:=by
 unfold rF;split
 ·exact⟨w,acn _⟩
 split
 ·exact⟨w,acn _⟩
 split
 ·exact⟨w,acn _⟩
 ·rename_i h;exact⟨w.add (abl.1 h),by rw[xW];omega⟩
def Lq{H s}(w:lJ H):lJ (pV H s).1/\(pV H s).1.cN.length<=H.cN.length+1:=by
 rw[Dk];split
 ·exact⟨w,acn _⟩
 split
 ·exact⟨w,acn _⟩
 split
 ·exact⟨w,acn _⟩
 split
 ·exact⟨w,acn _⟩
 exact HN w
def tM(x:By×By×Int):List AV:=[.str x.1,.str x.2.1,.i x.2.2]
def nh:ju->List (By×By×Int)->Option ju
 |H,[]=>some H
 |H,x::r=>if(pV H x.1).2.1=x.2.1/\(pV H x.1).2.2=x.2.2 then nh (pV H x.1).1 r else none
section
variable {P:Program}(T:fD P) {h:ah}
include T
def r70:ay P 70 [] h (λv h'=>v=.ptr h.length 0/\h' =h++[.b [.af,.af,.af]]):=by
 refine .of T.mix T.c70 ?_;unfold fn70 gA;exact Wn Tv
def r44{V b}(o:Ar h b V)(w:lJ V.bP)(hl:V.cN.length<=1000):
  ay P 44 [.ptr b 0] h (λv h'=>∃L':List EV,L'.map EV.ev=V.bP.cN/\eJ h' L' v):=by
 refine .jd 11 T.mix T.c44 ?_;intro ts hlen t0;unfold fn44 gA;have lb:=@fw _ _ _ o.hb;refine Rs (A3 t0 @sg @lb) ?_;refine WF.res T.c87 (r87 T ⟨o.ie,o.ae⟩ Om (λx hx=>by
  obtain⟨d,we⟩:=w.ev x.ev (aah hx);have h3:(aM d).length<=3/\bK d<=3:=by cases d<;>decide
  have:=we.nl;have:=we.vl;exact⟨Om,Om⟩)) ?_
 rintro v g ⟨L',hL,hf,hx⟩;refine Rs t0 ?_;exact⟨L',hL,hf.aO,λx SA=>(hx x SA).ok⟩
end
def IX(d:Kd):(bw d).length<=16:=by cases d<;>decide
def yP{e d}(we:kH e d):Q2 e/\(dX e).length<=520:=by
 have h3:(aM d).length<=3/\bK d<=3:=by cases d<;>decide
 have h1:=we.nl;have h2:=we.vl;have h4:=we.nu;have dl:∀{y:Int},0<=y->y<=999999999->(ee y).length<=64:=λ{y} h0 h1=>by have:=lA (k:=9) (u:=y.toNat) Om;rw[jt];omega
 have hb:(dX e).length<=520:=by
  have hj:=mJ (c:=32) (l:=sD e) λx hx=>by
   unfold sD at hx;simp only[ZX,aap,aaI,abm,aal]at hx;rcases hx with((rfl|rfl)|hx)|⟨y,hy,rfl⟩
   ·exact Ea
   ·have:=IX d;rw[bZ we.kd];omega
   ·have:=om (we.nm x hx);omega
   ·have:=we.vr y hy;exact dl Om Om
  have hl:(sD e).length<=8:=by
   unfold sD;simp only[ZL,ZP,ZT,ZU];omega
  unfold dX;omega
 exact⟨⟨Om,λx hx=>by have:=we.vr x hx;omega,Om,Om,Om⟩,hb⟩
section
variable {P:Program}(T:fD P) {h:ah}
include T
def r45(Z:nj P)(pw:Pw h){V b}(o:Ar h b V)(w:lJ V.bP)(hl:V.cN.length<=1000):
  ay P 45 [.ptr b 0] h (λv _=>v=.str (iL V.bP.cN)):=by
 refine .jd 12 T.mix T.c45 ?_;intro ts hlen t0;unfold fn45 gA;have lb:=@fw _ _ _ o.hb;refine Rs (A3 t0 @sg @lb) ?_;refine WF.res T.c115 (r115 T o.ie (λx hx=>⟨(o.ae x hx).n.one,(o.ae x hx).v.one⟩) Om (λx=>lU x.ev) (λx hx k e=>by
  obtain⟨d,we⟩:=w.ev x.ev (aah hx);exact bH.of (a:=[]) (c:=[]) T.c97 (r97 T Z ((o.ae x hx).ext e) (yP we).1 (pw.ext e)))) ?_
 rintro v g hf;refine Rs t0 ?_;have Tc:(V.cN.map λx=>lU x.ev).flatten.length<=V.cN.length*529:=by
  have:∀L:List EV,(∀x∈L,(lU x.ev).length<=529)->(L.map λx=>lU x.ev).flatten.length<=L.length*529:=by
   intro L
   induction L with
   |nil=>intro _;simp
   |cons x r ih=>
    intro hx;have h1:=ih λy hy=>hx y (aao _ hy)
    have h2:=hx x Si;rw[aaJ,aa0,ZL,ZP,aa5];omega
  refine this _ λx hx=>?_
  obtain⟨d,we⟩:=w.ev x.ev (aah hx);have:=(yP we).2;rw[CB T Z];omega
 refine WF.ce T.c114 (Z.join hf.aO ⟨by rw[C4];omega,by rw[ZU];omega⟩) λg2=>?_
 refine Rs t0 ?_;rw[C4,iL,HV.bP,abt];rfl
end
section
variable {P:Program}(T:fD P) {B:ah}
include T
def Qt{W V b}(he:Ext B W)(o:cg B.length W b V)(w:lJ V.bP)(hl:V.cN.length<=1000)(gl:Gl B)(pw:Pw B)(X:xX P)(Z:nj P)(s:By)(hs:s.length<=2^36):
  dE P 43 [.ptr b 0,.str s] W (λv k=>lQ B W b V (pV V.bP s) v k):=by
 obtain⟨g,rfl⟩:=he;exact RQ T o w hl gl pw X Z s hs
omit T in
theorem Ek{h k s es cs}(hs:aI h s es cs)(hk:∀j,sB s=some j->j<h.length->k[j]? =h[j]?):aI k s es cs:=by
 cases hs with
 |nil=>exact .nil
 |mk hb hf ho he=>
  have:=hk _ rfl (ZM.1 hb).1;exact .mk (this.trans hb) hf ho he
omit T in
theorem LN{h s es cs}(hs:aI h s es cs){j}(hj:sB s=some j):j<h.length:=by
 cases hs with
 |nil=>cases hj
 |mk hb _ _ _=>cases hj;exact(ZM.1 hb).1
def R7{g V b}(o:cg B.length (B++g) b V)(w:lJ V.bP)(gl:Gl B)(pw:Pw B)(X:xX P)(Z:nj P){s L}(hs:aI (B++g) s 3 (L.map tM))(hns:∀j,sB s=some j->some j∉V.ex b)
  (hlL:V.cN.length+L.length<=1000) (bP:∀x∈L,x.1.length<=2^36) {H'}(ha:nh V.bP L=some H'):
  dE P 71 [.ptr b 0,s] (B++g) (λv k=>v=.bool true/\∃g' V',k=B++g'/\cg B.length (B++g') b V'/\V'.bP=H'/\lJ V'.bP/\V'.cN.length<=1000):=by
 refine .fo 35 T.mix T.c71 ?_;intro ts hlen t0 t1;unfold fn71 gA;refine Rs (A4 t0 t1 @sg hs.aL) ?_;refine WL.inv T.mix (λn ts h'=>∃(k:Nat) (V':HV) (g':ah),k<=L.length/\n=L.length-k/\h' =B++g'/\cg B.length (B++g') b V'/\lJ V'.bP/\V'.cN.length<=V.cN.length+k/\nh V'.bP (L.drop k)=some H'/\aI (B++g') s 3 (L.map tM)/\(∀j,sB s=some j->some j∉V'.ex b)/\
   ts.length=35/\slot ts 0=.ptr b 0/\slot ts 11=s/\slot ts 12=.i L.length/\slot ts 13=.i k) L.length
  ⟨0,V,g,Om,rfl,rfl,o,w,Om,ha,hs,hns,Sn,(Sq t0),(Sq t1),(Sq t0),gf⟩ ?_
 clear t0 t1 hlen o w hs hns ha;clear ts;rintro _ ts _ ⟨k,V',g',hk,rfl,rfl,o,w,hVl,ha,hs,hns,hlen,t0,t11,t12,t13⟩;by_cases hlt:k<L.length
 ·have e3:=eF hlt;have e5:=wrapN (n:=k) Om;have ix:=hs.dA (kk:=.i64) hlt;have ld:∀{k'},Ext (B++g') k'->aq (some 3) (cF s 3 k) (λb=>k'[b]?)=some (.agg (tM L[k]),.ar):=λ{k'} e=>hs.kR hlt e
  obtain⟨⟨a,m,c⟩,hx⟩:∃x,x=L[k]:=⟨_,rfl⟩;have hm:(a,m,c)∈L:=by rw[hx];exact ZZ _
  have hd:L.drop k=(a,m,c)::L.drop (k+1):=by rw[hx];simp
  rw[<-hx]at ld;unfold tM at ld;rw[hd,nh]at ha;split at ha
  case isFalse=>cases ha
  case isTrue hc=>
  have hc1:(pV V'.bP a).2.1=m:=hc.1;have Yv:(pV V'.bP a).2.2=c:=hc.2;have hwd:=Lq (s:=a) w;obtain⟨W,hW⟩:∃W,W=B++g'++[an.b [.str a,.str m,.i c]]:=⟨_,rfl⟩;have eW:Ext (B++g') W:=by rw[hW];exact Xx
  have mW:W[(B++g').length]? =some (.b [.str a,.str m,.i c]):=by rw[hW,Z1 (Z0 _),aaR];rfl
  have lW:∀{kk:ah}{n':Option Nat}{q:Nat},kk[(B++g').length]? =some (.b [.str a,.str m,.i c])->aq n' (.ptr (B++g').length q) (λz=>kk[z]?)=dK n' q (.b [.str a,.str m,.i c]):=λe=>az e
  refine Rs (A7 t0 t11 t12 t13 e3 ix @ld) ?_;rw[<-hW];have lW1:=λ{n':Option Nat}{q:Nat}=>@lW W n' q mW
  refine Rs (A5 t0 t11 t12 t13 @lW1) ?_;refine WF.gen T.c43 (Qt T ((Ext.app _ (Ext.refl _):Ext B (B++g')).trans eW) (o.ext eW) w Om gl pw X Z a (bP _ hm)) ?_;rintro _ _ ⟨g2,V2,rfl,rfl,o2,hV2,hkp,hex⟩;have hWl:W.length=(B++g').length+1:=by rw[hW,ZL];rfl
  have m2:(B++g2)[(B++g').length]? =some (.b [.str a,.str m,.i c]):=by
   rw[hkp _ Om (λhj=>by have:=o.Dh hj;omega)];exact mW
  have lW2:=λ{n':Option Nat}{q:Nat}=>@lW (B++g2) n' q m2
  have d1:decide (m≠m)=false:=ZN (λz=>z rfl);have d2:decide (c≠c)=false:=ZN (λz=>z rfl);rw[hc1,Yv];refine Rs (A8 t0 t11 t12 t13 @lW2 @d1 @d2 e5) ?_;have hsW:=hs.ext eW;refine⟨L.length-(k+1),Om,k+1,V2,g2,Om,rfl,rfl,o2,by rw[hV2];exact hwd.1,?_,by rw[hV2];exact ha,Ek hsW λj hj hl=>hkp j hl (hns j hj),λj hj hx=>?_,rfl⟩
  ·have e1:V2.cN.length=V2.bP.cN.length:=by simp[HV.bP]
   have e2:V'.cN.length=V'.bP.cN.length:=by simp[HV.bP]
   have:=hwd.2;rw[<-hV2]at this;omega
  ·rcases hex j hx with hx|hx
   ·exact hns j hj hx
   ·have:=LN hs hj;omega
 ·have e3:=fq hlt;have e4:k=L.length:=Om
  rw[e4,aaT,nh]at ha;cases ha;refine Rs (A5 t0 t11 t12 t13 e3) ?_;exact⟨g',V',rfl,o,rfl,w,Om⟩
end
def J9:List (By×By×Int):=[
 ([116,97,112,101,32,97,32,49,32,49,48],[100,111,110,101,32,49],0),
 ([116,97,112,101,32,98,32,53,32,49,48,48],[100,111,110,101,32,50],0),
 ([108,105,110,101,32,108,49,32,53,32,50],[100,111,110,101,32,51],0),
 ([115,104,111,116,32,115,49,32,108,49,32,97,32,54],[100,111,110,101,32,52],0),
 ([115,104,111,116,32,115,50,32,108,49,32,98,32,55],[100,111,110,101,32,53],0),
 ([99,111,112,121,32,97,32,98,32,56],[100,111,110,101,32,54],0),
 ([116,97,112,101,115,32,115,49],[97,32,98],0),
 ([99,111,112,121,32,97,32,98,32,49,50],[],30),
 ([119,97,110,116,32,108,49],[50,32,50,32,111,112,101,110],0),
 ([97,99,99,101,112,116,32,108,49,32,57],[100,111,110,101,32,55],0),
 ([115,104,111,116,32,115,51,32,108,49,32,98,32,57],[],23),
 ([115,111,117,114,99,101,32,109,49,32,108,49,32,57],[100,111,110,101,32,56],0),
 ([109,111,100,117,108,101,32,109,50,32,109,49,32,57,32,50],[100,111,110,101,32,57],0),
 ([109,111,100,117,108,101,32,109,51,32,109,50,32,57,32,51],[100,111,110,101,32,49,48],0),
 ([109,111,100,117,108,101,32,109,52,32,109,49,32,57,32,51],[],2),
 ([109,101,114,103,101,32,109,52,32,109,49,32,109,50,32,57],[],2),
 ([114,117,110,32,106,49,32,109,51,32,49,48,32,51],[100,111,110,101,32,49,49],0),
 ([116,105,108,101,32,106,49,32,49,48,32,50,32,55],[100,111,110,101,32,49,50],0),
 ([116,105,108,101,32,106,49,32,49,48,32,48,32,53],[100,111,110,101,32,49,51],0),
 ([108,101,102,116,32,106,49],[49],0),
 ([102,97,105,108,32,106,49,32,49,49,32,50],[100,111,110,101,32,49,52],0),
 ([108,101,102,116,32,106,49],[49,32,50],0),
 ([112,105,99,116,117,114,101,32,112,49,32,106,49,32,49,49],[],32),
 ([116,105,108,101,32,106,49,32,49,49,32,49,32,54],[100,111,110,101,32,49,53],0),
 ([116,105,108,101,32,106,49,32,49,49,32,50,32,55],[100,111,110,101,32,49,54],0),
 ([112,105,99,116,117,114,101,32,112,49,32,106,49,32,49,50],[100,111,110,101,32,49,55],0),
 ([102,114,111,109,32,112,49],[115,49,32,115,50],0),
 ([108,105,110,101,115,32,109,51],[108,49],0),
 ([117,110,115,97,102,101],[110,111,110,101],0),
 ([114,101,108,101,97,115,101,32,112,49,32,49,50],[100,111,110,101,32,49,56],0),
 ([117,110,100,111],[],21),
 ([114,101,108,101,97,115,101,100],[112,49,32,53,50,57,49,55,52],0)]
def vC:ju:=(nh ju.zero J9).getD ju.zero
set_option maxRecDepth 100000 in
def Nq:(nh ju.zero J9).isSome=true:=by decide+kernel
set_option maxRecDepth 100000 in
def JB:vC.cN.length=18:=by decide+kernel
set_option maxRecDepth 100000 in
def DE:wg (vC.cN.take 5) [115,49] 12=(false,0):=by decide+kernel
set_option maxRecDepth 100000 in
def DD:wg vC.cN [115,49] 105=(true,0):=by decide+kernel
set_option maxRecDepth 100000 in
def Jx:qR vC.cN 106=([[115,49],[115,50]],0):=by decide+kernel
set_option maxRecDepth 100000 in
def F0:zL vC.cN [109,51]=([[109,49],[109,50],[109,51]],0):=by decide+kernel
set_option maxRecDepth 100000 in
def JC:Fu [5,6,7]=(529174,0):=by decide+kernel
set_option maxRecDepth 100000 in
def xS:(nv vC.cN [108,49]).1.length=8/\(nv vC.cN [108,49]).2=0:=by decide+kernel
set_option maxRecDepth 100000 in
def JA:(iL vC.cN).length<=100000:=by decide+kernel
set_option maxRecDepth 100000 in
def Jz:(cj (iL vC.cN++[49])).2.2=28/\(cj (iL vC.cN++[49])).1.length=18/\(cj (iL vC.cN++[49])).2.1=(iL vC.cN).length:=by decide+kernel
set_option maxRecDepth 100000 in
def Jy:jo [49,49]=[48,49,51,49,53,56,49]:=by decide+kernel
def Af{h c N}:ng .N3 (.slice h.length 0 1 1) (λb=>(h++[an.cells [.int .u8 c] true true])[b]?) N=some (.str [UInt8.ofNat c.toNat],.ar):=by
 simp only[ng,fL,Z7,ba];rfl
def Aa{n}(h0:0<=n)(h1:n<10):UInt8.ofNat (IntKind.u8.wrap (IntKind.i64.wrap (48+n))).toNat=UInt8.ofNat (48+n.toNat):=by
 rw[aZ Om Om,BN Om Om];congr 1;omega
section
variable {P:Program}(T:fD P)
include T
set_option maxRecDepth 10000 in
def r197:∀{k}{n}{h},0<=n->n<10^(k+1)->k<=15->ay P 197 [.i n] h (λv _=>v=.str (ee n)):=by
 intro k
 induction k with
 |zero=>
  intro n h h0 h1 _;refine .of T.mix T.c197 ?_;unfold fn197 gA;have h10:n<10:=by simpa using h1
  have d0:decide (n<0)=false:=ZN Om;exact Lo
 |succ k ih=>
  intro n h h0 h1 hk;refine .of T.mix T.c197 ?_;unfold fn197 gA;have d0:decide (n<0)=false:=ZN Om;by_cases h10:n<10
  ·exact Lo
  ·have d1:decide (n<10)=false:=ZN h10;have hb:n<=10^17:=by
    have:(10:Int)^(k+1+1)<=10^17:=by
     have:=Nat.pow_le_pow_right (n:=10) De (show k+1+1<=17 by omega)
     exact_mod_cast this
    omega
   have eq:n.tdiv 10=n / 10:=Int.tdiv_eq_ediv_of_nonneg h0;have em:n.tmod 10=n%10:=Int.tmod_eq_emod_of_nonneg h0;have w1:IntKind.i64.wrap (n / 10)=n / 10:=aZ Om Om;have bq:fe .quo (.i n) (.i 10)=some (.i (n / 10)):=by rw[FK De,eq,w1]
   have bm:fe .rem (.i n) (.i 10)=some (.i (n%10)):=by rw[o9 De,em]
   refine Ws (A4 @d0 @d1 @bq @bm) ?_;refine WF.ce T.c197 (ih Om (by rw[Int.pow_succ]at h1;omega) Om) λg1=>?_
   have hd:=lA (k:=k) (u:=(n / 10).toNat) (by
    have h2:n / 10<10^(k+1):=by rw[Int.pow_succ]at h1;omega
    have h3:(((n / 10).toNat:Nat):Int)<((10^(k+1):Nat):Int):=by rw[Int.toNat_of_nonneg Om];exact_mod_cast h2
    exact_mod_cast h3)
   have bc:∀{c:UInt8},fe .add (.str (ee (n / 10))) (.str [c])=some (.str (ee (n / 10)++[c])):=ep (by rw[jt];simp;omega);refine Ws (A5 @bq @bm @vu @Af @bc) ?_;rw[Aa Om Om,jt,jt,Lib.decDigits.eq_def n.toNat,dif_neg Om];congr 3
   ·omega
   ·congr 2;omega
def r108{k n h}(h0:0<=n)(h1:n<10^(k+1))(hk:k<=15):ay P 108 [.i n] h (λv _=>v=.str (ee n)):=by
 refine .of T.mix T.c108 ?_;unfold fn108 gA;refine Wn ?_;refine WF.ce T.c197 (r197 T h0 h1 hk) λg=>?_
 exact Wn Tv
set_option maxRecDepth 10000 in
def r72{h}(s:By)(hs:s.length<=2^40):ay P 72 [.str s] h (λv _=>v=.str (jo s)):=by
 refine .jd 28 T.mix T.c72 ?_;intro ts hlen t0;unfold fn72 gA;refine Rs t0 ?_;refine WL.inv T.mix (λn ts' h'=>∃k:Nat,k<=s.length/\n=s.length-k/\h' =h/\ts'.length=28/\slot ts' 0=.str s/\slot ts' 3=.i (jq (s.take k))/\slot ts' 4=.i k) s.length
  ⟨0,Om,rfl,rfl,(Sq t0),(Sq t0),gf,gf⟩ ?_
 rintro _ ts' hz ⟨k,hk,rfl,hh,S3,u0,u3,u4⟩;rw[hh];clear hh hz;clear hlen t0;have hlen:=S3;clear S3;by_cases hlt:k<s.length
 ·have e3:=eF hlt;have hb:=nQ (s.take k);have hcn:=UInt8.toNat_lt s[k];have w1:IntKind.i64.wrap (339*jq (s.take k))=339*jq (s.take k):=aZ Om Om;have w2:IntKind.i64.wrap (s[k].toNat:Int)=(s[k].toNat:Int):=aZ Om Om;have w3:IntKind.i64.wrap (339*jq (s.take k)+(s[k].toNat:Int))=339*jq (s.take k)+(s[k].toNat:Int):=aZ Om Om;have er:=o9 (k:=.i64) (a:=339*jq (s.take k)+(s[k].toNat:Int)) (b:=9999749) De;rw[<-vL,<-cY hlt]at er
  repeat (first|simp (config:={maxSteps:=1000000}) only[aQ,aR,aX,aY,reduceAdd,reduceMul,reduceLeDiff,reduceEqDiff,bd,hlen,Z3,Z7,u0,u3,u4,e3,cM hlt,w1,w2,w3,er,wrapN (show k+1<2^63 by omega)]|simp (config:={maxSteps:=1000000}) (disch:=first|(simp only[ZL,ZP,ZT]<;>omega)|rfl|omega|fail) only[eD,aQ,aR,aX,aY,reduceAdd,reduceMul,reduceLeDiff,reduceEqDiff,bd,hlen,Z3,Z7,u0,u3,u4,e3,cM hlt,w1,w2,w3,er,wrapN (show k+1<2^63 by omega)])
  exact KB
 ·have e3:=fq hlt;have ek:k=s.length:=Om
  rw[ek,aaj]at u3;have hb:=nQ s;have hl:=uy s;refine Rs (A4 @u0 @u3 @u4 e3) ?_;refine WF.ce T.c108 (r108 T (k:=7) hb.1 Om Om) λg=>?_
  refine Rs @u0 ?_;generalize hd:ee (jq s)=d at hl;have hT:jo s=List.replicate (7-d.length) 48++d:=by unfold jo;rw[hd]
  refine WL.inv T.mix (λn ts' h'=>∃j:Nat,d.length+j<=7/\n=7-(d.length+j)/\Ext h h'/\ts'.length=28/\slot ts' 5=.str (List.replicate j 48++d)) (7-d.length)
   ⟨0,Om,rfl,Xx,(Sq @u0),gf⟩ ?_
  rintro _ VV _ ⟨j,hj,rfl,⟨g2,rfl⟩,WH,v5⟩;clear hlen;have hlen:=WH;by_cases h7:d.length+j<7
  ·have e7:decide (((List.replicate j (48:UInt8)++d).length:Int)<7)=true:=ZR (by rw[ZL,aaV];omega);have hbc:([48] :By).length+(List.replicate j (48:UInt8)++d).length<2^62:=by rw[ZL,aaV];simp only[ZP,ZT];omega
   have bc:=ep hbc;refine Rs (A3 @v5 e7 @bc) ?_;exact⟨7-(d.length+(j+1)),Om,j+1,Om,rfl,rfl⟩
  ·have e7:decide (((List.replicate j (48:UInt8)++d).length:Int)<7)=false:=ZN (by rw[ZL,aaV];omega);have ej:j=7-d.length:=Om
   refine Rs (A2 @v5 e7) ?_;rw[hT,ej]
end
def J8(k:Nat):ai:=(fn15).body.dr k
def FY(k:Nat):ai:=(J8 k).hd
def Np:fn15=⟨158,0,[(0,none)],.seq (FY 0) (.seq (FY 1) (.seq (FY 2) (J8 3)))⟩:=rfl
def wU{h:ah}{M:List (By)}:aI (h++[an.cells (M.map ak).flatten true true]) (.slice h.length 0 (M.map ak).length 1) 1 (M.map ak):=(Fr.push (es:=1) (N:=0) (aam _) (M.map ak) (by simp[ak])).aO
section
variable {P:Program}(T:fD P) {h:ah}
include T
omit T in
theorem FZ:nh ju.zero J9=some vC:=by
 have:=Nq;unfold vC;generalize nh ju.zero J9=o at this ⊢;cases o with
 |none=>cases this
 |some x=>rfl
def Nv{B W V b}(he:Ext B W)(o:cg B.length W b V)(w:lJ V.bP)(gl:Gl B)(pw:Pw B)(X:xX P)(Z:nj P){s L}(hs:aI W s 3 (L.map tM))(hns:∀j,sB s=some j->some j∉V.ex b)
  (hlL:V.cN.length+L.length<=1000) (bP:∀x∈L,x.1.length<=2^36) {H'}(ha:nh V.bP L=some H'):
  dE P 71 [.ptr b 0,s] W (λv k=>v=.bool true/\∃g' V',k=B++g'/\cg B.length (B++g') b V'/\V'.bP=H'/\lJ V'.bP/\V'.cN.length<=1000):=by
 obtain⟨g,rfl⟩:=he;exact R7 T o w gl pw X Z hs hns hlL bP ha
def QJ(X:xX P)(Z:nj P){W:ah}(gl:Gl W)(pw:Pw W){V:HV}{b:Nat}(o:Ar W b V)(w:lJ V.bP)(hl:V.cN.length<=1000)(hV:V.bP=vC){ts:TS}(hlen:ts.length=158)(t1:slot ts 1=.ptr b 0)(he:Ext h W):
  WC P bL (J8 3) [] ts W (FQ [(0,none)] λv k=>Ext h k/\v=.bool true):=by
 unfold J8 fn15 gA;simp only[ai.j,ai.s,ai.r,ai.dr,ai.tl,ai.hd];refine Rs t1 ?_;refine WF.res T.c44 (r44 T o w hl) ?_;rintro sv g1 ⟨L,hL,oL⟩;rw[hV]at hL;have Xe:L.length=18:=by have:=aan List.length hL;rw[ZU,JB]at this;exact this
 have hsh:∀x∈L,x.ev.names.length<=2^30/\x.ev.bQ.length<=2^30:=λx hx=>by
  obtain⟨d,we⟩:=w.ev x.ev (by rw[hV,<-hL];exact aah hx);have h3:(aM d).length<=3/\bK d<=3:=by cases d<;>decide
  have:=we.nl;have:=we.vl;exact⟨Om,Om⟩
 have sh:x6 L:=⟨Om,hsh⟩;have d18:decide ((L.length:Int)≠18)=false:=ZN (λz=>z Om);obtain⟨s5,e5,h5⟩:=oL.sl.Ej (lo:=none) (hi:=some (.i 5)) (l:=0) (u:=5) (ku (k:=5) Om);have h5':aI (W++g1) s5 5 ((L.take 5).map EV.row):=h5;have o5:eJ (W++g1) (L.take 5) s5:=⟨h5',λx hx=>oL.all x (aaP hx)⟩;have sh5:x6 (L.take 5):=⟨by rw[aaw];omega,λx hx=>hsh x (aaP hx)⟩;have m5:(L.take 5).map EV.ev=vC.cN.take 5:=by rw[List.map_take,hL]
 refine Rs (A4 t1 oL.sl.aL @d18 e5) ?_;refine WF.ce T.c16 (r16 T o5 sh5 (gl.ext Xx) [115,49] 12) λg2=>?_
 rw[m5,DE];refine Rs t1 ?_;refine WF.ce T.c16 (r16 T (oL.ext Xx) sh (gl.ext Xx) [115,49] 105) λg3=>?_
 rw[hL,DD];refine Rs t1 ?_;refine WF.res T.c17 (r17 T (oL.ext Xx) sh (gl.ext Xx) 106) ?_;rintro _ g4 ⟨su,rfl,hu⟩;rw[hL,Jx]at hu ⊢;refine Rs t1 ?_;refine WF.res T.c51 (r51 T (oL.ext Xx) sh (gl.ext Xx) [109,51]) ?_;rintro _ g5 ⟨sn,rfl,hn⟩;rw[hL,F0]at hn ⊢;refine Rs t1 ?_;refine WF.ce T.c27 (r27 T (cH [5,6,7]) De) λg6=>?_
 rw[JC];refine Rs t1 ?_;refine WF.res T.c26 (r26 T (oL.ext Xx) sh (gl.ext Xx) [108,49]) ?_;rintro _ g7 ⟨ss,Ls,rfl,os,hLs⟩;rw[hL]at hLs ⊢;have hLsl:Ls.length=8:=by have:=aan List.length hLs;rw[ZU,xS.1]at this;exact this
 rw[xS.2];refine Rs t1 ?_;refine WF.ce T.c45 (r45 T Z (pw.ext Xx) (o.ext Xx) w hl) λg8=>?_
 rw[hV];have hlg:=JA;have hrc:=Jz;generalize iL vC.cN=lg at hlg hrc ⊢;have bc:=ep (show lg.length+([49] :By).length<2^62 by simp only[ZP,ZT];omega);refine Rs (A2 t1 @bc) ?_;refine WF.res T.c37 (r37 T X Z (pw.ext Xx) (lg++[49]) (by rw[ZL];simp only[ZP,ZT];omega)) ?_;rintro _ g9 ⟨Lr,sr,hLr,rfl,fr,-⟩;have hLrl:Lr.length=18:=by have:=aan List.length hLr;rw[ZU,hrc.2.1]at this;exact this
 rw[hrc.1,hrc.2.2];have d8:decide ((Ls.length:Int)=8)=true:=ZR Om;have d19:decide ((Lr.length:Int)=18)=true:=ZR Om;have wz:IntKind.i64.wrap ((0:Int)+0)=0:=rfl;have z0:decide ((0:Int)=0)=true:=rfl;refine Rs (A5 t1 @wz @z0 @aai @Z5) ?_;refine WF.res T.c25 (r25 T (L:=[[115,49],[115,50]]) (M:=[[115,49],[115,50]]) ?hu (wU (M:=[[115,49],[115,50]])) De De) ?_
 case hu=>exact hu.ext Xx
 rintro _ k1 rfl;have q1:decide (([[115,49],[115,50]] :List (By))=[[115,49],[115,50]])=true:=rfl;have q2:decide (([[109,49],[109,50],[109,51]] :List (By))=[[109,49],[109,50],[109,51]])=true:=rfl;rw[q1];refine Rs (A2 t1 @Z5) ?_;refine WF.res T.c25 (r25 T (L:=[[109,49],[109,50],[109,51]]) (M:=[[109,49],[109,50],[109,51]]) ?hn (wU (M:=[[109,49],[109,50],[109,51]])) De De) ?_
 case hn=>exact hn.ext Xx
 rintro _ k2 rfl;rw[q2];have q3:decide ((529174:Int)=529174)=true:=rfl;have q4:decide ((28:Int)=28)=true:=rfl;have q5:decide ((lg.length:Int)=(lg.length:Int))=true:=ZR rfl;refine Rs (A9 t1 q3 q4 q5 @d8 @d19 os.sl.aL fr.aO.aL @Z5) ?_;refine WF.ce T.c72 (r72 T [49,49] De) λk3=>?_
 have q6:decide (([48,49,51,49,53,56,49] :By)=[48,49,51,49,53,56,49])=true:=ZR rfl;rw[Jy];refine Rs (A3 t1 q6 @Z5) ?_;exact⟨he.trans Xx,trivial⟩
def r15(X:xX P)(Z:nj P)(gl:Gl h)(pw:Pw h):ay P 15 [] h (λv _=>v=.bool true):=by
 refine .of T.mix (acb T.c15 (aan some Np)) ?_;obtain⟨ts,Sv⟩:∃ts,ts=aU 158 []:=⟨_,rfl⟩;have hlen:ts.length=158:=by rw[Sv];rfl
 obtain⟨RR,TC⟩:∃RR,RR=J8 3:=⟨_,rfl⟩;show WC P bL _ [] (aU 158 []) h (FQ _ _);rw[<-Sv,<-TC];clear Sv;unfold FY J8 fn15 gA;simp only[ai.j,ai.s,ai.r,ai.dr,ai.tl,ai.hd];refine Rs @hlen ?_;refine WF.res T.c70 (r70 T) ?_;rintro _ g0 ⟨rfl,hg⟩;have hg:g0=[.b [.af,.af,.af]]:=abC hg;subst hg;refine Rs @hlen ?_;refine WF.gen T.c71 (Nv T (B:=h) (V:=V0) (b:=h.length) (L:=J9) (H':=vC) Xx (NJ.app _) lJ.zero gl pw X Z (Fr.push (N:=0) (h:=h++[an.b [.af,.af,.af]]) (es:=3) (aam _) (J9.map tM) (λx hx=>by obtain⟨y,_,rfl⟩:=aal.1 hx;rfl)).aO (λj hj hx=>by
  have:=NK j hx;have e:(h++[an.b [.af,.af,.af]]).length=j:=aaN hj;rw[ZL]at e;simp at e;omega) De De FZ) ?_
 rintro _ _ ⟨rfl,g',V',rfl,oV,hV,wV,hVl⟩;refine Rs (A2 @hlen @aad) ?_;rw[TC];exact QJ T X Z (gl.ext ⟨_,rfl⟩) (pw.ext ⟨_,rfl⟩) oV.rd wV hVl hV (Sq @hlen) (Sq @hlen) ⟨_,rfl⟩
end
def yI:Go.Proofs.Tryz.prog.globals.size=9:=by kernel_rfl
def Fl:Fm Go.Proofs.Tryz.prog 2=20:=by kernel_rfl
open Go.RowKit in
def Ff{h:ah}{n:Int}(h0:-9223372036854775808<=n)(h1:n<=9223372036854775807){mu tl:Bool}(hb:h[2]? =some (.cells (Lib.pow10Tab.map (AV.int .u64)) mu tl)):
  mw Go.Proofs.Tryz.prog 113 [.int .i64 n] h (.str (Lib.itoa n)) h:=by
 intro m w vs hr ha;obtain⟨v,vs1,rfl,hv,hr1⟩:=aT.1 ha;rw[bE]at hr1;subst hr1;rw[VR]at hv;subst hv;obtain⟨e,he,hcb,hd,-,fj⟩:=hr.gS 2 (by rw[yI];omega);obtain⟨cc,el,fz,hw,⟨hle,Vd,hsz2⟩,SG,-,-⟩:=hr.eO 2 e _ he hb;have htab:Lib.TabIs Go.Proofs.Tryz.prog w "internal/strconv.uint64pow10" .u64 Lib.pow10Tab:=by
  unfold Lib.TabIs World.var?;rw[Go.Proofs.Tryz.zO.m17];show(match w.heap[2]? with|some (.cells cs _ _)=>some cs|_=>none)=_;rw[hcb]at hw;rw[hw];have h20:cc.size=20:=by rw[hsz2,fj,Fl]
  refine aan some (Array.ext_getElem? λi=>?_);by_cases hi:i<20
  ·have hl:i<Lib.pow10Tab.length:=by rw[Lib.pow10Tab_length];exact hi
   obtain⟨_,cv,UD,Sz⟩:=SG i (.int .u64 Lib.pow10Tab[i]) (by rw[aa8,ZS hl];rfl);rw[VR]at Sz;rw[hd,aaD]at UD;rw[UD,Sz,abi,aa8,ZS hl];rfl
  ·rw[abo Om,abo (by rw[List.size_toArray,ZU,Lib.pow10Tab_length];omega)]
 refine(Go.Proofs.Any.strconv_Itoa Go.Proofs.Tryz.zO n h0 h1 w htab).mono ?_;rintro e' w' ⟨rfl,k,os,rfl⟩;have hh:∀i,i<w.heap.size->(Go.Sort.grow (w.drewN k) os).heap[i]? =w.heap[i]? :=λi hi=>by
  show(w.heap++os)[i]? =_;rw[Array.getElem?_append_left hi]
 have hs:w.heap.size<=(Go.Sort.grow (w.drewN k) os).heap.size:=by
  show w.heap.size<=(w.heap++os).size;simp
 exact⟨_,m,rfl,rfl,⟨hr.cT,λb' e' k' a1 a2=>(hr.eO b' e' k' a1 a2).heap (hh _ (hr.lt b' e' a1)),hr.sep,hr.gS,λb' e' a1=>aaG (hr.lt b' e' a1) hs⟩,
  ⟨λ_ _=>rfl,Z0 _,λb' e' a1 a2=>absurd (hr.cT b' e' a2) Om,λ_ _ x=>x,hs,rfl,rfl,rfl,λi hi _=>hh i hi⟩⟩
theorem tw:∀xs:List (By),(xs.map λx=>[AV.str x]).flatten=xs.map AV.str
 |[]=>rfl
 |x::xs=>by rw[aaJ,aa0,tw xs];rfl
def aI.inv{h:ah}{b o n e es:Nat}{cs:List (List AV)}(hs:aI h (.slice b o n e) es cs):n=cs.length/\∃c mu tl,h[b]? =some (.cells c mu tl)/\(c.drop o).take (cs.length*es)=cs.flatten:=by
 generalize hx:AV.slice b o n e=x at hs;cases hs with
 |nil=>cases hx
 |mk hb hf ho he=>cases hx;exact⟨rfl,_,_,_,hb,hf⟩
open Go.RowKit in
def Fe{h:ah}{s:AV}{sep:By}{xs:List (By)}(hs:aI h s 1 (xs.map λx=>[AV.str x]))(hl:(Lib.join xs sep).length<=140737488355328/\xs.length<=140737488355328):mw Go.Proofs.Tryz.prog 114 [s,.str sep] h (.str (Lib.join xs sep)) h:=by
 intro m w vs hr hargs;obtain⟨v1,vs1,rfl,Xp,hr1⟩:=aT.1 hargs;obtain⟨v2,vs2,rfl,Wk,TQ⟩:=aT.1 hr1;rw[bE]at TQ;subst TQ;rw[VR]at Wk;subst Wk;have fin:∀e w',(e=.returned (.string ⟨(Lib.join xs sep).toArray⟩)/\Below w.heap.size w w')->Rel Go.Proofs.Tryz.prog m h w (.str (Lib.join xs sep)) h e w':=by
  rintro e w' ⟨rfl,hb⟩;exact⟨_,m,rfl,rfl,⟨hr.cT,λb e k h1 h2=>(hr.eO b e k h1 h2).heap (hb.block _ (hr.lt b e h1)),hr.sep,hr.gS,λb e h1=>aaG (hr.lt b e h1) hb.size⟩,
   ⟨λ_ _=>rfl,Z0 _,λb e h1 h2=>absurd (hr.cT b e h2) Om,λ_ _ h=>h,hb.size,hb.os,hb.output,hb.tape,λi hi _=>hb.block i hi⟩⟩
 have zero:xs=[]->∀(a:Option Addr) (c:Nat),Calls Go.Proofs.Tryz.prog 114 #[.slice a 0 c,.string ⟨⟨sep⟩⟩] w (Rel Go.Proofs.Tryz.prog m h w (.str (Lib.join xs sep)) h):=λhx a c=>by
  refine(Go.Proofs.Tryz.strings_Join_none a c ⟨⟨sep⟩⟩ w).mono λe w' ⟨he,hw⟩=>fin e w' ⟨?_,hw▸Below.refl _ _⟩
  rw[he,hx];rfl
 have hlen:=hs.aL (λ_=>none);cases s with
 |af=>
  rw[VR]at Xp;subst Xp;simp only[Go.Abs.j9,Z7,aak]at hlen;exact zero (aaO.1 hlen.symm) none 0
 |slice b o n es=>
  simp only[Go.Abs.j9,Z7,aak]at hlen;subst hlen;rw[VR]at Xp;obtain⟨ent,ca,cap,he,rfl,hcap,Tl,fj⟩:=Xp;by_cases hz:xs.length=0
  ·have Uw:=aaO.1 hz;have:=zero Uw (some ca) cap;rw[hz];exact this
  ·have hca':=Tl Om;subst hca';generalize U3:xs.map (λx=>[AV.str x])=cs at hs;have hcl:cs.length=xs.length:=by rw[<-U3];simp
   obtain⟨_,c,mu,tl,hb,hf⟩:=hs.inv
   ·obtain⟨cc,el,fz,hheap,_,Tu,_⟩:=hr.eO b ent _ he hb;have key:=Go.Proofs.Tryz.strings_Join ent.cb (o+ent.d) cap (xs.map λl=>⟨⟨l⟩⟩) ⟨⟨sep⟩⟩ w ?_ (hr.lt b ent he) (by rw[ZU];exact hl.2) (by rw[ZU];omega) ?_
    ·rw[ZU]at key;refine key.mono λe w' ⟨he,hw⟩=>fin e w' ⟨?_,hw⟩
     rw[he,abt];simp[ab8]
    ·intro j x hx;rw[aa8,aag]at hx;obtain⟨l,SI,rfl⟩:=hx;have hj:j<xs.length:=(ZM.1 SI).1;have Yr:cs.flatten[j]? =some (.str l):=by
      rw[<-U3];have:=tw xs;rw[this,aa8,SI];rfl
     rw[<-hf,List.getElem?_take,ZY Om,ab2]at Yr;obtain⟨_,cv,UD,Sz⟩:=Tu _ _ Yr;rw[VR]at Sz;subst Sz;simp only[World.cell?,hheap,Option.isSome_none,aaC,Z3];rw[show o+ent.d+j=ent.d+(o+j) by omega];exact UD
    ·rw[abt]
     simpa [ab8]using hl.1
 |_=>cases hs
open Go.RowKit in
def tI{P:Program}{m:cw}{h:ah}{w:World}(hr:HR P m h w){a:AV}{v:Value}{e:Ending}{w':World}(hv:VR m a v)(he:e=.returned v)(hb:Below w.heap.size w w'):Rel P m h w a h e w':=
 ⟨v,m,he,hv,⟨hr.cT,λb e k h1 h2=>(hr.eO b e k h1 h2).heap (hb.block _ (hr.lt b e h1)),hr.sep,hr.gS,λb e h1=>aaG (hr.lt b e h1) hb.size⟩,
  ⟨λ_ _=>rfl,Z0 _,λb e h1 h2=>absurd (hr.cT b e h2) Om,λ_ _ h=>h,hb.size,hb.os,hb.output,hb.tape,λi hi _=>hb.block i hi⟩⟩
theorem qG:∀{s:By}{a:Nat},s.all cO=true->∃n,Lib.decFrom a s=some n/\(n:Int)=s.foldl (λn c=>10*n+((c.toNat:Int)-48)) (a:Int)
 |[],a,_=>⟨a,rfl,rfl⟩
 |c::s,a,h=>by
  simp only[abp,aaq]at h;have hc:=eG.1 h.1;have hd:Lib.digitVal c=some (c.toNat-48):=by unfold Lib.digitVal;rw[ZY hc]
  obtain⟨n,h1,h2⟩:=qG (s:=s) (a:=a*10+(c.toNat-48)) h.2;refine⟨n,by rw[Lib.decFrom,hd];exact h1,?_⟩;rw[h2,ab4];congr 1;omega
def DG{s:By}(h:s.all cO=true)(hn:s≠[]):Lib.atoi s=some (js s):=by
 obtain⟨n,h1,h2⟩:=qG (a:=0) h;cases s with
 |nil=>exact absurd rfl hn
 |cons c r=>
  have hc:=eG.1 (by simp only[abp,aaq]at h;exact h.1);have n1:(c==45)=false:=by
   exact Kw
  have n2:(c==43)=false:=by
   exact Kw
  rw[Lib.atoi,n1,n2,ZW De,ZW De,Lib.decNat,ZW Si,h1,abF,h2];rfl
open Go.RowKit in
def F1{h:ah}{s:By}(hd:s.all cO=true)(hn:s≠[])(hl:s.length<=9):mw Go.Proofs.Tryz.prog 254 [.str s] h (.dz [.int .i64 (js s),.la]) h:=by
 intro m w vs hr ha;obtain⟨v,vs1,rfl,hv,hr1⟩:=aT.1 ha;rw[bE]at hr1;subst hr1;rw[VR]at hv;subst hv;refine(Go.Proofs.Any.strconv_Atoi Go.Proofs.Tryz.E4 ⟨⟨s⟩⟩ (js s) (by show s.length<=18;omega) (DG hd hn) w).mono ?_;rintro e' w' ⟨rfl,t,rfl⟩;exact tI hr ⟨_,rfl,aT.2 ⟨_,_,rfl,rfl,aT.2 ⟨_,_,rfl,rfl,rfl⟩⟩⟩ rfl (Lib.bytesWorld_below _ _ _)
open Go.RowKit in
def Ih{h:ah}{n:Nat}(hn:n<=7):mw Go.Proofs.Tryz.prog 252 [.str [48],.int .i64 (n:Nat)] h (.str (List.replicate n 48)) h:=by
 intro m w vs hr ha;obtain⟨v1,vs1,rfl,Xp,hr1⟩:=aT.1 ha;obtain⟨v2,vs2,rfl,Wk,TQ⟩:=aT.1 hr1;rw[bE]at TQ;subst TQ;have Xp:v1=.string ⟨⟨[48]⟩⟩:=Xp;have Wk:v2=.int .i64 (n:Int):=Wk;subst Xp;subst Wk;have hs:(⟨⟨[48]⟩⟩:ByteArray).size=1:=rfl;refine(Go.Proofs.Any.strings_Repeat Go.Proofs.Tryz.E5 Go.Proofs.Tryz.pF ⟨⟨[48]⟩⟩ n w Om (by rw[hs];omega)).mono ?_;rintro e' w' ⟨rfl,hb⟩;have er:Lib.repeatL [48] n=List.replicate n 48:=by
  have:=Lib.repeatL_replicate 48 1 n;rw[abX]at this;exact this
 refine tI (v:=.string ⟨(Lib.repeatL [48] n).toArray⟩) hr ?_ rfl hb;show Value.string ⟨(Lib.repeatL [48] n).toArray⟩=.string ⟨⟨List.replicate n 48⟩⟩;rw[er]
def RN:nj Go.Proofs.Tryz.prog:=by
 refine⟨λh0 h1 w=>?_,λhs hl=>⟨_,[],by rw[aaf];exact Fe hs hl,rfl⟩,λh1 h2 h3=>⟨_,[],by rw[aaf];exact F1 h1 h2 h3,rfl⟩,λh1=>⟨_,[],by rw[aaf];exact Ih h1,rfl⟩⟩;obtain⟨mu,tl,hb⟩:=w;exact⟨_,[],by rw[aaf];exact Ff h0 h1 hb,rfl⟩
def RD:xX Go.Proofs.Tryz.prog:=
 ⟨run_callFunc_extern Go.Proofs.Tryz.func288 (by kernel_rfl) (by kernel_rfl) (by kernel_rfl) (by kernel_rfl),run_callFunc_extern Go.Proofs.Tryz.func262 (by kernel_rfl) (by kernel_rfl) (by kernel_rfl) (by kernel_rfl)⟩
open Go.ChangeShapes Go.WideShapes Go.Deep
inductive CT where
 |int (k:IntKind)
 |bool
 |str
 |sl (row:List CT)
def mi(P:Program)(f:TypeId->Option (List CT)):List Field->Nat->Option (List CT)
 |[],_=>some []
 |x::r,o=>
  match f x.type with
  |some a=>
   if x.offset=o/\a.length=P.cellsOf x.type then
    match mi P f r (o+a.length)with
    |some b=>some (a++b)
    |none=>none
   else none
  |none=>none
def Be(P:Program):Nat->TypeId->Option (List CT)
 | 0,_=>none
 |n+1,t=>
  match P.underlying t with
  |some (.int k)=>some [.int k]
  |some .bool=>some [.bool]
  |some .string=>some [.str]
  |some (.slice e)=>
   match Be P n e with
   |some r=>if r.length=P.cellsOf e/\0<r.length then some [.sl r]else none
   |none=>none
  |some (.struct fs)=>
   match mi P (Be P n) fs.toList 0 with
   |some r=>if r.length=P.cellsOf t then some r else none
   |none=>none
  |_=>none
mutual
def TY(h:ah):CT->AV->Prop
 |.int k,a=>∃z,a=.int k z/\(Lit.int k z).wf=true
 |.bool,a=>∃b,a=.bool b
 |.str,a=>∃s:By,a=.str s/\s.length<=maxLen
 |.sl r,a=>∃cs:List (List AV),aI h a r.length cs/\cs.length<=maxLen/\∀c∈cs,jQ h r c
def jQ(h:ah):List CT->List AV->Prop
 |[],l=>l=[]
 |t::ts,l=>∃a l',l=a::l'/\TY h t a/\jQ h ts l'
end
mutual
theorem TY.ext{h k}(e:Ext h k):∀{t}{a},TY h t a->TY k t a
 |.int _,a,x=>x
 |.bool,a,x=>x
 |.str,a,x=>x
 |.sl r,a,x=>by
  rw[TY]at x ⊢;obtain⟨cs,h1,h2,h3⟩:=x;exact⟨cs,h1.ext e,h2,λc hc=>jQ.ext e (h3 c hc)⟩
theorem jQ.ext{h k}(e:Ext h k):∀{ts}{l},jQ h ts l->jQ k ts l
 |[],l,x=>x
 |t::ts,l,x=>by
  rw[jQ]at x ⊢;obtain⟨a,l',h1,h2,h3⟩:=x;exact⟨a,l',h1,TY.ext e h2,jQ.ext e h3⟩
end
theorem TY.one{h}:∀{t}{a},TY h t a->a.one=true
 |.int _,a,x=>by rw[TY]at x;obtain⟨z,rfl,_⟩:=x;rfl
 |.bool,a,x=>by rw[TY]at x;obtain⟨z,rfl⟩:=x;rfl
 |.str,a,x=>by rw[TY]at x;obtain⟨z,rfl,_⟩:=x;rfl
 |.sl r,a,x=>by rw[TY]at x;obtain⟨z,h1,_⟩:=x;exact h1.one
theorem jQ.one{h}:∀{ts}{l},jQ h ts l->l.all AV.one=true
 |[],l,x=>by rw[jQ]at x;subst x;rfl
 |t::ts,l,x=>by
  rw[jQ]at x;obtain⟨a,l',rfl,h1,h2⟩:=x;rw[abp,h1.one,jQ.one h2];rfl
theorem jQ.length{h}:∀{ts}{l},jQ h ts l->l.length=ts.length
 |[],l,x=>by rw[jQ]at x;subst x;rfl
 |t::ts,l,x=>by
  rw[jQ]at x;obtain⟨a,l',rfl,h1,h2⟩:=x;rw[ZP,ZP,jQ.length h2]
theorem jQ.append{h}:∀{ts us}{l m},jQ h ts l->jQ h us m->jQ h (ts++us) (l++m)
 |[],us,l,m,x,y=>by rw[jQ]at x;subst x;exact y
 |t::ts,us,l,m,x,y=>by
  rw[jQ]at x;obtain⟨a,l',rfl,h1,h2⟩:=x;show jQ h (t:: (ts++us)) (a:: (l'++m));rw[jQ];exact⟨a,_,rfl,h1,jQ.append h2 y⟩
def iD(E:List tq):cw:=λb=>E[b]?
def kV(E F:List tq):(iD E).le (iD (E++F)):=λb e hb=>by
 unfold iD at hb ⊢;rw[ZQ (ZM.1 hb).1];exact hb
structure AW(P:Program)(w:World)(E:List tq)(B:ah):Prop where
 len:E.length=B.length
 own:∀(b:Nat) e,E[b]? =some e->e.own=false/\e.cb<w.heap.size
 eO:∀(b:Nat) e k,E[b]? =some e->B[b]? =some k->BR P (iD E) w e k/\(k=.dead\/∃c,k=.cells c false false)
 gS:∀g,g<P.globals.size->∃e,E[g]? =some e/\e.cb=g/\e.d=0/\e.own=false/\e.sz=Fm P g
variable {P:Program}{w:World}{E:List tq}{B:ah}
def AW.hr(a:AW P w E B):HR P (iD E) B w where
 cT:=λb e hb=>by rw[<-a.len];exact(ZM.1 hb).1
 eO:=λb e k hb hk=>(a.eO b e k hb hk).1
 sep:=λb1 b2 e1 e2 k1 k2 _ h1 h2 hk1 Sy _=>by
  rcases(a.eO b1 e1 k1 h1 hk1).2 with rfl|⟨c1,rfl⟩
  ·cases k2<;>trivial
  ·rcases(a.eO b2 e2 k2 h2 Sy).2 with rfl|⟨c2,rfl⟩
   ·trivial
   ·exact⟨rfl,rfl,λx=>by cases x⟩
 gS:=a.gS
 lt:=λb e hb=>(a.own b e hb).2
def AW.push(a:AW P w E B){e k}(ho:e.own=false)(hlt:e.cb<w.heap.size)(hb:BR P (iD E) w e k)(hk:k=.dead\/∃c,k=.cells c false false):AW P w (E++[e]) (B++[k]) where
 len:=by simp[a.len]
 own:=λb e' h=>by
  by_cases hlb:b<E.length
  ·rw[ZQ hlb]at h;exact a.own b e' h
  ·have:=(ZM.1 h).1;simp at this;have:b=E.length:=Om
   subst this;simp at h;subst h;exact⟨ho,hlt⟩
 eO:=λb e' k' h h'=>by
  by_cases hlb:b<E.length
  ·rw[ZQ hlb]at h;rw[ZQ (by rw[<-a.len];exact hlb)]at h';exact⟨(a.eO b e' k' h h').1.mono (kV E [e]),(a.eO b e' k' h h').2⟩
  ·have:=(ZM.1 h).1;simp at this;have T3:b=E.length:=Om
   have hbb:b=B.length:=by rw[T3,a.len]
   rw[T3]at h;rw[hbb]at h';simp at h h';subst h;subst h';exact⟨hb.mono (kV E [e]),hk⟩
 gS:=λg hg=>by
  obtain⟨e',h1,h2⟩:=a.gS g hg;exact⟨e',kV E [e] g e' h1,h2⟩
def Laid(P:Program)(w:World)(E:List tq)(B:ah)(row:List CT)(cs:List Value):Prop:=
 ∃F C ax,AW P w (E++F) (B++C)/\cQ (iD (E++F)) ax cs/\jQ (B++C) row ax
def Laid.app{row row2 cs VD}(h1:Laid P w E B row cs)(h2:∀F C,AW P w (E++F) (B++C)->Laid P w (E++F) (B++C) row2 VD):Laid P w E B (row++row2) (cs++VD):=by
 obtain⟨F,C,ax,a1,a2,a3⟩:=h1;obtain⟨F',C',ax',b1,b2,b3⟩:=h2 F C a1;refine⟨F++F',C++C',ax++ax',by rw[<-ZO,<-ZO];exact b1,?_,?_⟩
 ·rw[<-ZO];exact(cQ.mono (kV _ _) _ _ a2).append b2
 ·rw[<-ZO];exact jQ.append (a3.ext ⟨C',rfl⟩) b3
def C1(a:AW P w E B):Laid P w E B [] []:=⟨[],[],[],by simpa using a,by rw[bE],rfl⟩
def oM(a:AW P w E B){t x v}(hv:VR (iD E) x v)(ht:TY B t x):Laid P w E B [t] [v]:=
 ⟨[],[],[x],by simpa using a,by simpa using aT.2 ⟨v,[],rfl,hv,by rw[bE]⟩,by
  rw[aaf,jQ];exact⟨x,[],rfl,ht,rfl⟩⟩
section
variable {H:Type}{enc:TypeId×Value->H}{base:Nat}{held:Bool}
theorem tX{es:Nat}{r:List CT}{a:Addr}{m:Nat}(row:∀i,i<m->∃cs,w.cells? base (a.add (i*es)) es=some cs/\∀E B,AW P w E B->Laid P w E B r cs):∀(k:Nat) {E:List tq}{B:ah},k<=m->AW P w E B->
  ∃(F:List tq) (C:ah) (rows:List (List AV)) (VL:List Value),AW P w (E++F) (B++C)/\rows.length=k/\cQ (iD (E++F)) rows.flatten VL/\(∀c∈rows,jQ (B++C) r c)/\VL.length=k*es/\∀i,i<k*es->w.cell? (a.add i)=VL[i]?
 | 0,E,B,_,aw=>⟨[],[],[],[],by rw[aaf,aaf];exact aw,rfl,rfl,λc hc=>by(cases hc),by rw[abT];rfl,λi hi=>by rw[abT]at hi;exact absurd hi (Nat.not_lt_zero _)⟩
 |k+1,E,B,hkm,aw=>by
  obtain⟨F,C,rows,VL,h1,h2,h3,h4,h5,h6⟩:=tX row k Om aw;obtain⟨cs,U3,hl⟩:=row k Om;obtain⟨F',C',ax,a1,a2,a3⟩:=hl _ _ h1;obtain⟨_,hlen,Tu⟩:=World.cells?_some U3;refine⟨F++F',C++C',rows++[ax],VL++cs,by rw[<-ZO,<-ZO];exact a1,by rw[ZL,h2];rfl,?_,?_,by rw[ZL,h5,hlen,aa5],?_⟩
  ·rw[<-ZO,abj];refine(cQ.mono (kV _ _) _ _ h3).append ?_;have:[ax].flatten=ax:=Si
   rw[this];exact a2
  ·intro c hcm;rw[<-ZO];rcases ZX.1 hcm with hm|hm
   ·exact(h4 c hm).ext ⟨C',rfl⟩
   ·rw[Z9]at hm;subst hm;exact a3
  ·intro i hi;rw[aa5]at hi;by_cases hlt:i<k*es
   ·rw[h6 i hlt,ZQ Om]
   ·rw[Z1 Om,h5,<-Tu (i-k*es) Om,add_add,show k*es+(i-k*es)=i by omega]
theorem qz{f:TypeId->Option (List CT)}{cs:List Value}:∀(l:List Field) (o:Nat) {row:List CT},mi P f l o=some row->
  (∀x∈l,∀a,f x.type=some a->∀E B,AW P w E B->Laid P w E B a ((cs.drop x.offset).take (P.cellsOf x.type)))->∀E B,AW P w E B->Laid P w E B row ((cs.drop o).take row.length)
 |[],o,row,h,_,E,B,aw=>by
  unfold mi at h;cases h;rw[ZT,abD];exact C1 aw
 |x::l,o,row,h,hf,E,B,aw=>by
  unfold mi at h;split at h
  case h_2=>cases h
  rename_i a ha;split at h
  case isFalse=>cases h
  rename_i hc;split at h
  case h_2=>cases h
  rename_i b hb;cases h;have h1:=hf x (aaH ..) a ha E B aw;rw[hc.1,<-hc.2]at h1;rw[ZL,List.take_add,abk];exact h1.app λF C aw'=>qz l _ hb (λy hy=>hf y (aao _ hy)) _ _ aw'
theorem jH(hz:∃(z:Nat) (cc:Array Value) (el:TypeId) (fz:Nat×Nat),w.heap[z]? =some (Obj.cells cc el fz)):∀(n:Nat) (t:TypeId) (row:List CT),Be P n t=some row->∀(fuel:Nat) (cs:List Value) (x:DataW H×List MemPlace),
  DataW.trod enc P w base (λ_=>true) held fuel t cs=some x->∀E B,AW P w E B->Laid P w E B row cs
 | 0,t,row,h,_,_,_,_,_,_,_=>by cases h
 |n+1,t,row,h,fuel,cs,x,ht,E,B,aw=>by
  unfold Be at h;split at h
  ·rename_i k hu;cases h;obtain⟨z,rfl,_,hwf⟩:=DataW.trod_int hu ht;exact oM aw (x:=.int k z) (by rw[VR]) (by rw[TY];exact⟨z,rfl,hwf⟩)
  ·rename_i hu;cases h;obtain⟨b,rfl,_⟩:=DataW.trod_bool hu ht;exact oM aw (x:=.bool b) (by rw[VR]) (by rw[TY];exact⟨b,rfl⟩)
  ·rename_i hu;cases h;obtain⟨s,rfl,_,hs⟩:=DataW.trod_string hu ht;refine oM aw (x:=.str s.data.toList) (by rw[VR]) (by rw[TY];exact⟨_,rfl,by simpa using hs⟩)
  ·rename_i e hu;split at h
   case h_2=>cases h
   rename_i r hr;split at h
   case isFalse=>cases h
   rename_i hc;cases h;obtain⟨Tz,hpos⟩:=hc;rcases open_slice hu ht with⟨rfl,_⟩|⟨a,len,cap,m,n',D,Pl,rfl,hb,hl,hm,XO,_,hx⟩
   ·exact oM aw (x:=.af) (by rw[VR]) (by rw[TY];exact⟨[],.nil,aam _,λc hc=>by cases hc⟩)
   simp only[Z7]at XO;subst XO;rw[<-Tz]at hx;by_cases hcap:m=0
   ·have SQ:len=0:=Om
    subst SQ;subst hcap;obtain⟨z,cc,el,fz,Y6⟩:=hz;have h0lt:z<w.heap.size:=(aaa.1 Y6).1;have hbr:BR P (iD E) w ⟨z,0,cc.size,false⟩ (.cells [] false false):=
     ⟨cc,el,fz,Y6,⟨aam _,aam _,rfl⟩,λi x hx=>by(rw[List.getElem?_nil]at hx;cases hx),⟨λx=>absurd x abM,λx=>by rcases x with x|x<;>exact absurd x abM⟩⟩
    have aw2:=aw.push (e:=⟨z,0,cc.size,false⟩) (k:=.cells [] false false) rfl h0lt hbr (.inr ⟨[],rfl⟩);refine⟨[⟨z,0,cc.size,false⟩],[.cells [] false false],[.slice B.length 0 0 r.length],aw2,?_,?_⟩
    ·refine aT.2 ⟨_,[],rfl,?_,by rw[bE]⟩;rw[VR];exact⟨⟨z,0,cc.size,false⟩,a,0,by unfold iD;rw[<-aw.len];simp,rfl,Z0 _,λx=>absurd x Om,by rw[abT];exact aam _⟩
    ·rw[jQ];refine⟨_,[],rfl,?_,by rw[jQ]⟩;rw[TY];refine⟨[],?_,aam _,λc hc=>by cases hc⟩;exact aI.mk (cs:=[]) (b:=B.length) (o:=0) (c:=[]) (mu:=false) (tl:=false) Si Si Si (λx hx=>by cases hx)
   ·obtain⟨cs0,h00,_⟩:=hx 0 Om;obtain⟨csl,TF,_⟩:=hx (m-1) Om;obtain⟨_,SQ,hc0⟩:=World.cells?_some h00;obtain⟨_,hlenl,hcl⟩:=World.cells?_some TF;have TB:=hc0 0 hpos;have hlast:=hcl (r.length-1) Om;rw[add_add]at hlast;rw[add_add,abT,ach]at TB;have ha0:a.add 0=a:=by unfold Addr.add;simp
    rw[ha0,ZS Om]at TB;unfold World.cell? at TB;split at TB
    case h_2=>cases TB
    rename_i cc el fz UX;split at TB
    ·cases TB
    rename_i hspot;have Xb:a=⟨a.block,a.off,none⟩:=by
     cases a with
     |mk b o s=>cases s with
      |none=>rfl
      |some s=>exact absurd rfl hspot
    have Vl:∀i,a.add i=⟨a.block,a.off+i,none⟩:=λi=>by
     unfold Addr.add;by_cases hi:i=0
     ·subst hi;rw[ZY rfl];exact Xb
     ·rw[ZW hi]
    have VA:∀i,w.cell? (a.add i)=cc[a.off+i]? :=λi=>by
     rw[Vl];unfold World.cell?;simp only[UX,Option.isSome_none,aaC,Z3]
    have hmr:(m-1)*r.length+(r.length-1)+1=m*r.length:=by
     obtain⟨m',rfl⟩:∃m',m=m'+1:=⟨m-1,Om⟩;rw[aa5];simp only[Nat.add_sub_cancel];omega
    have fj:a.off+m*r.length<=cc.size:=by
     rw[VA,ZS Om]at hlast;have:=(aaa.1 hlast).1;omega
    obtain⟨F,C,rows,VL,h1,h2,h3,h4,h5,h6⟩:=tX (P:=P) (w:=w) (base:=base) (es:=r.length) (r:=r) (a:=a) (m:=m)
     (λi hi=>by
      obtain⟨cs',q1,q2⟩:=hx i hi;exact⟨cs',q1,λE B aw=>jH hz n e r hr _ _ _ q2 E B aw⟩) len hl aw
    have Tc:rows.flatten.length=len*r.length:=by rw[<-h5,h3.length]
    have hmul:len*r.length<=m*r.length:=aaU _ hl;have Ur:∀c∈rows,c.length=r.length:=λc hc=>(h4 c hc).length
    have hone:∀x∈rows.flatten,x.one=true:=λx hx=>by
     obtain⟨c,hc,Xo⟩:=List.mem_flatten.1 hx;exact aas.1 (h4 c hc).one x Xo
    have hlt:a.block<w.heap.size:=(aaa.1 UX).1;have hbr:BR P (iD (E++F)) w ⟨a.block,a.off,cc.size,false⟩ (.cells rows.flatten false false):=
     ⟨cc,el,fz,UX,⟨by rw[Tc];show a.off+_<=_;omega,by rw[Tc];show a.off+_<=cc.size;omega,rfl⟩,λi x hx=>by
       refine⟨hone x (aaK hx),?_⟩;obtain⟨v,hv,Sz⟩:=h3.get hx;have hi:i<len*r.length:=by rw[<-Tc];exact(ZM.1 hx).1
       refine⟨v,?_,Sz⟩;show cc[a.off+i]? =some v;rw[<-VA,h6 i hi,hv],⟨λx=>absurd x abM,λx=>by rcases x with x|x<;>exact absurd x abM⟩⟩
    have aw2:=h1.push (e:=⟨a.block,a.off,cc.size,false⟩) (k:=.cells rows.flatten false false) rfl hlt hbr (.inr ⟨_,rfl⟩);rw[ZO,ZO]at aw2;refine⟨F++[⟨a.block,a.off,cc.size,false⟩],C++[.cells rows.flatten false false],[.slice (B++C).length 0 len r.length],aw2,?_,?_⟩
    ·refine aT.2 ⟨_,[],rfl,?_,by rw[bE]⟩;rw[VR];refine⟨⟨a.block,a.off,cc.size,false⟩,a,m,?_,rfl,hl,λ_=>?_,?_⟩
     ·unfold iD;rw[<-h1.len,<-ZO,Z1 (Z0 _),aaR];rfl
     ·show a=⟨a.block,0+a.off,none⟩;rw[aaD];exact Xb
     ·show 0+a.off+m*r.length<=cc.size;omega
    ·rw[jQ];refine⟨_,[],rfl,?_,by rw[jQ]⟩;rw[TY];refine⟨rows,?_,Om,λc hc=>?_⟩
     ·rw[<-h2];refine aI.mk (c:=rows.flatten) (mu:=false) (tl:=false) ?_ ?_ ?_ Ur
      ·rw[<-ZO,Z1 (Z0 _),aaR];rfl
      ·rw[abc,h2,<-Tc,aaj]
      ·rw[h2,Tc];omega
     ·rw[<-ZO];exact(h4 c hc).ext ⟨_,rfl⟩
  ·rename_i fs hu;split at h
   case h_2=>cases h
   rename_i r hr;split at h
   case isFalse=>cases h
   rename_i hc;cases h;obtain⟨xs,n',rfl,rfl,hlen,hxl,hf⟩:=DataW.trod_struct hu ht;have:=qz (P:=P) (w:=w) (cs:=cs) fs.toList 0 hr (λx hx a ha E B aw=>by
    obtain⟨i,hi⟩:=List.getElem?_of_mem hx;have hi':fs[i]? =some x:=by rw[<-abh];exact hi
    have hlt:i<xs.length:=by rw[hxl];exact(aaa.1 hi').1
    have h1:=hf i x hi';rw[ZS hlt]at h1;exact jH hz n x.type a ha _ _ _ h1 E B aw) E B aw
   rw[abc,hc,<-hlen,aaj]at this;exact this
  ·cases h
inductive AT where
 |one (t:CT)
 |agg (r:List CT)
def Hu(P:Program)(e:TypeId):Option CT:=
 match P.underlying e with
 |some (.int k)=>some (.int k)
 |some .string=>some .str
 |_=>none
def JE(P:Program)(n:Nat)(t:TypeId):Option AT:=
 match P.underlying t with
 |some (.struct _)=>
  match Be P n t with
  |some r=>some (.agg r)
  |none=>none
 |some (.int k)=>some (.one (.int k))
 |some .bool=>some (.one .bool)
 |some .string=>some (.one .str)
 |some (.slice _)=>
  match Be P n t with
  |some [c]=>some (.one c)
  |_=>none
 |some (.array m e)=>
  match Hu P e with
  |some c=>if P.cellsOf e=1/\P.cellsOf t=m then some (.agg (List.replicate m c))else none
  |none=>none
 |_=>none
def uJ{w r b0}{t e:TypeId}{m v}(ht:P.underlying t=some (.array m e))(h:Value.okWide P w r b0 t v):∃cs,v=.agg cs/\cs.size=P.cellsOf t:=by
 simp only[Value.okWide,ht]at h;obtain⟨cs,h1,h2,_⟩:=h;exact⟨cs,h1,h2⟩
theorem tP{M B c}:∀(L:List Value),(∀i (hi:i<L.length),∃a,VR M a L[i]/\TY B c a)->∃l:List AV,cQ M l L/\jQ B (List.replicate L.length c) l
 |[],_=>⟨[],by rw[bE],by rw[ZT,ace,jQ]⟩
 |v::L,h=>by
  obtain⟨a,e,hz⟩:=h 0 Si;obtain⟨l,h1,h2⟩:=tP L λi hi=>h (i+1) (by simpa using hi)
  simp only[List.getElem_cons_zero]at e;refine⟨a::l,aT.2 ⟨_,_,rfl,e,h1⟩,?_⟩;rw[ZP,abr,jQ];exact⟨_,_,rfl,hz,h2⟩
def uq(P:Program)(n:Nat):List TypeId->Option (List AT)
 |[]=>some []
 |t::ts=>
  match JE P n t,uq P n ts with
  |some a,some l=>some (a::l)
  |_,_=>none
def Hy(h:ah):AT->AV->Prop
 |.one t,a=>TY h t a
 |.agg r,a=>∃l,a=.agg l/\jQ h r l
theorem Hy.ext{h k}(e:Ext h k):∀{t}{a},Hy h t a->Hy k t a
 |.one _,_,x=>TY.ext e x
 |.agg _,_,⟨l,e1,x⟩=>⟨l,e1,jQ.ext e x⟩
def ti(h:ah):List AT->List AV->Prop
 |[],l=>l=[]
 |t::ts,l=>∃a l',l=a::l'/\Hy h t a/\ti h ts l'
def C2(hz:∃(z:Nat) (cc:Array Value) (el:TypeId) (fz:Nat×Nat),w.heap[z]? =some (Obj.cells cc el fz)){n}{t:TypeId}{at'}(h:JE P n t=some at'){v d ps}(ht:DataW.Trod enc P w base (λ_=>true) held t v d ps)
  {r}{b0}(ho:Value.okWide P w r b0 t v) (aw:AW P w E B):∃(F:List tq) (C:ah) (a:AV),AW P w (E++F) (B++C)/\VR (iD (E++F)) a v/\Hy (B++C) at' a:=by
 obtain⟨fuel,ht⟩:=ht;unfold JE at h;split at h
 ·rename_i fs hu;split at h
  case h_2=>cases h
  rename_i r hr;cases h;obtain⟨cs,rfl,_⟩:=okWide_struct hu ho;obtain⟨F,C,ax,h1,h2,h3⟩:=jH hz n t r hr fuel _ _ ht E B aw;refine⟨F,C,.agg ax,h1,?_,ax,rfl,h3⟩;rw[VR];exact⟨_,rfl,h2⟩
 ·rename_i k hu;cases h;obtain⟨z,rfl⟩:=okWide_int hu ho;obtain⟨z',e,_,hwf⟩:=DataW.trod_int hu ht;cases e;exact⟨[],[],.int k z,by rw[aaf,aaf];exact aw,by rw[VR],by show TY _ _ _;rw[TY];exact⟨z,rfl,hwf⟩⟩
 ·rename_i hu;cases h;obtain⟨z,rfl⟩:=okWide_bool hu ho;exact⟨[],[],.bool z,by rw[aaf,aaf];exact aw,by rw[VR],by show TY _ _ _;rw[TY];exact⟨z,rfl⟩⟩
 ·rename_i hu;cases h;obtain⟨s,rfl⟩:=okWide_string hu ho;obtain⟨s',e,_,hs⟩:=DataW.trod_string hu ht;cases e;exact⟨[],[],.str s.data.toList,by rw[aaf,aaf];exact aw,by rw[VR],by show TY _ _ _;rw[TY];exact⟨_,rfl,by simpa using hs⟩⟩
 ·rename_i e hu;split at h
  case h_2=>cases h
  rename_i c hc;cases h;obtain⟨a,len,cap,rfl⟩:=okWide_slice hu ho;obtain⟨F,C,ax,h1,h2,h3⟩:=jH hz n t _ hc fuel _ _ ht E B aw;rw[jQ]at h3;obtain⟨x,l',rfl,h4,h5⟩:=h3;rw[jQ]at h5;subst h5;obtain⟨y,ys,e,h6,_⟩:=aT.1 h2;cases e;exact⟨F,C,x,h1,h6,h4⟩
 ·rename_i m e hu;split at h
  case h_2=>cases h
  rename_i c hk;split at h
  case isFalse=>cases h
  rename_i hc;cases h;obtain⟨cs,rfl,U3⟩:=uJ hu ho;obtain⟨xs,n',rfl,_,hlen,hxl,hf⟩:=DataW.trod_array hu ht;have hcl:(Value.agg cs).cells.toList=cs.toList:=rfl;rw[hcl]at hlen hf;rw[hc.2]at hlen;obtain⟨l,h1,h2⟩:=tP (M:=iD E) (B:=B) (c:=c) cs.toList λi hi=>by
   have hi':i<xs.length:=Om
   have h3:=hf i Om;rw[hc.1,abX,ZS hi',abb hi,abq,abD]at h3;unfold Hu at hk;split at hk
   ·rename_i k hk';cases hk;obtain⟨z,e1,_,hwf⟩:=DataW.trod_int hk' h3;exact⟨.int k z,by rw[(List.cons.inj e1).1,VR],by rw[TY];exact⟨z,rfl,hwf⟩⟩
   ·rename_i hk';cases hk;obtain⟨s',e1,_,hs⟩:=DataW.trod_string hk' h3;exact⟨.str s'.data.toList,by rw[(List.cons.inj e1).1,VR],by rw[TY];exact⟨_,rfl,by simpa using hs⟩⟩
   ·cases hk
  rw[hlen]at h2;exact⟨[],[],.agg l,by rw[aaf,aaf];exact aw,by rw[VR,aaf];exact⟨_,rfl,h1⟩,l,rfl,by rw[aaf];exact h2⟩
 ·cases h
theorem tY(hz:∃(z:Nat) (cc:Array Value) (el:TypeId) (fz:Nat×Nat),w.heap[z]? =some (Obj.cells cc el fz)){n r b0}:∀(tys:List TypeId) {ats},uq P n tys=some ats->∀(vs:List Value) (ds:List (DataW H)) (ps:List MemPlace),
  DataW.TrodAll enc P w base (λ_=>true) held tys vs ds ps->(∀(j:Nat) t v,tys[j]? =some t->vs[j]? =some v->Value.okWide P w r b0 t v)->∀{E}{B},AW P w E B->
  ∃(F:List tq) (C:ah) (ax:List AV),AW P w (E++F) (B++C)/\cQ (iD (E++F)) ax vs/\ti (B++C) ats ax
 |[],ats,h,vs,ds,ps,ht,_,E,B,aw=>by
  unfold uq at h;cases h;cases vs with
  |cons v vs=>cases ds<;>exact ht.elim
  |nil=>exact⟨[],[],[],by rw[aaf,aaf];exact aw,by rw[bE],by rw[ti]⟩
 |t::tys,ats,h,vs,ds,ps,ht,ho,E,B,aw=>by
  unfold uq at h;split at h
  case h_2=>cases h
  rename_i a l ha hl;cases h;cases vs with
  |nil=>cases ds<;>exact ht.elim
  |cons v vs=>
   cases ds with
   |nil=>exact ht.elim
   |cons d ds=>
    obtain⟨p,q,h1,h2,_⟩:=ht;obtain⟨F,C,x,a1,a2,a3⟩:=C2 hz ha h1 (ho 0 t v rfl rfl) aw;obtain⟨F',C',xs,b1,b2,b3⟩:=tY hz tys hl vs ds q h2 (λj t v h h'=>ho (j+1) t v h h') a1;refine⟨F++F',C++C',x::xs,by rw[<-ZO,<-ZO];exact b1,?_,?_⟩
    ·rw[<-ZO];exact aT.2 ⟨v,vs,rfl,VR.mono (kV _ _) _ _ a2,b2⟩
    ·rw[<-ZO,ti];exact⟨x,xs,rfl,a3.ext ⟨C',rfl⟩,b3⟩
end
open Go.ChangeShapes Go.WideShapes Go.RowKit
def DF(f:DataW Unit->Option (List AV)):List (DataW Unit)->Option (List AV)
 |[]=>some []
 |d::r=>
  match f d,DF f r with
  |some a,some b=>some (a++b)
  |_,_=>none
def Ag(P:Program):Nat->TypeId->DataW Unit->Option (List AV)
 | 0,_,_=>none
 |n+1,t,d=>
  match P.underlying t with
  |some (.int k)=>
   match d with
   |.lit (.int _ z)=>some [.int k z]
   |_=>none
  |some .string=>
   match d with
   |.lit (.string s)=>some [.str s]
   |_=>none
  |some (.array m e)=>
   match d with
   |.agg l=>
    match DF (Ag P n e) l with
    |some r=>if P.cellsOf t=m*P.cellsOf e then some r else none
    |none=>none
   |_=>none
  |_=>none
section
variable {P:Program}{w:World}{base:Nat}{sp:Nat->Bool}{held:Bool}
theorem Ah{f:DataW Unit->Option (List AV)}{m:cw}{ce:Nat}{cs:List Value}{g:List Value->Option (DataW Unit×List MemPlace)}(hf:∀c d p ax,g c=some (d,p)->f d=some ax->cQ m ax c/\ax.all AV.one=true):
  ∀(l:List (DataW Unit×List MemPlace)) (o:Nat) {ax:List AV},DF f (l.map (·.1))=some ax->(∀i (hi:i<l.length),g ((cs.drop ((o+i)*ce)).take ce)=some l[i])->cQ m ax ((cs.drop (o*ce)).take (l.length*ce))/\ax.all AV.one=true
 |[],o,ax,h,_=>by
  unfold DF at h;cases h;rw[ZT,abT,abD];exact⟨by rw[bE],rfl⟩
 |x::l,o,ax,h,hx=>by
  rw[aaJ]at h;unfold DF at h;split at h
  case h_2=>cases h
  rename_i a b ha hb;cases h;have h0:=hx 0 (by rw[ZP];omega);rw[ach,List.getElem_cons_zero]at h0;obtain⟨p1,p2⟩:=hf _ x.1 x.2 a h0 ha;obtain⟨q1,q2⟩:=Ah hf l (o+1) hb (λi hi=>by
   have:=hx (i+1) (by rw[ZP];omega);rw[List.getElem_cons_succ]at this;rw[show o+1+i=o+(i+1) by omega];exact this)
  refine⟨?_,by rw[abS,p2,q2];rfl⟩;rw[ZP,aa5,Nat.add_comm (l.length*ce) ce,List.take_add,abk];refine p1.append ?_;rw[<-aa5];exact q1
theorem xU{m:cw}:∀(n:Nat) (t:TypeId) (fuel:Nat) (cs:List Value) (d:DataW Unit) (p:List MemPlace) (ax:List AV),
  DataW.trod (λ_=>()) P w base sp held fuel t cs=some (d,p)->Ag P n t d=some ax->cQ m ax cs/\ax.all AV.one=true
 | 0,_,_,_,_,_,_,_,h=>by cases h
 |n+1,t,fuel,cs,d,p,ax,ht,h=>by
  unfold Ag at h;split at h
  ·rename_i k hu;obtain⟨z,rfl,e,_⟩:=DataW.trod_int hu ht;cases e;cases h;exact⟨aT.2 ⟨_,[],rfl,by rw[VR],by rw[bE]⟩,rfl⟩
  ·rename_i hu;obtain⟨s,rfl,e,_⟩:=DataW.trod_string hu ht;cases e;cases h;exact⟨aT.2 ⟨_,[],rfl,rfl,by rw[bE]⟩,rfl⟩
  ·rename_i mm e hu;obtain⟨xs,m',_,ex,hlen,hxl,hf⟩:=DataW.trod_array hu ht;cases ex;simp only at h;split at h
   case h_2=>cases h
   rename_i r hr;split at h
   case isFalse=>cases h
   rename_i hc;cases h;have:=Ah (m:=m) (ce:=P.cellsOf e) (cs:=cs) (g:=DataW.trod (λ_=>()) P w base sp held m' e) (λc d p ax h1 h2=>xU n e m' c d p ax h1 h2) xs 0 hr (λi hi=>by
    have:=hf i Om;rw[ZS hi]at this;rw[aaD];exact this)
   rw[abT,abc,hxl,<-hc,<-hlen,aaj]at this;exact this
  ·cases h
def Hf(P:Program)(laid:List (String×DataW Unit))(n:Nat)(g:Nat):an:=
 match laid.find? (λx=>P.globalNamed x.1==some g)with
 |some x=>
  match (P.globals[g]?).map (·.type)with
  |some t=>
   match Ag P n t x.2 with
   |some ax=>if ax.length=Fm P g then .cells ax false false else .dead
   |none=>.dead
  |none=>.dead
 |none=>.dead
def uc(P:Program):List tq:=(List.range P.globals.size).map λg=>⟨g,0,Fm P g,false⟩
def w8(P:Program)(laid:List (String×DataW Unit))(n:Nat):ah:=(List.range P.globals.size).map (Hf P laid n)
theorem lq:∀{laid}{ps},DataW.LaidVars P w laid ps->∀x∈laid,∃g t cs fuel p,P.globalNamed x.1=some g/\(P.globals[g]?).map (·.type)=some t/\w.var? P x.1=some cs/\
  DataW.trod (λ_=>()) P w 0 (λ_=>true) false fuel t cs.toList=some (x.2,p)
 |[],_,_,x,hx=>by cases hx
 |(n,d)::r,ps,h,x,hx=>by
  obtain⟨g,t,cs,fuel,p,q,h1,h2,h3,h4,h5,_⟩:=h;rcases aap.1 hx with rfl|hx
  ·exact⟨g,t,cs,fuel,p,h1,h2,h3,h4⟩
  ·exact lq h5 x hx
def zf{n g cs}(hg:P.globalNamed n=some g)(h:w.var? P n=some cs):∃el fz,w.heap[g]? =some (.cells cs el fz):=by
 unfold World.var? at h;rw[hg]at h;simp only[Option.bind_some]at h;split at h
 ·rename_i c el fz hb;cases h;exact⟨el,fz,hb⟩
 ·cases h
theorem AW.globals{X9 laid}(hl:laidMet P X9 w)(hsub:∀x∈laid,x∈X9)(n:Nat){nm d}(hlast:(nm,d)∈laid)(hg:P.globalNamed nm=some (P.globals.size-1)):
  AW P w (uc P) (w8 P laid n)/\∃(z:Nat) (cc:Array Value) (el:TypeId) (fz:Nat×Nat),w.heap[z]? =some (Obj.cells cc el fz):=by
 obtain⟨ps,hv,_,_⟩:=hl;obtain⟨g0,t0,cs0,_,_,a1,_,a3,_⟩:=lq hv _ (hsub _ hlast);obtain⟨el0,fz0,TR⟩:=zf a1 a3;have fj:P.globals.size-1<w.heap.size:=by
  have e:g0=P.globals.size-1:=aaN (a1.symm.trans hg);rw[<-e];exact(aaa.1 TR).1
 have hE:∀(b:Nat) e,(uc P)[b]? =some e->b<P.globals.size/\e=⟨b,0,Fm P b,false⟩:=λb e h=>by
  unfold uc at h;rw[aa8]at h;have hb:b<P.globals.size:=by
   cases hr:(List.range P.globals.size)[b]? with
   |none=>rw[hr]at h;cases h
   |some y=>have:=(ZM.1 hr).1;simpa using this
  rw[List.getElem?_range hb]at h;exact⟨hb,(aaN h).symm⟩
 refine⟨⟨by simp[uc,w8],λb e h=>?_,λb e k h h'=>?_,λg hg=>⟨⟨g,0,Fm P g,false⟩,?_,rfl,rfl,rfl,rfl⟩⟩,⟨g0,cs0,el0,fz0,TR⟩⟩
 ·obtain⟨hb,rfl⟩:=hE b e h;exact⟨rfl,by show b<_;omega⟩
 ·obtain⟨hb,rfl⟩:=hE b e h;unfold w8 at h';rw[aa8,List.getElem?_range hb]at h';have h':=(aaN h').symm;subst h';unfold Hf;split
  case h_2=>exact⟨trivial,.inl rfl⟩
  rename_i x hx;split
  case h_2=>exact⟨trivial,.inl rfl⟩
  rename_i t ht;split
  case h_2=>exact⟨trivial,.inl rfl⟩
  rename_i ax has;split
  case isFalse=>exact⟨trivial,.inl rfl⟩
  rename_i hlen;refine⟨?_,.inr ⟨ax,rfl⟩⟩;obtain⟨g,t',cs,fuel,p,b1,b2,b3,b4⟩:=lq hv x (hsub _ (List.mem_of_find?_eq_some hx));have hgb:P.globalNamed x.1=some b:=by have:=acj hx;simpa using this
  have e1:g=b:=aaN (b1.symm.trans hgb);subst e1;have e2:t' =t:=aaN (b2.symm.trans ht);subst e2;obtain⟨el,fz,UX⟩:=zf b1 b3;obtain⟨c1,c2⟩:=xU (m:=iD (uc P)) n t' fuel _ _ _ _ b4 has;have hcl:cs.size=ax.length:=by have:=c1.length;simpa using this
  refine⟨cs,el,fz,UX,⟨by show 0+_<=_;omega,by show 0+_<=Fm P g;omega,by show cs.size=Fm P g;omega⟩,λi x hx=>?_,⟨λx=>absurd x abM,λx=>by rcases x with x|x<;>exact absurd x abM⟩⟩;refine⟨aas.1 c2 x (aaK hx),?_⟩;obtain⟨v,Xp,Wk⟩:=c1.get hx;refine⟨v,?_,Wk⟩;show cs[0+i]? =some v;rw[aaD,<-abh];exact Xp
 ·unfold uc;rw[aa8,List.getElem?_range hg];rfl
end
section
variable {P:Program}{W W':World}{E:List tq}{B h':ah}{m':cw}
def AW.below(aw:AW P W E B)(g:Grow (iD E) B W m' h' W'):Below W.heap.size W W':=
 ⟨g.os,g.tape,g.out,g.size,λk hk=>g.frame k hk λb e hb ho=>by rw[(aw.own b e hb).1]at ho;cases ho⟩
def yZ(b:Below W.heap.size W W')(may:MemPlace->Prop):W.keptBut W' may:=by
 refine⟨b.os,b.output,λi hi=>?_⟩;rw[b.block i hi];split
 ·rename_i h1 h2;rw[h1]at h2;simp only[aak,Obj.cells.injEq]at h2;obtain⟨rfl,rfl,rfl⟩:=h2;exact⟨rfl,rfl,rfl,λ_ _=>rfl⟩
 ·rename_i h1 h2;rw[h1]at h2;simp only[aak,Obj.map.injEq]at h2;obtain⟨rfl,rfl⟩:=h2;exact .inr ⟨rfl,rfl⟩
 ·rfl
variable {H:Type}{enc:TypeId×Value->H}
theorem mX(hlo:laidOutB P=true)(hb:Below W.heap.size W W'){sp}:∀{tys}{vs}{ds}{ps},(∀t∈tys,P.readableRec t=true/\t<P.types.size)->
  DataW.TrodAll enc P W 0 (λ_=>true) true tys vs ds ps->(∀p∈ps,p.block<W.heap.size)->(∀p∈ps,sp p.block=true)->DataW.TrodAll enc P W' 0 sp true tys vs ds ps
 |[],[],[],ps,_,h,_,_=>h
 |[],[],_::_,_,_,h,_,_=>h.elim
 |[],_::_,_,_,_,h,_,_=>h.elim
 |_::_,[],_,_,_,h,_,_=>h.elim
 |_::_,_::_,[],_,_,h,_,_=>h.elim
 |t::tys,v::vs,d::ds,ps,hr,h,hl,hs=>by
  obtain⟨p,q,h1,h2,rfl⟩:=h;exact⟨p,q,WideElems.Trod_stays hlo (hr t (aaH ..)).1 (hr t (aaH ..)).2 h1 (λx hx=>hb.same (hl x (List.mem_append_left _ hx))) (λx hx=>hs x (List.mem_append_left _ hx)),
   mX hlo hb (λt ht=>hr t (aao _ ht)) h2 (λx hx=>hl x (List.mem_append_right _ hx)) (λx hx=>hs x (List.mem_append_right _ hx)),rfl⟩
def AM{f:Func}{s:ChangeSpec}{apart fresh handsOn again:Bool}{args:Array Value}{ds gs:List (DataW H)}{before:List MemPlace}{tb:TypeId}
  (hlo:laidOutB P=true) (hpar:∀t∈f.params.toList,P.readableRec t=true/\t<P.types.size) (hrt:f.resultTypes=#[tb]) (htb:P.underlying tb=some .bool) (hvars:s.vars=[])
  (hfn:(s.fn H (ds++gs))={results:=[.lit (.bool true)],args:=ds}) (hW:DataW.Whole enc P f.params.toList s.vars apart W args.toList ds gs before) (hb:Below W.heap.size W W'):
  s.post enc P f apart fresh handsOn again W args (.bool true) W':=by
 have hlt:=hW.lt;have hW':=hW;obtain⟨p,q,hA,hV,rfl,hz,hn⟩:=hW';rw[hvars]at hV;obtain⟨rfl,rfl⟩:=trodVars_none hV;rw[aaf]at hlt;have hres:∀(b:Nat) (sp:Nat->Bool) (hd:Bool),DataW.TrodAll enc P W' b sp hd f.resultTypes.toList ((Value.bool true).resultList f.resultTypes.size) (s.fn H (ds++[])).results []:=λb sp hd=>by
  rw[hfn,hrt];exact trodAll_mk1 (shut_bool htb _)
 have hargs:∀sp:Nat->Bool,(∀x∈p,sp x.block=true)->DataW.TrodAll enc P W' 0 sp true f.params.toList args.toList (s.fn H (ds++[])).args p:=λsp hs=>by
  rw[hfn];exact mX hlo hb hpar hA hlt hs
 have SU:∀sp:Nat->Bool,DataW.TrodVars enc P W' sp s.vars (s.fn H (ds++[])).vars []:=λsp=>by
  rw[hfn,hvars];rfl
 refine⟨ds,[],p++[],[],p,[],hW,hres _ _ _,hargs _ (λx hx=>by simpa using hlt x hx),SU _,yZ hb _,λ_=>?_⟩;refine⟨?_,_,_,([]++p)++[],⟨[]++p,[],trodAll_append (hargs _ (λ_ _=>rfl)) (hres _ _ _),SU _,rfl,?_,?_⟩,?_⟩
 ·exact ok_one hrt rfl (okWide_bool_mk htb _)
 ·intro b off hp;have hp:MemPlace.cell b off∈p:=by simpa using hp
  have:=hz b off (by simpa using hp);unfold World.frozen? at this ⊢;rw[hb.block b (hlt _ hp)];exact this
 ·intro ha;have:=hn ha
  simpa using this
 ·intro x hx _
  simpa using hx
def Cs{f:Func}{fid:FuncId}{s:ChangeSpec}{apart fresh handsOn again:Bool}{args:Array Value}{ds gs:List (DataW H)}{before:List MemPlace}{tb:TypeId}{n:Nat}{ats:List AT}{r:Reach}{b0:Nat}
  (hlo:laidOutB P=true) (hpar:∀t∈f.params.toList,P.readableRec t=true/\t<P.types.size) (hrt:f.resultTypes=#[tb]) (htb:P.underlying tb=some .bool) (hvars:s.vars=[])
  (hfn:(s.fn H (ds++gs))={results:=[.lit (.bool true)],args:=ds}) (hats:uq P n f.params.toList=some ats)
  (hval:∀(j:Nat) t v,f.params[j]? =some t->args[j]? =some v->Value.okWide P W r b0 t v)
  (hW:DataW.Whole enc P f.params.toList s.vars apart W args.toList ds gs before) (aw:AW P W E B) (hz:∃(z:Nat) (cc:Array Value) (el:TypeId) (fz:Nat×Nat),W.heap[z]? =some (Obj.cells cc el fz))
  (call:∀k ax,Ext B k->ti k ats ax->ay P fid ax k λv _=>v=.bool true):
  Calls P fid args W λe W'=>∃v,e=.returned v/\s.post enc P f apart fresh handsOn again W args v W':=by
 obtain⟨p,q,hA,_⟩:=id hW;obtain⟨F,C,ax,h1,h2,h3⟩:=tY hz f.params.toList hats args.toList ds p hA (λj t v h h'=>hval j t v (by rw[<-abh];exact h) (by rw[<-abh];exact h')) aw;obtain⟨v,g,hs,rfl⟩:=call (B++C) ax ⟨C,rfl⟩ h3;refine(hs (iD (E++F)) W args.toList h1.hr h2).mono λe W' ⟨cv,m',he,hv,_,hg⟩=>?_
 rw[VR]at hv;subst hv;exact⟨_,he,AM hlo hpar hrt htb hvars hfn hW (h1.below hg)⟩
end
end Go.Abs
namespace Go.Proofs.YtgplmdgpmbegiaaGreatDoor
open Go.Abs
noncomputable def w9:ah:=w8 Tryz.prog Rows.houseSafeRow.laid 6
def Fp:w9[0]? =some (.cells RL false false):=by kernel_rfl
def Fo:w9[2]? =some (.cells (Lib.pow10Tab.map (AV.int .u64)) false false):=by kernel_rfl
def RP{k:ah}(e:Ext w9 k):Gl k:=⟨_,_,e.some Fp⟩
def RM{k:ah}(e:Ext w9 k):Pw k:=⟨_,_,e.some Fo⟩
end Go.Proofs.YtgplmdgpmbegiaaGreatDoor
namespace Go.Proofs.YtgplmdgpmbegiaaGreatDoor
open Go.ChangeShapes Go.WideShapes Go.RowKit Go.Abs
def gU{a b:Bool}(h:a=true)(h':b=true):(a&&b)=true:=by rw[h,h'];rfl
def own:ownKnob Tryz.prog.godebug=none:=by kernel_rfl
def laidOut:laidOutB Tryz.prog=true:=by kernel_rfl
def Es:mapsRowed Tryz.prog=true:=by kernel_rfl
def Cd:(Tryz.prog.stops==[])=true:=by kernel_rfl
def Ch:(Tryz.prog.stopKnobs==[])=true:=by kernel_rfl
def Ci:Tryz.prog.stopsHeard=true:=by kernel_rfl
def Cj:Tryz.prog.mayEnter=true:=by kernel_rfl
def Cg:(Rows.houseSafeRow.lifted==Tryz.prog.liftsFinal)=true:=by kernel_rfl
def Et:(Tryz.prog.make==some Rows.houseSafeRow.make)=true:=by kernel_rfl
def Ey:(Rows.houseSafeRow.plainKeys==Tryz.prog.plainKeys)=true:=by kernel_rfl
def Eu:Tryz.prog.mainIs=some (true, "99e684478f8cae51b056da3a355f6848a653f6e5f09f29bc4422acb306b2dd43".toList):=by kernel_rfl
def Ce:true=Tryz.prog.looks []:=by kernel_rfl
def AA(os:Os)(args:Array Value):((World.laidAll Tryz.prog os Rows.houseSafeRow.laid).forCall (λ_ _=>0) ⟨#[],args,[]⟩).Shaped Tryz.prog:=World.shaped_of_ZipB (by kernel_rfl) (by kernel_rfl)
def Ew(os:Os)(args:Array Value):laidMetH Tryz.prog Rows.houseSafeRow.laid ((World.laidAll Tryz.prog os Rows.houseSafeRow.laid).forCall (λ_ _=>0) ⟨#[],args,[]⟩).memory:=by
 rw[MakeChecks.laidMetH_plain _ _ _ (by kernel_rfl)];exact laidMet_laidAll _ (by kernel_rfl) (by kernel_rfl)
end Go.Proofs.YtgplmdgpmbegiaaGreatDoor
namespace Go.Abs
def WR.CH{P:Program}{ro:Option Nat->Prop}{ks:List Kt}{ts:TS}{Q:Ex->TS->ah->Prop}{α:Type}{row:α->List AV}{L:List α}{B Y:ah}{s v:AV}{es i off:Nat}{x':α}{d:Option Nat}{l:List bN}
  (hs:Fr B.length Y s es (L.map row)) (he:Ext B Y) (hi:i<L.length) (ho:off<es) (hv:v.one=true) (hx:row x' =(row L[i]).set off v)
  (K:∀W5:ah,Ext B W5->W5.length=Y.length->Fr B.length W5 s es ((L.set i x').map row)->(∀b,sB s≠some b->W5[b]? =Y[b]?)->WP P ro l ks (put ts d aA) W5 Q):
  WR P ro (a8 1 (j6 s es i off) v (λb=>Y[b]?)) false d l ks ts Y Q:=by
 obtain⟨g,rfl⟩:=he;refine WR.sW (h0:=B) hs hi ho hv hx ?_;intro g' SI hff hkp;exact K _ ⟨_,rfl⟩ (by simp[SI]) hff λb hb=>hkp b λb0 o n e he z=>hb (by rw[he,z];rfl)
set_option maxRecDepth 10000
attribute [local irreducible] WP WC WE WB WR WF WL WG fR WM
section
variable {P:Program}(T:fD P) {B X W:ah}{ts:TS}{V:RV}{x:EV}
include T
def AH(w:fQ V.ao)(ox:bj B x)(we:kH x.ev .accept)(nk:tj V.ao x.ev .accept)(s:cJ B X x V W V)(hlen:ts.length=250)(t2:slot ts 2=.ptr X.length 0)(t3:slot ts 3=.ptr (X.length+1) 0)(t4:slot ts 4=.ptr (X.length+2) 0):
  WC P bL AI [] ts W (FQ [(4,some (some 7)),(5,none)] (sM B X V (bD V.ao x.ev .accept) (dO V.ao x.ev .accept))):=by
 have ow:=ox.ext s.ex;have oV:=s.bk.o.ok;have SE:x.ev.kind=bw .accept:=bZ we.kd;obtain⟨lr,le,sb,gm⟩:=cJ.fa s;obtain⟨i0,d0⟩:=bR ow we 0 0 rfl De;obtain⟨j0,f0,q0⟩:=dq ow we 0 0 rfl De;unfold AI fn225;simp only[ai.tl];have k0:aS x.ev 0∈gC V.ao:=nk.kn 0 0 rfl;have UM:x.ev.names=[aS x.ev 0]:=by
  have h1:=we.nl;obtain⟨n,hn⟩:∃n,x.ev.names=[n]:=List.length_eq_one_iff.1 h1;rw[aS,hn];rfl
 have hlt:aW (gC V.ao) (aS x.ev 0)<V.lines.length:=by have:=cL k0;simpa [gC,RV.ao]using this
 have ei:de (λy:iH=>decide (y.name=aS x.ev 0)) V.lines=(aW (gC V.ao) (aS x.ev 0):Int):=eS (f:=iH.name) k0;have sp:du V.ao (aS x.ev 0)=V.lines[aW (gC V.ao) (aS x.ev 0)]:=cS k0;obtain⟨p,hp⟩:∃p,p=aW (gC V.ao) (aS x.ev 0):=⟨_,rfl⟩;rw[<-hp]at ei;have hlt:p<V.lines.length:=by rw[hp];exact hlt
 have sp:du V.ao (aS x.ev 0)=V.lines[p]:=by rw[sp];congr 1;exact hp.symm
 refine pH (Kh @t2 @t3 @t4 @le @lr @bC @aP @bg @aE @SE @iO @aac @Z5 @j0 @f0 @i0 @d0) ?_;refine WF.ce T.c28 (r28 T (oV.ext Xx) w.len _) λg1=>?_
 rw[ei];obtain⟨W2,Tj⟩:∃Z,Z=W++g1:=⟨_,rfl⟩;rw[<-Tj];have SV:cJ B X x V W2 V:=by rw[Tj];exact fF.grow s ⟨g1,rfl⟩
 have ow:=ox.ext SV.ex;have oV:=SV.bk.o.ok;obtain⟨lr,le,sb,gm⟩:=cJ.fa SV;have on:=ow.n;rw[UM]at on;have on1:=ow.n.one;refine Rs (A7 t2 t3 t4 @le @lr @aE @aP) ?_;refine WF.res T.c127 (r127 T (oV.ext Xx) w.len on Si) ?_;rintro ns g2 hns;obtain⟨W3,SS⟩:∃Z,Z=W2++g2:=⟨_,rfl⟩;rw[<-SS];have S2:cJ B X x V W3 V:=by rw[SS];exact fF.grow SV ⟨g2,rfl⟩
 have ow:=ox.ext S2.ex;have oV:=S2.bk.o.ok;obtain⟨lr,le,sb,gm⟩:=cJ.fa S2;rw[<-SS]at hns;obtain⟨S,hS⟩:∃S,S=sO V.ao (aS x.ev 0):=⟨_,rfl⟩;have hfS:(V.ao.aj.filter λy=>decide (y.line∈[aS x.ev 0]))=S:=by
  rw[hS,sO];refine List.filter_congr λy _=>?_
  simp
 rw[hfS]at hns;have hSm:∀y∈S,y∈V.ao.aj:=λy hy=>by rw[hS,sO]at hy;exact(aa3.1 hy).1
 have hSl:S.length<=64:=by
  have h1:S.length<=V.ao.aj.length:=by rw[hS,sO];exact aav _ _
  have:=w.l2;omega
 rw[abt]at hns;have ix:aV 3 V.s0 (.i (p:Int))=some (cF V.s0 3 p,.ar):=oV.i0.dA hlt;have l2:∀{k:ah},Ext W3 k->aq none (j6 V.s0 3 p 2) (λb=>k[b]?)=some (.bool (du V.ao (aS x.ev 0)).acc,.ar):=λ{k} e=>by rw[sp];exact oV.i0.lO hlt rfl e
 have l1:∀{k:ah},Ext W3 k->aq none (j6 V.s0 3 p 1) (λb=>k[b]?)=some (.i (du V.ao (aS x.ev 0)).want,.ar):=λ{k} e=>by rw[sp];exact oV.i0.lO hlt rfl e
 cases h1:(du V.ao (aS x.ev 0)).acc with
 |true=>
  rw[h1]at l2;refine Rs (kJ t2 t3 t4 ix @l2 @lr @aE @gG @sb @gm) ?_;rw[bD,ZY h1];exact D9
 |false=>
 rw[h1]at l2;by_cases h2:(S.length:Int)<(du V.ao (aS x.ev 0)).want
 case pos=>
  have e2:decide ((S.length:Int)<(du V.ao (aS x.ev 0)).want)=true:=ZR h2;refine Rs (D5 t2 t3 t4 ix @l2 @l1 hns.aL @lr @aE @gG e2 @sb @gm) ?_;rw[bD,ZW (by rw[h1];decide),ZY (by rw[<-hS];exact h2)];exact D9
 have e2:decide ((S.length:Int)<(du V.ao (aS x.ev 0)).want)=false:=ZN h2;refine Rs (mQ t2 t3 t4 ix @l2 @l1 hns.aL @lr @aE @gG e2) ?_;refine WL.inv T.mix (λm ts h'=>∃(k:Nat) (g:ah),k<=S.length/\m=S.length-k/\h' =W3++g/\(∀y∈S.take k,fU V.ao y (bM x.ev 0)=true)/\ts.length=250/\slot ts 2=.ptr X.length 0/\slot ts 4=.ptr (X.length+2) 0/\slot ts 6=.i (bM x.ev 0)/\slot ts 9=.i (p:Int)/\slot ts 10=ns/\slot ts 11=.i k) S.length
  ⟨0,[],Om,rfl,by rw[aaf],(λy hy=>by cases hy),Sn,(Sq t2),(Sq t4),Sw,Sw,Sw,gf⟩ ?_
 clear t2 t3 t4 hlen;rintro _ ts _ ⟨k,g,hk,rfl,rfl,hsf,hlen,t2,t4,t6,t9,t10,t11⟩;obtain⟨W4,Tw⟩:∃Z,Z=W3++g:=⟨_,rfl⟩;rw[<-Tw];have Ui:cJ B X x V W4 V:=by rw[Tw];exact fF.grow S2 ⟨g,rfl⟩
 have ow:=ox.ext Ui.ex;have oV:=Ui.bk.o.ok;obtain⟨lr,le,sb,gm⟩:=cJ.fa Ui;have e34:Ext W3 W4:=⟨g,Tw⟩;have hns:=hns.ext e34;by_cases TK:k<S.length
 ·have e3:decide ((k:Int)<S.length)=true:=ZR Om;have e5:=wrapN (n:=k) Om;have iy:=hns.dA (kk:=.i64) TK;obtain⟨y,hy⟩:∃y,y=S[k]:=⟨_,rfl⟩;have Uj:y∈V.ao.aj:=hSm y (by rw[hy];exact ZZ _);have lf:∀{kk:ah},Ext W4 kk->aq none (cF ns 1 k) (λb=>kk[b]?)=some (.str y.name,.ar):=λ{kk} e=>hns.gR TK (by rw[<-hy];rfl) e
  have Va:y.name∈k5 V.ao:=aah Uj;have hps:=cL Va;have UQ:aW (k5 V.ao) y.name<V.aj.length:=by simpa [k5,RV.ao]using hps
  have iz:aV 3 V.s2 (.i ((aW (k5 V.ao) y.name:Nat):Int))=some (cF V.s2 3 (aW (k5 V.ao) y.name),.ar):=oV.i2.dA UQ;obtain⟨u,hu⟩:∃u,u=V.aj[aW (k5 V.ao) y.name]:=⟨_,rfl⟩;have hum:u∈V.aj:=by rw[hu];exact ZZ _
  have huy:u.1=y:=by
   have a1:nW V.ao y.name=y:=uT w.n2.nd Uj;rw[nW,cS (f:=j7.name) (l:=V.ao.aj) (d:=CP) Va]at a1;rw[<-a1,hu];exact z72
  have ly:∀{kk:ah},Ext W4 kk->aq (some 3) (cF V.s2 3 (aW (k5 V.ao) y.name)) (λb=>kk[b]?)=some (.agg (bt u),.ar):=λ{kk} e=>by rw[hu];exact oV.i2.kR UQ e
  have ou:=oV.e2 u hum;have hul:=(w.yL.sh u hum);refine Rs (D5 t2 t4 t6 t9 t10 t11 hns.aL e3 @lr @fG @aE @iy @lf) ?_;refine WF.ce T.c22 (r22 T (oV.ext Xx) w.len _) λg3=>?_
  have ej:de (λy':j7×AV=>decide (y'.1.name=y.name)) V.aj=(aW (k5 V.ao) y.name:Int):=by
   rw[jh];exact eS (f:=λy:j7×AV=>y.1.name) (by rw[<-jh];exact Va)
  rw[ej];refine Rs (A8 t2 t4 t6 t9 t10 t11 @iz @ly) ?_;refine WF.ce T.c23 (r23 T (oV.ext Xx) w.len (ou.ext Xx) hul.2 hul.1 _) λg4=>?_
  rw[huy];cases h4:fU V.ao y (bM x.ev 0)with
  |false=>
   refine Rs (mQ t2 t4 t6 t9 t10 t11 @aai @lr @aE @sb @gm) ?_;rw[bD,ZW (by rw[h1];decide),ZW (by rw[<-hS];exact h2),ZY (by rw[<-hS];exact abx.2 ⟨y,by rw[hy];exact ZZ _,by rw[h4];rfl⟩)];exact cJ.fin (fF.grow Ui (by rw[ZO];exact⟨_,rfl⟩)) (λz=>absurd z De)
  |true=>
   refine Rs (A8 t2 t4 t6 t9 t10 t11 @aad e5) ?_;refine⟨_,Om,k+1,g++g3++g4,Om,rfl,by rw[Tw];simp only[ZO],?_,rfl⟩;intro y' hy';exact Rf
 ·have e3:decide ((k:Int)<S.length)=false:=ZN Om;have e4:k=S.length:=Om
  rw[e4,aaj]at hsf;have Tp:bD V.ao x.ev .accept=0:=by
   rw[bD,ZW (by rw[h1];decide),ZW (by rw[<-hS];exact h2),ZW];exact z162
  refine Rs (mQ t2 t4 t6 t9 t10 t11 hns.aL e3 @lr @gG ix) ?_;refine WR.CH (B:=B) (x':={V.lines[p]with acc:=true}) (row:=cC) Ui.bk.o.i0 Ui.ex hlt De rfl rfl ?_;intro W5 x5 l5 hff hk5;have s5:cJ B X x V W5 {V with lines:=V.lines.set p {V.lines[p]with acc:=true} }:=fF.q0 Ui hff (λi _ hne=>hk5 i hne) x5 Om;obtain⟨lr,_,sb,gm⟩:=cJ.fa s5;refine Rs (kJ t2 t4 t6 t9 t10 t11 @lr @aE @sb @gm) ?_;exact z196
end
structure HA(X:ah)(x:EV)(U:RV)(h:ah):Prop where
 r:h[X.length]? =some (.b U.row)
 e:h[X.length+1]? =some (.b x.row)
 n:bj h x
theorem HA.ext{X h k x U}(s:HA X x U h)(e:Ext h k):HA X x U k:=⟨e.some s.r,e.some s.e,s.n.ext e⟩
section
variable {P:Program}(T:fD P) {B X W:ah}{ts:TS}{V:RV}{x:EV}
include T
def ER(w:fQ V.ao)(ox:bj B x)(we:kH x.ev .copy)(nk:tj V.ao x.ev .copy)(s:cJ B X x V W V)(hlen:ts.length=250)(t2:slot ts 2=.ptr X.length 0)(t3:slot ts 3=.ptr (X.length+1) 0)(t4:slot ts 4=.ptr (X.length+2) 0):
  WC P bL AI [] ts W (FQ [(4,some (some 7)),(5,none)] (sM B X V (bD V.ao x.ev .copy) (dO V.ao x.ev .copy))):=by
 have ow:=ox.ext s.ex;have oV:=s.bk.o.ok;have SE:x.ev.kind=bw .copy:=bZ we.kd;obtain⟨lr,le,sb,gm⟩:=cJ.fa s;obtain⟨i0,d0⟩:=bR ow we 0 0 rfl De;obtain⟨i1,d1⟩:=bR ow we 1 1 rfl De;obtain⟨j0,f0,q0⟩:=dq ow we 0 0 rfl De;unfold AI fn225;simp only[ai.tl];have k0:aS x.ev 0∈kB V.ao:=nk.kn 0 1 rfl;have k1:aS x.ev 1∈kB V.ao:=nk.kn 1 1 rfl;have TF:V.aj.length<=64:=by have:=w.l2;simpa [RV.ao]using this
 have htp:∀y∈V.aj,y.1.aH.length<2^30:=λy hy=>(w.yL.sh y hy).2
 by_cases h1:aS x.ev 0=aS x.ev 1
 case pos=>
  have e1:decide (aS x.ev 0=aS x.ev 1)=true:=ZR h1;refine pH (N7 @t2 @t3 @t4 @le @lr @bC @aP @bg @aE @SE @iO @aac @Z5 @j0 @f0 @i0 @d0 @i1 @d1 @e1 @sb @gm) ?_;rw[bD,ZY h1];exact z164
 have e1:decide (aS x.ev 0=aS x.ev 1)=false:=ZN h1;refine pH (RW @t2 @t3 @t4 @le @lr @bC @aP @bg @aE @SE @iO @aac @Z5 @j0 @f0 @i0 @d0 @i1 @d1 @e1) ?_;refine WF.ce T.c84 (r84 T (oV.ext Xx) w.len k0 _) λg1=>?_
 obtain⟨W2,Tj⟩:∃Z,Z=W++g1:=⟨_,rfl⟩;rw[<-Tj];have SV:cJ B X x V W2 V:=by rw[Tj];exact fF.grow s ⟨g1,rfl⟩
 have ow:=ox.ext SV.ex;have oV:=SV.bk.o.ok;obtain⟨lr,le,sb,gm⟩:=cJ.fa SV;obtain⟨i0,d0⟩:=bR ow we 0 0 rfl De;obtain⟨i1,d1⟩:=bR ow we 1 1 rfl De;obtain⟨j0,f0,q0⟩:=dq ow we 0 0 rfl De;cases h2:ki V.ao (bM x.ev 0) (aS x.ev 0)with
 |false=>
  refine Rs (A8 t2 t3 t4 @aai @lr @aE @sb @gm) ?_;rw[bD,ZW h1,ZY (by rw[h2];rfl)];exact Kj
 |true=>
 refine Rs (kJ t2 t3 t4 @aad @le @lr @aE @aP @i1 @d1) ?_;refine WF.ce T.c84 (r84 T (oV.ext Xx) w.len k1 _) λg2=>?_
 obtain⟨W3,SS⟩:∃Z,Z=W2++g2:=⟨_,rfl⟩;rw[<-SS];have S2:cJ B X x V W3 V:=by rw[SS];exact fF.grow SV ⟨g2,rfl⟩
 have ow:=ox.ext S2.ex;have oV:=S2.bk.o.ok;obtain⟨lr,le,sb,gm⟩:=cJ.fa S2;obtain⟨i0,d0⟩:=bR ow we 0 0 rfl De;obtain⟨i1,d1⟩:=bR ow we 1 1 rfl De;obtain⟨j0,f0,q0⟩:=dq ow we 0 0 rfl De;cases h3:ki V.ao (bM x.ev 0) (aS x.ev 1)with
 |false=>
  refine Rs (A8 t2 t3 t4 @aai @lr @aE @sb @gm) ?_;rw[bD,ZW h1,ZW (by rw[h2];decide),ZY (by rw[h3];rfl)];exact D9
 |true=>
 have Tp:bD V.ao x.ev .copy=0:=by rw[bD,ZW h1,ZW (by rw[h2];decide),ZW (by rw[h3];decide)]
 refine Rs (A4 t2 t3 t4 @aad) ?_;obtain⟨a,ha⟩:∃a,a=aS x.ev 0:=⟨_,rfl⟩;obtain⟨z,hz⟩:∃z,z=aS x.ev 1:=⟨_,rfl⟩;refine WL.inv T.mix (λm ts W=>∃(k:Nat) (U:RV),k<=V.aj.length/\m=V.aj.length-k/\cJ B X x V W U/\U.s2=V.s2/\U.aj.length=V.aj.length/\
   {U.ao with aj:=V.ao.aj} =V.ao/\(∀i (hi:i<U.aj.length) (hi':i<V.aj.length),(U.aj[i]).1=if i<k then lC a z (V.aj[i]).1 else(V.aj[i]).1)/\
   ts.length=250/\slot ts 2=.ptr X.length 0/\slot ts 3=.ptr (X.length+1) 0/\slot ts 4=.ptr (X.length+2) 0/\slot ts 7=.i k) V.aj.length
  ⟨0,V,Om,rfl,S2,rfl,rfl,rfl,λi hi hi'=>by rw[ZW Om],Sn,(Sq t2),(Sq t3),(Sq t4),gf⟩ ?_
 clear t2 t3 t4 hlen i0 i1 d0 d1 j0 f0 oV ow lr le sb gm;rintro _ ts W4 ⟨k,U,hk,rfl,s,Te,UG,hreg,hU,hlen,t2,t3,t4,t7⟩;have ow:=ox.ext s.ex;have oU:=s.bk.o.ok;obtain⟨lr,le,sb,gm⟩:=cJ.fa s;by_cases hlt:k<V.aj.length
 ·have VO:k<U.aj.length:=Om
  have e3:=eF hlt;have e5:=wrapN (n:=k) Om;have ll:∀(G:Nat->Option an),Go.Abs.j9 .sl G U.s2=some V.aj.length:=λG=>by rw[oU.i2.aL,UG]
  have ix:aV 3 U.s2 (.i (k:Int))=some (cF U.s2 3 k,.ar):=oU.i2.dA VO;have Ty:U.aj[k]∈U.aj:=ZZ _;have hx1:(U.aj[k]).1=(V.aj[k]).1:=by rw[hU k VO hlt,ZW Om]
  have hxl:(U.aj[k]).1.aH.length<2^30:=by rw[hx1];exact htp _ (ZZ _)
  have WU:=s.bk.o.e2 _ Ty;have next:∀(U2:RV),U2.aj.length=V.aj.length->(∀i (hi:i<U2.aj.length) (hi':i<U.aj.length),(U2.aj[i]).1=if i=k then lC a z (U.aj[i]).1 else(U.aj[i]).1)->
    ∀i (hi:i<U2.aj.length) (hi':i<V.aj.length),(U2.aj[i]).1=if i<k+1 then lC a z (V.aj[i]).1 else(V.aj[i]).1:=by
   intro U2 a3 a5 i hi hi';exact Rk
  obtain⟨y,hy⟩:∃y,y=U.aj[k]:=⟨_,rfl⟩;have ly:∀{kk:ah},Ext W4 kk->aq none (j6 U.s2 3 k 2) (λb=>kk[b]?)=some (y.2,.ar):=λ{kk} e=>oU.i2.lO VO (by rw[<-hy];rfl) e
  rw[<-hy]at WU hxl;have oy:=WU.aO.one;obtain⟨i0,d0⟩:=bR ow we 0 0 rfl De;obtain⟨i1,d1⟩:=bR ow we 1 1 rfl De;rw[<-ha]at d0;rw[<-hz]at d1;refine Rs (za t2 t3 t4 t7 @lr @le @fG @ll e3 ix @ly @aP @i0 @d0) ?_;refine WF.ce T.c35 (r35 T (WU.aO.ext Xx) Om a) λg3=>?_
  by_cases c1:a∈y.1.aH
  case neg=>
   have u1:decide (a∈y.1.aH)=false:=ZN c1;rw[u1];refine Rs (A5 t2 t3 t4 t7 e5) ?_;refine⟨_,Om,k+1,U,Om,rfl,fF.grow s ⟨g3,rfl⟩,Te,UG,hreg,next U UG (λi hi hi'=>?_),rfl⟩;split
   ·rename_i UB;subst UB;rw[<-hy,lC,ZW (λw=>c1 w.1)]
   ·rfl
  have u1:decide (a∈y.1.aH)=true:=ZR c1;rw[u1];refine Rs (A8 t2 t3 t4 t7 @le @aP @i1 @d1) ?_;refine WF.ce T.c35 (r35 T (WU.aO.ext Xx) Om z) λg4=>?_
  by_cases c2:z∈y.1.aH
  ·have u2:decide (z∈y.1.aH)=true:=ZR c2;rw[u2];refine Rs (A6 t2 t3 t4 t7 @aad e5) ?_;refine⟨_,Om,k+1,U,Om,rfl,fF.grow s (by rw[ZO];exact⟨_,rfl⟩),Te,UG,hreg,next U UG (λi hi hi'=>?_),rfl⟩;split
   ·rename_i UB;subst UB;rw[<-hy,lC,ZW (λw=>w.2 c2)]
   ·rfl
  have u2:decide (z∈y.1.aH)=false:=ZN c2;rw[u2];refine Rs (A5 t2 t3 t4 t7 @aai) ?_;obtain⟨W5,U4⟩:∃Z,Z=W4++g3++g4:=⟨_,rfl⟩;rw[<-U4];have YD:Ext W4 W5:=by rw[U4,ZO];exact⟨_,rfl⟩
  have s5:cJ B X x V W5 U:=fF.grow s YD;have S5:HA X x U W5:=⟨s5.bk.m,cJ.M0 s5,ox.ext s5.ex⟩;have hfx5:=s5.bk.o.e2 y (by rw[hy];exact Ty);refine pC (HA X x U) ?_;refine dD S5 rfl rfl ?_;refine Rs (A4 t2 t3 t4 t7) ?_;refine lK S5 (v:=U.s2) (λg hg=>?_) ?_
  ·simp only[aQ,aR,aX,aY,reduceAdd,reduceMul,reduceLeDiff,reduceEqDiff,bd,hlen,Z3,Z7,t2,az hg.r,fG]
  refine Rs (A4 t2 t3 t4 t7) ?_;refine dD S5 rfl rfl ?_;refine Rs (A4 t2 t3 t4 t7) ?_;refine dD S5 rfl rfl ?_;refine Rs (A4 t2 t3 t4 t7) ?_;have S6:HA X x U (W5++[an.b []]):=S5.ext ⟨_,rfl⟩;refine dD S6 rfl rfl ?_;refine Rs (A4 t2 t3 t4 t7) ?_;refine dD S6 rfl rfl ?_;refine Rs (A4 t2 t3 t4 t7) ?_;obtain⟨n5,hn5⟩:∃n,n=W5.length:=⟨_,rfl⟩;refine WR.pg (N:=n5) (w:=16) ba (Nat.le_of_eq hn5) (hfx5.aO.ext Xx) (by simp only[ZU];omega) λt0 g5 ft=>?_
  obtain⟨W6,Uq⟩:∃Z,Z=W5++[an.b []]++g5:=⟨_,rfl⟩;rw[<-Uq]at ft ⊢;have e56:Ext W5 W6:=by rw[Uq,ZO];exact⟨_,rfl⟩
  have S7:HA X x U W6:=S5.ext e56;have oq:=S7.n;have iq:aV 1 x.sn (.i 1)=_:=(xG oq we (i:=1) De).1;have p0:=ft.aO.one;refine Rs (A4 t2 t3 t4 t7) ?_;refine dD S7 rfl rfl ?_;refine Rs (A4 t2 t3 t4 t7) ?_;refine lK S7 (v:=x.sn) (λg hg=>?_) ?_
  ·simp only[aQ,aR,aX,aY,reduceAdd,reduceMul,reduceLeDiff,reduceEqDiff,bd,hlen,Z3,Z7,t3,az hg.e,aP]
  refine Rs (A4 t2 t3 t4 t7) ?_;refine dD S7 rfl rfl ?_;refine Rs (A5 t2 t3 t4 t7 @iq) ?_;refine lK S7 (v:=.str z) (λg hg=>?_) ?_
  ·have h9:=@(xG hg.n we (i:=1) De).2;rw[<-hz]at h9;refine Zs t3 ?_;exact h9 (Ext.refl _)
  refine Rs (A4 t2 t3 t4 t7) ?_;refine dD S7 rfl rfl ?_;refine Rs (A4 t2 t3 t4 t7) ?_;refine dD (S7.ext ⟨_,rfl⟩) rfl rfl ?_;refine Rs (A4 t2 t3 t4 t7) ?_;rw[hn5]at ft;have s6:cJ B X x V W6 U:=fF.grow s5 e56;refine WR.ml (B:=W5) (cs:=y.1.aH.map ak) ft rfl e56 De (by simp only[ZU];omega) ?_;intro W7 t' x7 hff hn7 q7 l7 hk7;have hrow:y.1.aH.map ak++[[AV.str z]]=(y.1.aH++[z]).map ak:=by rw[ZV];rfl
  rw[hrow]at hff;have k7:∀i,i<W5.length->W7[i]? =W5[i]? :=λi hi=>x7.get hi
  have s7:cJ B X x V W7 U:=fF.grow s5 x7;have S8:HA X x U W7:=S5.ext x7;refine Rs (A4 t2 t3 t4 t7) ?_;refine pB S8 rfl ?_;have hs27:Fr B.length W7 U.s2 3 (U.aj.map bt):=s7.bk.o.i2;have ix:aV 3 U.s2 (.i (k:Int))=some (cF U.s2 3 k,.ar):=oU.i2.dA VO;refine Rs (A6 t2 t3 t4 t7 ix q7) ?_;refine WR.CH (B:=B) (x':=(⟨y.1.name,y.1.line,y.1.aH++[z]⟩,t')) (row:=bt) hs27 s7.ex VO De q7 (by rw[<-hy];rfl) ?_;intro W8 x8 l8 hf8 hk8;have ft8:Fr B.length W8 t' 1 ((y.1.aH++[z]).map ak):=(hff.aB λi hi=>hk8 i λe=>by
   have h1:=(hff.bB hi).1;have h2:=(s5.bk.o.eO (b:=i) (by rw[<-e];simp[RV.bl])).2;omega).low s5.ex.len
  have s8:cJ B X x V W8 {U with aj:=U.aj.set k (⟨y.1.name,y.1.line,y.1.aH++[z]⟩,t') }:=fF.qS s VO hf8 ft8 (λj hj=>by have h1:=(hff.bB hj).1;have:=YD.len;omega) (λj hj n1 n2=>by
   rw[hk8 j n1,k7 j (by have:=YD.len;omega)];exact YD.get hj) x8 (by have:=YD.len;have:=e56.len;omega)
  refine Rs (A5 t2 t3 t4 t7 e5) ?_;refine⟨_,Om,k+1,_,Om,rfl,s8,Te,(by simp only[aax];exact UG),hreg,next _ (by simp only[aax];exact UG) (λi hi hi'=>?_),rfl⟩;by_cases UB:i=k
  ·subst UB;simp only[abL,Z7];rw[<-hy,lC,ZY ⟨c1,c2⟩]
  ·exact z218
 ·have e3:decide ((k:Int)<V.aj.length)=false:=ZN Om;have e4:k=V.aj.length:=Om
  have ll:∀(G:Nat->Option an),Go.Abs.j9 .sl G U.s2=some V.aj.length:=λG=>by rw[oU.i2.aL,UG]
  refine Rs (mQ t2 t3 t4 t7 @lr @fG @ll e3 @aE @sb @gm) ?_;rw[Tp];refine cJ.fin s (λ_=>?_);exact Ru
def Da{d}(hd:d=.line\/d=.tape\/d=.hP\/d=.copy\/d=.accept)(o:cP B.length X V)(w:fQ V.ao)(hx:Ext B X)(ox:bj B x)(we:kH x.ev d)(nk:tj V.ao x.ev d):
  dE P 225 [.agg V.row,.agg x.row] X (sM B X V (bD V.ao x.ev d) (dO V.ao x.ev d)):=by
 refine .of T.mix (acb T.c225 (aan some O0)) ?_;obtain⟨ts,Sv⟩:∃ts,ts=aU 250 [.agg V.row,.agg x.row]:=⟨_,rfl⟩;have hlen:ts.length=250:=by rw[Sv];rfl
 have t0:slot ts 0=.agg V.row:=by rw[Sv];rfl
 have t1:slot ts 1=.agg x.row:=by rw[Sv];rfl
 show WC P bL (.seq ((fn225).body.hd) AI) [] (aU 250 [.agg V.row,.agg x.row]) X (FQ [(4,some (some 7)),(5,none)] (sM B X V (bD V.ao x.ev d) (dO V.ao x.ev d)));rw[<-Sv];clear Sv;have Su:=@aC.box _ _ o.ok;have hex:=@bj.box _ _ (ox.ext hx);have s:cJ B X x V (X++[.b V.row]++[.b x.row]++[.b lI]) V:=by
  exact z21
 unfold lI at s;generalize hB:AI=R;unfold fn225;simp only[ai.hd];refine Rs (A4 t0 t1 @Su @hex) ?_;rw[<-hB];rcases hd with rfl|rfl|rfl|rfl|rfl
 ·exact EP T w ox we nk s Sn Sw (by simp only[aQ,aR,aX,aY,reduceAdd,reduceMul,reduceLeDiff,reduceEqDiff,bd,hlen,Z3,Z7];simp) (by simp only[aQ,aR,aX,aY,reduceAdd,reduceMul,reduceLeDiff,reduceEqDiff,bd,hlen,Z3,Z7];simp)
 ·exact EN T w ox we nk s Sn Sw (by simp only[aQ,aR,aX,aY,reduceAdd,reduceMul,reduceLeDiff,reduceEqDiff,bd,hlen,Z3,Z7];simp) (by simp only[aQ,aR,aX,aY,reduceAdd,reduceMul,reduceLeDiff,reduceEqDiff,bd,hlen,Z3,Z7];simp)
 ·exact EO T w ox we nk s Sn Sw (by simp only[aQ,aR,aX,aY,reduceAdd,reduceMul,reduceLeDiff,reduceEqDiff,bd,hlen,Z3,Z7];simp) (by simp only[aQ,aR,aX,aY,reduceAdd,reduceMul,reduceLeDiff,reduceEqDiff,bd,hlen,Z3,Z7];simp)
 ·exact ER T w ox we nk s Sn Sw (by simp only[aQ,aR,aX,aY,reduceAdd,reduceMul,reduceLeDiff,reduceEqDiff,bd,hlen,Z3,Z7];simp) (by simp only[aQ,aR,aX,aY,reduceAdd,reduceMul,reduceLeDiff,reduceEqDiff,bd,hlen,Z3,Z7];simp)
 ·exact AH T w ox we nk s Sn Sw (by simp only[aQ,aR,aX,aY,reduceAdd,reduceMul,reduceLeDiff,reduceEqDiff,bd,hlen,Z3,Z7];simp) (by simp only[aQ,aR,aX,aY,reduceAdd,reduceMul,reduceLeDiff,reduceEqDiff,bd,hlen,Z3,Z7];simp)
end
def fF.MH{B W0 W W2 b K U}(s:fF B W0 b K W U)(hk:∀i,i<W.length->W2[i]? =W[i]?)(hl:W.length<=W2.length)(hx:Ext B W2):fF B W0 b K W2 U:=by
 refine⟨⟨s.bk.o.ar λi hi=>hk i (s.bk.o.eO hi).2,s.bk.hN,(hk _ s.bk.lt).trans s.bk.m,s.bk.ne⟩,hx,aaz s.ln hl,λi hi=>?_,s.kl⟩;rw[hk i (aaG (s.kl i hi).1 s.ln)];exact s.kp i hi
structure vE(B W Y:ah)(mb:Nat)(c:List AV)(t:AV)(ins:List (By)):Prop where
 k:∀i,i<W.length->Y[i]? =W[i]?
 b:B.length<=W.length
 l:W.length<=mb
 x:Ext B Y
 m:Y[mb]? =some (.b c)
 f:Fr W.length Y t 1 (ins.map ak)
 n:∀i,sB t=some i->i≠mb
def vE.lt{B W Y mb c t ins}(s:vE B W Y mb c t ins):mb<Y.length:=(ZM.1 s.m).1
def vE.grow{B W Y Y2 mb c t ins}(s:vE B W Y mb c t ins)(e:Ext Y Y2):vE B W Y2 mb c t ins:=by
 have h1:=s.lt;have h2:=s.l;exact⟨λi hi=>by rw[e.get Om,s.k i hi],s.b,s.l,s.x.trans e,e.some s.m,s.f.ext e,s.n⟩
theorem vE.set{B W Y mb c t ins}(s:vE B W Y mb c t ins)(c':List AV):vE B W (Y.set mb (.b c')) mb c' t ins:=by
 have h1:=s.lt;have h2:=s.l;have h3:=s.b;exact⟨λi hi=>by rw[Z4 Om,s.k i hi],s.b,s.l,s.x.jD Om,Z8 h1,s.f.aB λi hi=>Z4 (abe (s.n i hi)),s.n⟩
def vE.rc{B X W Y x V mb c t ins}(s:vE B W Y mb c t ins)(r:cJ B X x V W V):cJ B X x V Y V:=
 fF.MH r s.k (by have:=s.lt;have:=s.l;omega) s.x
def vE.st{B W Y mb c t ins}(s:vE B W Y mb c t ins){i v}(hv:v.one=true)(hi:i+1<=c.length):a8 1 (.ptr mb i) v (λz=>Y[z]?)=some (aA,.set mb (.b (c.set i v))):=
 (aN s.m).trans (cD hv hi)
def xR(k:Nat):ai:=(fn226).body.dr k
def FX(k:Nat):ai:=((fn226).body.dr k).hd
def QH:xR 1=.seq (FX 1) (xR 2):=rfl
def Jv:xR 2=.seq (FX 2) (xR 3):=rfl
def QI:fn226=⟨96,2,[(4,some (some 7)),(5,none)],.seq (FX 0) (xR 1)⟩:=rfl
section
variable {P:Program}(T:fD P) {B X W Y:ah}{ts:TS}{V:RV}{x:EV}{mb:Nat}
include T
theorem uZ(w:fQ V.ao)(s:cJ B X x V W V){y t ins}(hb:vE B W Y mb [.str y.name,.str y.gives,.str y.line,t] t ins)(hy:y.bA=ins)(hlen:ts.length=96)(t2:slot ts 2=.ptr X.length 0)(t4:slot ts 4=.ptr (X.length+2) 0)(t6:slot ts 6=.ptr mb 0):
  WC P bL (xR 3) [] ts Y (FQ [(4,some (some 7)),(5,none)] (sM B X V (if 32<=V.ao.aD.length then 5 else 0) {V.ao with aD:=V.ao.aD++[y] })):=by
 have sY:=hb.rc s;have oV:=sY.bk.o.ok;have lm:=@fw _ _ _ hb.m;have hml:V.ao.aD.length=V.aD.length:=by simp[RV.ao]
 have ot:=hb.f.aO.one;obtain⟨lr,le,sb,gm⟩:=cJ.fa sY;unfold xR fn226;simp only[ai.j,ai.s,ai.r,ai.dr,ai.tl];by_cases h1:32<=V.aD.length
 case pos=>
  have e1:decide ((32:Int)<=(V.aD.length:Int))=true:=ZR Om;refine Rs (kJ t2 t4 t6 @lr @gF oV.i3.aL e1 @aE @sb @gm) ?_;rw[hml,ZY h1];exact Ki
 have e1:decide ((32:Int)<=(V.aD.length:Int))=false:=ZN Om;obtain⟨z,hz⟩:∃z:List AV,z=bf (y,t):=⟨_,rfl⟩;have Uw:[AV.str y.name,.str y.gives,.str y.line,t]=z:=by rw[hz];rfl
 refine Rs (A9 t2 t4 t6 @lr @gF oV.i3.aL e1 @lm @ot) ?_;rw[Uw];refine WR.ml (B:=B) (cs:=V.aD.map bf) (sY.bk.o.i3) (by rw[hz];rfl) sY.ex De (by rw[ZU];omega) ?_;intro W5 s' x5 hff hn5 q5 l5 hk5;have hrow:V.aD.map bf++[z]=(V.aD++[(y,t)]).map bf:=by rw[ZV,hz];rfl
 rw[hrow]at hff;have hlW:W.length<=Y.length:=by have:=hb.lt;have:=hb.l;omega
 have bP:∀i,sB t=some i->sB V.s3≠some i:=λi hi e=>by
  have h1:=(hb.f.bB hi).1;have h2:=(s.bk.o.eO (b:=i) (by rw[<-e];simp[RV.bl])).2;omega
 have f5:Fr B.length W5 t 1 (y.bA.map ak):=by
  rw[hy];exact(hb.f.aB λi hi=>hk5 i (hb.f.bB hi).2 (bP i hi)).low hb.b
 have s5:cJ B X x V (W5.set X.length (.b (V.row.set 4 s'))) {V with aD:=V.aD++[(y,t)],s3:=s'}:=fF.p3 s hff f5 (λi hi=>.inr (by have:=hn5 i hi;omega)) (λi hi=>⟨(hb.f.bB hi).1,λe=>by have:=hn5 i e;have:=(hb.f.bB hi).2;omega⟩) (λi hi hne=>(hk5 i Om hne).trans (hb.k i hi)) x5 Om;have mB:W5[X.length]? =some (.b V.row):=(hk5 _ sY.bk.lt (λz=>sY.bk.ne (by rw[<-z];simp[RV.bl]))).trans sY.bk.m;have Uh:a8 1 (.ptr X.length 4) s' (λz=>W5[z]?)=some (aA,.set X.length (.b (V.row.set 4 s'))):=(aN mB).trans (cD q5 (by show 4+1<=7;omega));refine Rs (A5 t2 t4 t6 @Uh q5) ?_;obtain⟨W6,Uq⟩:∃Z,Z=W5.set X.length (.b (V.row.set 4 s')):=⟨_,rfl⟩
 rw[<-Uq]at s5 ⊢;obtain⟨lr,le,sb,gm⟩:=cJ.fa s5;refine Rs (A7 t2 t4 t6 @lr @aE @sb @gm) ?_;rw[hml,ZW h1];exact cJ.fin s5 (λ_=>by simp only[RV.ao,ZV,aaJ,abd])
variable {t:AV}
def Bj(w:fQ V.ao)(ox:bj B x)(we:kH x.ev .source)(nk:tj V.ao x.ev .source)(s:cJ B X x V W V)(hb:vE B W Y mb [.str (aS x.ev 0),.str [],.str [],t] t (x.ev.names.drop 1))(ht:t.one=true)(hlen:ts.length=96)(t2:slot ts 2=.ptr X.length 0)(t3:slot ts 3=.ptr (X.length+1) 0)(t4:slot ts 4=.ptr (X.length+2) 0)(t6:slot ts 6=.ptr mb 0):
  WC P bL (xR 2) [] ts Y (FQ [(4,some (some 7)),(5,none)] (sM B X V (bD V.ao x.ev .source) (dO V.ao x.ev .source))):=by
 have sY:=hb.rc s;have ow:=ox.ext sY.ex;have oV:=sY.bk.o.ok;have SE:x.ev.kind=bw .source:=bZ we.kd;have lm:=@fw _ _ _ hb.m;obtain⟨lr,le,sb,gm⟩:=cJ.fa sY;rw[Jv];generalize hR:xR 3=R;unfold FX fn226;simp only[ai.j,ai.s,ai.r,ai.dr,ai.tl,ai.hd];refine pH (pG t2 t3 t4 t6 @le @bC @SE @iX @kT @jO @aac @Z5) ?_;refine pC (λg=>cJ B X x V g V) ?_;refine dD sY rfl rfl ?_;refine Rs (A4 t2 t3 t4 t6) ?_;refine lK sY (v:=x.sn) (λg hg=>?_) ?_
 ·simp only[aQ,aR,aX,aY,reduceAdd,reduceMul,reduceLeDiff,reduceEqDiff,bd,hlen,Z3,Z7,t3,cJ.le hg (Ext.refl _),aP]
 refine Rs (A4 t2 t3 t4 t6) ?_;have i1:aV 1 x.sn (.i 1)=_:=(xG ow we (i:=1) De).1;refine dD sY rfl rfl ?_;refine Rs (A5 t2 t3 t4 t6 @i1) ?_;refine lK sY (v:=.str (aS x.ev 1)) (λg hg=>?_) ?_
 ·have h9:=@(xG (ox.ext (fF.ex hg)) we (i:=1) De).2;refine Zs t3 ?_;exact h9 (Ext.refl _)
 refine Rs (A4 t2 t3 t4 t6) ?_;refine dD sY rfl rfl ?_;refine Rs (A4 t2 t3 t4 t6) ?_;have Ta:=hb.set [.str (aS x.ev 0),.str eM,.str [],t];have jd:a8 1 (.ptr mb 1) (.str [115,104,111,116,115]) (λz=>Y[z]?)=some (aA,.set mb (.b [.str (aS x.ev 0),.str eM,.str [],t])):=hb.st rfl (by show 1+1<=4;omega);obtain⟨Y1,Xd⟩:∃Z,Z=Y.set mb (.b [.str (aS x.ev 0),.str eM,.str [],t]):=⟨_,rfl⟩;rw[<-Xd]at Ta;refine dD sY rfl rfl ?_;refine Rs (A5 t2 t3 t4 t6 @jd) ?_;rw[<-Xd];have S1:=Ta.rc s;refine pB S1 rfl ?_;have To:=Ta.set [.str (aS x.ev 0),.str eM,.str (aS x.ev 1),t];have fo:a8 1 (.ptr mb 2) (.str (aS x.ev 1)) (λz=>Y1[z]?)=some (aA,.set mb (.b [.str (aS x.ev 0),.str eM,.str (aS x.ev 1),t])):=Ta.st rfl (by show 2+1<=4;omega)
 have VS:=To.set [.str (aS x.ev 0),.str eM,.str (aS x.ev 1),.af];have nT:a8 1 (.ptr mb 3) .af (λz=>(Y1.set mb (.b [.str (aS x.ev 0),.str eM,.str (aS x.ev 1),t]))[z]?)=some (aA,.set mb (.b [.str (aS x.ev 0),.str eM,.str (aS x.ev 1),.af])):=To.st rfl (by show 3+1<=4;omega);have hb4:vE B W _ mb [.str (aS x.ev 0),.str eM,.str (aS x.ev 1),.af] .af []:=⟨VS.k,VS.b,VS.l,VS.x,VS.m,.nil,λi hi=>by cases hi⟩;refine Rs (A6 t2 t3 t4 t6 @fo @nT) ?_;rw[<-hR];exact uZ T w s (y:=⟨aS x.ev 0,eM,aS x.ev 1,[]⟩) hb4 rfl Sn (Sq t2) (Sq t4) (Sq t6)
def FW(w:fQ V.ao)(ox:bj B x)(we:kH x.ev .gQ)(nk:tj V.ao x.ev .gQ)(s:cJ B X x V W V)(hb:vE B W Y mb [.str (aS x.ev 0),.str [],.str [],t] t (x.ev.names.drop 1))(ht:t.one=true)(hlen:ts.length=96)(t2:slot ts 2=.ptr X.length 0)(t3:slot ts 3=.ptr (X.length+1) 0)(t4:slot ts 4=.ptr (X.length+2) 0)(t6:slot ts 6=.ptr mb 0):
  WC P bL (xR 2) [] ts Y (FQ [(4,some (some 7)),(5,none)] (sM B X V (bD V.ao x.ev .gQ) (dO V.ao x.ev .gQ))):=by
 have sY:=hb.rc s;have ow:=ox.ext sY.ex;have oV:=sY.bk.o.ok;have SE:x.ev.kind=bw .gQ:=bZ we.kd;have lm:=@fw _ _ _ hb.m;obtain⟨lr,le,sb,gm⟩:=cJ.fa sY;obtain⟨i1,d1⟩:=bR ow we 1 1 rfl De;obtain⟨j1,f1,q1⟩:=dq ow we 1 1 rfl De;have k1:aS x.ev 1∈iS V.ao:=nk.kn 1 3 rfl;rw[Jv];generalize hR:xR 3=R;unfold FX fn226;simp only[ai.j,ai.s,ai.r,ai.dr,ai.tl,ai.hd];refine pH (GL @t2 @t3 @t4 @t6 @le @lr @aP @bg @aE @bC @SE @iX @kT @jO @aac @Z5 @j1 @f1) ?_;refine WF.ce T.c20 (r20 T _ _ _) λg1=>?_
 obtain⟨Y1,Xd⟩:∃Z,Z=Y++g1:=⟨_,rfl⟩;rw[<-Xd];have hb:=hb.grow (show Ext Y Y1 from⟨g1,Xd⟩);have sY:=hb.rc s;have ow:=ox.ext sY.ex;have oV:=sY.bk.o.ok;have lm:=@fw _ _ _ hb.m;obtain⟨lr,le,sb,gm⟩:=cJ.fa sY;obtain⟨i1,d1⟩:=bR ow we 1 1 rfl De;obtain⟨j1,f1,q1⟩:=dq ow we 1 1 rfl De;by_cases h1:bG (bM x.ev 1) 1 4=0
 case neg=>
  have e1:decide (bG (bM x.ev 1) 1 4≠0)=true:=ZR h1;refine Rs (A8 t2 t3 t4 e1 @lr @aE @sb @gm) ?_;rw[bD,ZY h1];exact Ki
 have e1:decide (bG (bM x.ev 1) 1 4≠0)=false:=ZN (λz=>z h1);refine Rs (pG t2 t3 t4 t6 @le @lr @aP @bg @aE e1 @j1 @f1) ?_;refine WF.ce T.c263 (r263 T _) λg2=>?_
 obtain⟨Y2,Ut⟩:∃Z,Z=Y1++g2:=⟨_,rfl⟩;rw[<-Ut];have hb:=hb.grow (show Ext Y1 Y2 from⟨g2,Ut⟩);have sY:=hb.rc s;have ow:=ox.ext sY.ex;have oV:=sY.bk.o.ok;have lm:=@fw _ _ _ hb.m;obtain⟨lr,le,sb,gm⟩:=cJ.fa sY;obtain⟨i1,d1⟩:=bR ow we 1 1 rfl De;obtain⟨j1,f1,q1⟩:=dq ow we 1 1 rfl De;refine Rs (mQ t2 t3 t4 t6 @le @lr @aP @bg @aE @i1 @d1) ?_;refine WF.ce T.c264 (r264 T (oV.ext Xx) w.len k1) λg3=>?_
 obtain⟨Y3,hY3⟩:∃Z,Z=Y2++g3:=⟨_,rfl⟩;rw[<-hY3];have hb:=hb.grow (show Ext Y2 Y3 from⟨g3,hY3⟩);have sY:=hb.rc s;have ow:=ox.ext sY.ex;have oV:=sY.bk.o.ok;have lm:=@fw _ _ _ hb.m;obtain⟨lr,le,sb,gm⟩:=cJ.fa sY;by_cases h2:(iK V.ao (aS x.ev 1)).gives=nq (bM x.ev 1)
 case neg=>
  have e2:decide ((iK V.ao (aS x.ev 1)).gives≠nq (bM x.ev 1))=true:=ZR h2;refine Rs (A9 t2 t3 t4 t6 e2 @lr @aE @sb @gm) ?_;rw[bD,ZW (λz=>z h1),ZY h2];exact Ki
 have e2:decide ((iK V.ao (aS x.ev 1)).gives≠nq (bM x.ev 1))=false:=ZN (λz=>z h2);have Ta:=hb.set [.str (aS x.ev 0),.str (kD (bM x.ev 1)),.str [],t];have jd:a8 1 (.ptr mb 1) (.str (kD (bM x.ev 1))) (λz=>Y3[z]?)=some (aA,.set mb (.b [.str (aS x.ev 0),.str (kD (bM x.ev 1)),.str [],t])):=hb.st rfl (by show 1+1<=4;omega);refine Rs (A6 t2 t3 t4 t6 e2 @jd) ?_;rw[<-hR];have hc:bD V.ao x.ev .gQ=if 32<=V.ao.aD.length then 5 else 0:=by rw[bD,ZW (λz=>z h1),ZW (λz=>z h2)]
 rw[hc];exact uZ T w s (y:=⟨aS x.ev 0,kD (bM x.ev 1),[],x.ev.names.drop 1⟩) Ta rfl Sn (Sq t2) (Sq t4) (Sq t6)
def DC(w:fQ V.ao)(ox:bj B x)(we:kH x.ev .merge)(nk:tj V.ao x.ev .merge)(s:cJ B X x V W V)(hb:vE B W Y mb [.str (aS x.ev 0),.str [],.str [],t] t (x.ev.names.drop 1))(ht:t.one=true)(hlen:ts.length=96)(t2:slot ts 2=.ptr X.length 0)(t3:slot ts 3=.ptr (X.length+1) 0)(t4:slot ts 4=.ptr (X.length+2) 0)(t6:slot ts 6=.ptr mb 0):
  WC P bL (xR 2) [] ts Y (FQ [(4,some (some 7)),(5,none)] (sM B X V (bD V.ao x.ev .merge) (dO V.ao x.ev .merge))):=by
 have sY:=hb.rc s;have ow:=ox.ext sY.ex;have oV:=sY.bk.o.ok;have SE:x.ev.kind=bw .merge:=bZ we.kd;have lm:=@fw _ _ _ hb.m;obtain⟨lr,le,sb,gm⟩:=cJ.fa sY;obtain⟨i1,d1⟩:=bR ow we 1 1 rfl De;obtain⟨i2,d2⟩:=bR ow we 2 2 rfl De;have k1:aS x.ev 1∈iS V.ao:=nk.kn 1 3 rfl;have k2:aS x.ev 2∈iS V.ao:=nk.kn 2 3 rfl;rw[Jv];generalize hR:xR 3=R;unfold FX fn226;simp only[ai.j,ai.s,ai.r,ai.dr,ai.tl,ai.hd];by_cases h1:aS x.ev 1=aS x.ev 2
 case pos=>
  have e1:decide (aS x.ev 1=aS x.ev 2)=true:=ZR h1;refine pH (RU @t2 @t3 @t4 @t6 @le @lr @aP @bg @aE @bC @SE @iX @kT @jO @aac @Z5 @i1 @d1 @i2 @d2 @e1 @sb @gm) ?_;rw[bD,ZY h1];exact Ki
 have e1:decide (aS x.ev 1=aS x.ev 2)=false:=ZN h1;refine pH (Sr @t2 @t3 @t4 @t6 @le @lr @aP @bg @aE @bC @SE @iX @kT @jO @aac @Z5 @i1 @d1 @i2 @d2 @e1) ?_;refine WF.ce T.c264 (r264 T (oV.ext Xx) w.len k1) λg2=>?_
 obtain⟨Y1,Xd⟩:∃Z,Z=Y++g2:=⟨_,rfl⟩;rw[<-Xd];have hb:=hb.grow (show Ext Y Y1 from⟨g2,Xd⟩);have sY:=hb.rc s;have ow:=ox.ext sY.ex;have oV:=sY.bk.o.ok;have lm:=@fw _ _ _ hb.m;obtain⟨lr,le,sb,gm⟩:=cJ.fa sY;have Ta:=hb.set [.str (aS x.ev 0),.str (iK V.ao (aS x.ev 1)).gives,.str [],t];have jd:a8 1 (.ptr mb 1) (.str (iK V.ao (aS x.ev 1)).gives) (λz=>Y1[z]?)=some (aA,.set mb (.b [.str (aS x.ev 0),.str (iK V.ao (aS x.ev 1)).gives,.str [],t])):=hb.st rfl (by show 1+1<=4;omega);refine Rs (A5 t2 t3 t4 t6 @jd) ?_;obtain⟨Y2,Ut⟩:∃Z,Z=Y1.set mb (.b [.str (aS x.ev 0),.str (iK V.ao (aS x.ev 1)).gives,.str [],t]):=⟨_,rfl⟩
 rw[<-Ut]at Ta ⊢;have hb:=Ta;obtain⟨Y3,hY3⟩:∃Z,Z=Y2++[]:=⟨_,rfl⟩;rw[aaf]at hY3;rw[<-hY3];have hb:=hb.grow (show Ext Y2 Y3 from⟨[],by rw[aaf];exact hY3⟩);have sY:=hb.rc s;have ow:=ox.ext sY.ex;have oV:=sY.bk.o.ok;have lm:=@fw _ _ _ hb.m;obtain⟨lr,le,sb,gm⟩:=cJ.fa sY;obtain⟨i1,d1⟩:=bR ow we 1 1 rfl De;obtain⟨i2,d2⟩:=bR ow we 2 2 rfl De;refine Rs (mQ t2 t3 t4 t6 @le @lr @aP @bg @aE @i2 @d2) ?_;refine WF.ce T.c264 (r264 T (oV.ext Xx) w.len k2) λg3=>?_
 obtain⟨Y4,hY4⟩:∃Z,Z=Y3++g3:=⟨_,rfl⟩;rw[<-hY4];have hb:=hb.grow (show Ext Y3 Y4 from⟨g3,hY4⟩);have sY:=hb.rc s;have ow:=ox.ext sY.ex;have oV:=sY.bk.o.ok;have lm:=@fw _ _ _ hb.m;obtain⟨lr,le,sb,gm⟩:=cJ.fa sY;by_cases h2:(iK V.ao (aS x.ev 1)).gives=(iK V.ao (aS x.ev 2)).gives
 case neg=>
  have e2:decide ((iK V.ao (aS x.ev 2)).gives≠(iK V.ao (aS x.ev 1)).gives)=true:=ZR (λz=>h2 z.symm);refine Rs (kJ t2 t3 t4 t6 @lm e2 @lr @aE @sb @gm) ?_;rw[bD,ZW h1,ZY h2];exact Ki
 have e2:decide ((iK V.ao (aS x.ev 2)).gives≠(iK V.ao (aS x.ev 1)).gives)=false:=ZN (λz=>z h2.symm);refine Rs (A6 t2 t3 t4 t6 @lm e2) ?_;rw[<-hR];have hc:bD V.ao x.ev .merge=if 32<=V.ao.aD.length then 5 else 0:=by rw[bD,ZW h1,ZW (λz=>z h2)]
 rw[hc];exact uZ T w s (y:=⟨aS x.ev 0,(iK V.ao (aS x.ev 1)).gives,[],x.ev.names.drop 1⟩) hb rfl Sn (Sq t2) (Sq t4) (Sq t6)
omit T in
theorem G3(o:cP B.length X V)(hx:Ext B X):cJ B X x V (X++[.b V.row]++[.b x.row]++[.b lI]) V:=by
 exact z21
def DB{d}(hd:d=.source\/d=.gQ\/d=.merge)(w:fQ V.ao)(ox:bj B x)(we:kH x.ev d)(nk:tj V.ao x.ev d)(s:cJ B X x V W V)(hlen:ts.length=96)(t2:slot ts 2=.ptr X.length 0)(t3:slot ts 3=.ptr (X.length+1) 0)(t4:slot ts 4=.ptr (X.length+2) 0):
  WC P bL (xR 1) [] ts W (FQ [(4,some (some 7)),(5,none)] (sM B X V (bD V.ao x.ev d) (dO V.ao x.ev d))):=by
 have ow:=ox.ext s.ex;have hn1:1<=x.ev.names.length:=by rw[we.nl];rcases hd with rfl|rfl|rfl<;>decide
 have hn3:x.ev.names.length<=3:=by rw[we.nl];rcases hd with rfl|rfl|rfl<;>decide
 have Vu:0<(aM d).length:=by rw[<-we.nl];exact hn1
 obtain⟨i0,d0⟩:=bR ow we 0 0 rfl Vu;obtain⟨lr,le,sb,gm⟩:=cJ.fa s;obtain⟨s',es',Sx⟩:=ow.n.Ej (lo:=some (.i 1)) (hi:=none) (lD (k:=1) hn1);have et:List.take (x.ev.names.length-1) (List.drop 1 x.ev.names)=x.ev.names.drop 1:=aau Si;rw[et]at Sx;rw[QH];generalize hR:xR 2=R;unfold FX fn226;simp only[ai.j,ai.s,ai.r,ai.dr,ai.tl,ai.hd];refine Rs (A8 t2 t3 t4 @le @aP @i0 @d0 @es') ?_;refine WR.pg (N:=W.length) (w:=16) ba (Z0 _) (Sx.ext Xx) (by simp only[ZU,aa7];omega) λt g f=>?_
 have ot:=f.aO.one;obtain⟨Y,hY⟩:∃Z,Z=W++[an.b []]++g:=⟨_,rfl⟩;rw[<-hY]at f ⊢;have eY:Ext W Y:=by rw[hY,ZO];exact⟨_,rfl⟩
 refine Rs (A4 t2 t3 t4 @ot) ?_;have hb:vE B W (Y++[an.b [AV.str (aS x.ev 0),.str [],.str [],t]]) Y.length [AV.str (aS x.ev 0),.str [],.str [],t] t (x.ev.names.drop 1):=by
  refine⟨λi hi=>?_,s.ex.len,eY.len,s.ex.trans (eY.trans ⟨_,rfl⟩),ba,f.app _,λi hi e=>?_⟩
  ·rw[ZQ (by have:=eY.len;omega),eY.get hi]
  ·have:=(f.bB hi).2;omega
 rw[<-hR];rcases hd with rfl|rfl|rfl
 ·exact Bj T w ox we nk s hb ot Sn (Sq t2) (Sq t3) (Sq t4) Sw
 ·exact FW T w ox we nk s hb ot Sn (Sq t2) (Sq t3) (Sq t4) Sw
 ·exact DC T w ox we nk s hb ot Sn (Sq t2) (Sq t3) (Sq t4) Sw
def I0{d}(hd:d=.source\/d=.gQ\/d=.merge)(o:cP B.length X V)(w:fQ V.ao)(hx:Ext B X)(ox:bj B x)(we:kH x.ev d)(nk:tj V.ao x.ev d):
  dE P 226 [.agg V.row,.agg x.row] X (sM B X V (bD V.ao x.ev d) (dO V.ao x.ev d)):=by
 refine .of T.mix (acb T.c226 (aan some QI)) ?_;obtain⟨ts,Sv⟩:∃ts,ts=aU 96 [.agg V.row,.agg x.row]:=⟨_,rfl⟩;have hlen:ts.length=96:=by rw[Sv];rfl
 have t0:slot ts 0=.agg V.row:=by rw[Sv];rfl
 have t1:slot ts 1=.agg x.row:=by rw[Sv];rfl
 show WC P bL (.seq (FX 0) (xR 1)) [] (aU 96 [.agg V.row,.agg x.row]) X (FQ [(4,some (some 7)),(5,none)] (sM B X V (bD V.ao x.ev d) (dO V.ao x.ev d)));rw[<-Sv];clear Sv;have Su:=@aC.box _ _ o.ok;have hex:=@bj.box _ _ (ox.ext hx);have s:cJ B X x V (X++[.b V.row]++[.b x.row]++[.b lI]) V:=G3 o hx;unfold lI at s;generalize hR:xR 1=R;unfold FX fn226;simp only[ai.dr,ai.hd];refine Rs (A4 t0 t1 @Su @hex) ?_;rw[<-hR];exact DB T hd w ox we nk s Sn Sw (by simp only[aQ,aR,aX,aY,reduceAdd,reduceMul,reduceLeDiff,reduceEqDiff,bd,hlen,Z3,Z7];simp) (by simp only[aQ,aR,aX,aY,reduceAdd,reduceMul,reduceLeDiff,reduceEqDiff,bd,hlen,Z3,Z7];simp)
end
def Bf(k:Nat):ai:=(fn227).body.dr k
def Qy(k:Nat):ai:=((fn227).body.dr k).hd
def Qx:fn227=⟨223,2,[(4,some (some 7)),(5,none)],.seq (Qy 0) (Bf 1)⟩:=rfl
structure QZ(V:RV)(n:By)(p:Nat)(J:kI×AV):Prop where
 ps:p=aW (gD V.ao) n
 lt:p<V.aG.length
 g:V.aG[p]? =some J
 e:J.1=gj V.ao n
 m:J∈V.aG
 i:de (λy:kI×AV=>decide (y.1.name=n)) V.aG=(p:Int)
def PN{V n}(hn:n∈gD V.ao):∃p J,QZ V n p J:=by
 have hlt:aW (gD V.ao) n<V.aG.length:=by have:=cL hn;simpa [gD,RV.ao]using this
 refine⟨_,V.aG[aW (gD V.ao) n],rfl,hlt,ZS hlt,?_,ZZ _,?_⟩
 ·rw[gj,cS (f:=kI.name) (l:=V.ao.aG) (d:=wD) hn];exact z72
 ·exact z141
theorem QZ.at{V n p J}(j:QZ V n p J):V.aG[p]'j.lt=J:=by
 have:=j.g;rw[ZS j.lt]at this;exact aaN this
section
variable {P:Program}(T:fD P) {B X W:ah}{ts:TS}{V:RV}{x:EV}
include T
def Ju(w:fQ V.ao)(ox:bj B x)(we:kH x.ev .rel)(nk:tj V.ao x.ev .rel)(s:cJ B X x V W V)(hlen:ts.length=223)(t2:slot ts 2=.ptr X.length 0)(t3:slot ts 3=.ptr (X.length+1) 0)(t4:slot ts 4=.ptr (X.length+2) 0):
  WC P bL (Bf 1) [] ts W (FQ [(4,some (some 7)),(5,none)] (sM B X V (bD V.ao x.ev .rel) (dO V.ao x.ev .rel))):=by
 have ow:=ox.ext s.ex;have oV:=s.bk.o.ok;have SE:x.ev.kind=bw .rel:=bZ we.kd;obtain⟨lr,le,sb,gm⟩:=cJ.fa s;obtain⟨i0,d0⟩:=bR ow we 0 0 rfl De;unfold Bf fn227;simp only[ai.j,ai.s,ai.r,ai.dr,ai.tl];have k0:aS x.ev 0∈j8 V.ao:=nk.kn 0 5 rfl;have hlt:aW (j8 V.ao) (aS x.ev 0)<V.aK.length:=by have:=cL k0;simpa [j8,RV.ao]using this
 have ei:de (λy:pI=>decide (y.name=aS x.ev 0)) V.aK=(aW (j8 V.ao) (aS x.ev 0):Int):=eS (f:=pI.name) k0;have sp:iQ V.ao (aS x.ev 0)=V.aK[aW (j8 V.ao) (aS x.ev 0)]:=cS k0;obtain⟨p,hp⟩:∃p,p=aW (j8 V.ao) (aS x.ev 0):=⟨_,rfl⟩;rw[<-hp]at ei;have hlt:p<V.aK.length:=by rw[hp];exact hlt
 have sp:iQ V.ao (aS x.ev 0)=V.aK[p]:=by rw[sp];congr 1;exact hp.symm
 refine pH (BD @t2 @t3 @t4 @le @lr @bC @aP @bg @aE @SE @iO @aac @Z5 @i0 @d0) ?_;refine WF.ce T.c57 (r57 T (oV.ext Xx) w.len _) λg1=>?_
 rw[ei];obtain⟨W2,Tj⟩:∃Z,Z=W++g1:=⟨_,rfl⟩;rw[<-Tj];have SV:cJ B X x V W2 V:=by rw[Tj];exact fF.grow s ⟨g1,rfl⟩
 have ow:=ox.ext SV.ex;have oV:=SV.bk.o.ok;obtain⟨lr,le,sb,gm⟩:=cJ.fa SV;have ix:aV 4 V.s5 (.i (p:Int))=some (cF V.s5 4 p,.ar):=oV.i5.dA hlt;have l3:∀{k:ah},Ext W2 k->aq none (j6 V.s5 4 p 3) (λb=>k[b]?)=some (.bool (iQ V.ao (aS x.ev 0)).rel,.ar):=λ{k} e=>by rw[sp];exact oV.i5.lO hlt rfl e
 cases h1:(iQ V.ao (aS x.ev 0)).rel with
 |true=>
  rw[h1]at l3;refine Rs (kJ t2 t3 t4 ix @l3 @lr @aE @gE @sb @gm) ?_;rw[bD,ZY h1];exact Kj
 |false=>
  rw[h1]at l3;have Tp:bD V.ao x.ev .rel=0:=by rw[bD,ZW (by rw[h1];decide)]
  refine Rs (A7 t2 t3 t4 ix @l3 @lr @gE) ?_;refine WR.CH (B:=B) (x':={V.aK[p]with rel:=true}) (row:=dG) SV.bk.o.i5 SV.ex hlt De rfl rfl ?_;intro W5 x5 l5 hff hk5;have s5:cJ B X x V W5 {V with aK:=V.aK.set p {V.aK[p]with rel:=true} }:=fF.q5 SV hff (λi _ hne=>hk5 i hne) x5 Om;obtain⟨lr,_,sb,gm⟩:=cJ.fa s5;refine Rs (A7 t2 t3 t4 @lr @aE @sb @gm) ?_;exact z196
def FA(w:fQ V.ao)(ox:bj B x)(we:kH x.ev .ij)(nk:tj V.ao x.ev .ij)(s:cJ B X x V W V)(hlen:ts.length=223)(t2:slot ts 2=.ptr X.length 0)(t3:slot ts 3=.ptr (X.length+1) 0)(t4:slot ts 4=.ptr (X.length+2) 0):
  WC P bL (Bf 1) [] ts W (FQ [(4,some (some 7)),(5,none)] (sM B X V (bD V.ao x.ev .ij) (dO V.ao x.ev .ij))):=by
 have ow:=ox.ext s.ex;have oV:=s.bk.o.ok;have SE:x.ev.kind=bw .ij:=bZ we.kd;obtain⟨lr,le,sb,gm⟩:=cJ.fa s;obtain⟨i0,d0⟩:=bR ow we 0 0 rfl De;obtain⟨i1,d1⟩:=bR ow we 1 1 rfl De;unfold Bf fn227;simp only[ai.j,ai.s,ai.r,ai.dr,ai.tl];have k1:aS x.ev 1∈gD V.ao:=nk.kn 1 4 rfl;obtain⟨p,J,jx⟩:=PN k1;have ix:aV 3 V.s4 (.i (p:Int))=some (cF V.s4 3 p,.ar):=oV.i4.dA jx.lt;refine pH (GM t2 t3 t4 @le @lr @bC @aP @bg @gq @aE @SE @iO @aac @Z5 @i1 @d1) ?_;refine WF.ce T.c56 (r56 T (oV.ext Xx) w.len _) λg1=>?_
 rw[jx.i];obtain⟨W2,Tj⟩:∃Z,Z=W++g1:=⟨_,rfl⟩;rw[<-Tj];have SV:cJ B X x V W2 V:=by rw[Tj];exact fF.grow s ⟨g1,rfl⟩
 have ow:=ox.ext SV.ex;have oV:=SV.bk.o.ok;obtain⟨lr,le,sb,gm⟩:=cJ.fa SV;obtain⟨i0,d0⟩:=bR ow we 0 0 rfl De;obtain⟨i1,d1⟩:=bR ow we 1 1 rfl De;have ld:∀{k:ah},Ext W2 k->aq (some 3) (cF V.s4 3 p) (λb=>k[b]?)=some (.agg (bO J),.ar):=λ{k} e=>by rw[<-jx.at];exact oV.i4.kR jx.lt e
 have oJ:=oV.e4 J jx.m;have oJ1:=oJ.one;have hJ:=w.jb J.1 (aah jx.m);unfold bO at ld;refine Rs (A6 t2 t3 t4 ix @ld @oJ1) ?_;obtain⟨jb,hjb⟩:∃n,n=W2.length:=⟨_,rfl⟩;rw[<-hjb];obtain⟨W3,SS⟩:∃Z,Z=W2++[an.b [AV.str J.1.name,.str J.1.mod,J.2]]:=⟨_,rfl⟩;rw[<-SS];have S2:cJ B X x V W3 V:=by rw[SS];exact fF.grow SV ⟨[an.b [AV.str J.1.name,.str J.1.mod,J.2]],rfl⟩
 have ow:=ox.ext S2.ex;have oV:=S2.bk.o.ok;obtain⟨lr,le,sb,gm⟩:=cJ.fa S2;obtain⟨i0,d0⟩:=bR ow we 0 0 rfl De;obtain⟨i1,d1⟩:=bR ow we 1 1 rfl De;have mj:W3[jb]? =some (.b [AV.str J.1.name,.str J.1.mod,J.2]):=by rw[SS,hjb];exact ba
 have lj:=@fw _ _ _ mj;have oJ:=oV.e4 J jx.m;refine Rs (mQ t2 t3 t4 @le @lr @bC @aP @bg @aE @i1 @d1) ?_;refine WF.ce T.c265 (r265 T (oV.ext Xx) w.len _) λg2=>?_
 obtain⟨W4,Tw⟩:∃Z,Z=W3++g2:=⟨_,rfl⟩;rw[<-Tw];have Ui:cJ B X x V W4 V:=by rw[Tw];exact fF.grow S2 ⟨g2,rfl⟩
 have ow:=ox.ext Ui.ex;have oV:=Ui.bk.o.ok;obtain⟨lr,le,sb,gm⟩:=cJ.fa Ui;obtain⟨i0,d0⟩:=bR ow we 0 0 rfl De;obtain⟨i1,d1⟩:=bR ow we 1 1 rfl De;have mj:=(show Ext W3 W4 from⟨g2,Tw⟩).some mj;have lj:=@fw _ _ _ mj;have oJ:=oV.e4 J jx.m;cases h1:qE V.ao (aS x.ev 1)with
 |true=>
  refine Rs (A7 t2 t3 t4 @lr @aE @sb @gm) ?_;rw[bD,ZY h1];exact z159
 |false=>
 refine Rs (A5 t2 t3 t4 @lj @oJ1) ?_;refine WF.res T.c60 (r60 T (x:=J) (oJ.ext Xx) Om) ?_;rintro vl g3 Tf;obtain⟨W5,U4⟩:∃Z,Z=W4++g3:=⟨_,rfl⟩;rw[<-U4];have sW5:cJ B X x V W5 V:=by rw[U4];exact fF.grow Ui ⟨g3,rfl⟩
 have ow:=ox.ext sW5.ex;have oV:=sW5.bk.o.ok;obtain⟨lr,le,sb,gm⟩:=cJ.fa sW5;obtain⟨i0,d0⟩:=bR ow we 0 0 rfl De;obtain⟨i1,d1⟩:=bR ow we 1 1 rfl De;rw[<-U4]at Tf;have mj:=(show Ext W4 W5 from⟨g3,U4⟩).some mj;have lj:=@fw _ _ _ mj;have oJ:=oV.e4 J jx.m;rw[jx.e]at Tf;by_cases h2:db (gj V.ao (aS x.ev 1)).bz 0=[]
 case neg=>
  have e2:decide ((0:Int)<((db (gj V.ao (aS x.ev 1)).bz 0).length:Int))=true:=ZR (by have:=aba.2 h2;omega);refine Rs (A9 t2 t3 t4 Tf.aL e2 @lr @aE @sb @gm) ?_;rw[bD,ZW (by rw[h1];decide),ZY h2];exact cJ.fin sW5 (λz=>absurd z De)
 have e2:decide ((0:Int)<((db (gj V.ao (aS x.ev 1)).bz 0).length:Int))=false:=ZN (by rw[h2];decide);by_cases h3:16<=V.aK.length
 case pos=>
  have e3:decide ((16:Int)<=(V.aK.length:Int))=true:=ZR Om;refine Rs (pG t2 t3 t4 Tf.aL e2 @lr @gE oV.i5.aL e3 @aE @sb @gm) ?_;rw[bD,ZW (by rw[h1];decide),ZW (λz=>z h2),ZY (show 16<=V.ao.aK.length from h3)];exact cJ.fin sW5 (λz=>absurd z De)
 have e3:decide ((16:Int)<=(V.aK.length:Int))=false:=ZN Om;have Tp:bD V.ao x.ev .ij=0:=by rw[bD,ZW (by rw[h1];decide),ZW (λz=>z h2),ZW (show ¬16<=V.ao.aK.length from h3)]
 refine Rs (GL t2 t3 t4 @le @lr @bC @aP @bg Tf.aL e2 @gE oV.i5.aL e3 @i0 @d0 @i1 @d1 @lj) ?_;refine WF.ce T.c31 (r31 T (oJ.ext Xx) Om hJ.2.2.2) λg4=>?_
 rw[jx.e];obtain⟨W6,Uq⟩:∃Z,Z=W5++g4:=⟨_,rfl⟩;rw[<-Uq];have XC:cJ B X x V W6 V:=by rw[Uq];exact fF.grow sW5 ⟨g4,rfl⟩
 have ow:=ox.ext XC.ex;have oV:=XC.bk.o.ok;obtain⟨lr,le,sb,gm⟩:=cJ.fa XC;obtain⟨y,hy⟩:∃y:pI,y=⟨aS x.ev 0,aS x.ev 1,gT (gj V.ao (aS x.ev 1)).bz,false⟩:=⟨_,rfl⟩;obtain⟨z,hz⟩:∃z:List AV,z=dG y:=⟨_,rfl⟩;have Uw:[AV.str (aS x.ev 0),.str (aS x.ev 1),.i (gT (gj V.ao (aS x.ev 1)).bz),.bool false]=z:=by rw[hz,hy];rfl
 refine Rs (A3 t2 t3 t4) ?_;rw[Uw];refine WR.ml (B:=B) (cs:=V.aK.map dG) (XC.bk.o.i5) (by rw[hz];rfl) XC.ex De (by rw[ZU];omega) ?_;intro W7 s' x5 hff hn5 q5 l5 hk5;have hrow:V.aK.map dG++[z]=(V.aK++[y]).map dG:=by rw[ZV,hz];rfl
 rw[hrow]at hff;have s5:cJ B X x V (W7.set X.length (.b (V.row.set 6 s'))) {V with aK:=V.aK++[y],s5:=s'}:=fF.p5 XC hff (λi hi=>.inr (acg (hn5 i hi))) hk5 x5 l5;have mB:W7[X.length]? =some (.b V.row):=(hk5 _ XC.bk.lt (λz=>XC.bk.ne (by rw[<-z];simp[RV.bl]))).trans XC.bk.m;have Uh:a8 1 (.ptr X.length 6) s' (λz=>W7[z]?)=some (aA,.set X.length (.b (V.row.set 6 s'))):=(aN mB).trans (cD q5 (by show 6+1<=7;omega));refine Rs (A5 t2 t3 t4 @Uh q5) ?_;obtain⟨W8,hW8⟩:∃Z,Z=W7.set X.length (.b (V.row.set 6 s')):=⟨_,rfl⟩;rw[<-hW8]at s5 ⊢;obtain⟨lr,_,sb,gm⟩:=cJ.fa s5;refine Rs (A7 t2 t3 t4 @lr @aE @sb @gm) ?_
 rw[Tp];exact cJ.fin s5 (λ_=>by rw[hy];rfl)
def FB(w:fQ V.ao)(ox:bj B x)(we:kH x.ev .fail)(nk:tj V.ao x.ev .fail)(s:cJ B X x V W V)(hlen:ts.length=223)(t2:slot ts 2=.ptr X.length 0)(t3:slot ts 3=.ptr (X.length+1) 0)(t4:slot ts 4=.ptr (X.length+2) 0):
  WC P bL (Bf 1) [] ts W (FQ [(4,some (some 7)),(5,none)] (sM B X V (bD V.ao x.ev .fail) (dO V.ao x.ev .fail))):=by
 have ow:=ox.ext s.ex;have oV:=s.bk.o.ok;have SE:x.ev.kind=bw .fail:=bZ we.kd;obtain⟨lr,le,sb,gm⟩:=cJ.fa s;obtain⟨i0,d0⟩:=bR ow we 0 0 rfl De;obtain⟨j1,f1,q1⟩:=dq ow we 1 1 rfl De;unfold Bf fn227;simp only[ai.j,ai.s,ai.r,ai.dr,ai.tl];have k0:aS x.ev 0∈gD V.ao:=nk.kn 0 4 rfl;obtain⟨p,J,jx⟩:=PN k0;have ix:aV 3 V.s4 (.i (p:Int))=some (cF V.s4 3 p,.ar):=oV.i4.dA jx.lt;refine pH (BD t2 t3 t4 @le @lr @bC @aP @bg @aE @SE @iO @aac @Z5 @i0 @d0) ?_;refine WF.ce T.c56 (r56 T (oV.ext Xx) w.len _) λg1=>?_
 rw[jx.i];obtain⟨W2,Tj⟩:∃Z,Z=W++g1:=⟨_,rfl⟩;rw[<-Tj];have SV:cJ B X x V W2 V:=by rw[Tj];exact fF.grow s ⟨g1,rfl⟩
 have ow:=ox.ext SV.ex;have oV:=SV.bk.o.ok;obtain⟨lr,le,sb,gm⟩:=cJ.fa SV;obtain⟨i0,d0⟩:=bR ow we 0 0 rfl De;obtain⟨j1,f1,q1⟩:=dq ow we 1 1 rfl De;refine Rs (mQ t2 t3 t4 @le @lr @bC @aP @bg @aE @i0 @d0) ?_;refine WF.ce T.c265 (r265 T (oV.ext Xx) w.len _) λg2=>?_
 obtain⟨W3,SS⟩:∃Z,Z=W2++g2:=⟨_,rfl⟩;rw[<-SS];have S2:cJ B X x V W3 V:=by rw[SS];exact fF.grow SV ⟨g2,rfl⟩
 have ow:=ox.ext S2.ex;have oV:=S2.bk.o.ok;obtain⟨lr,le,sb,gm⟩:=cJ.fa S2;obtain⟨i0,d0⟩:=bR ow we 0 0 rfl De;obtain⟨j1,f1,q1⟩:=dq ow we 1 1 rfl De;have oJ:=oV.e4 J jx.m;have l2:∀{k:ah},Ext W3 k->aq none (j6 V.s4 3 p 2) (λb=>k[b]?)=some (J.2,.ar):=λ{k} e=>oV.i4.lO jx.lt (by rw[jx.at];rfl) e
 cases h1:qE V.ao (aS x.ev 0)with
 |true=>
  refine Rs (A7 t2 t3 t4 @lr @aE @sb @gm) ?_;have hc:bD V.ao x.ev .fail=23:=by
   exact K5
  rw[hc];exact D9
 |false=>
 by_cases h2:(J.1.bz.length:Int)<=bM x.ev 1
 case pos=>
  have e2:decide ((J.1.bz.length:Int)<=bM x.ev 1)=true:=ZR h2;refine Rs (GL t2 t3 t4 @le @lr @bC @aP @bg @gq @aE @j1 @f1 ix @l2 oJ.aL e2 @sb @gm) ?_;have hc:bD V.ao x.ev .fail=3:=by
   exact z116
  rw[hc];exact D9
 have e2:decide ((J.1.bz.length:Int)<=bM x.ev 1)=false:=ZN h2;have ZB:kF V.ao x.ev=0:=by rw[kF,ZW (by rw[h1];decide),<-jx.e,ZW h2]
 have hsl:(bM x.ev 1).toNat<J.1.bz.length:=Om
 have X5:bM x.ev 1=((bM x.ev 1).toNat:Int):=Om
 have iy:aV 1 J.2 (.i (bM x.ev 1))=some (cF J.2 1 (bM x.ev 1).toNat,.ar):=by
  rw[X5];exact oJ.dA hsl
 have hsu:gp V.ao x.ev=J.1.bz[(bM x.ev 1).toNat]:=by
  exact z168
 have lv:∀{k:ah},Ext W3 k->aq none (cF J.2 1 (bM x.ev 1).toNat) (λb=>k[b]?)=some (.i (gp V.ao x.ev),.ar):=λ{k} e=>by rw[hsu];exact oJ.gR hsl rfl e
 have WZ:cF J.2 1 (bM x.ev 1).toNat=j6 J.2 1 (bM x.ev 1).toNat 0:=rfl;by_cases h3:gp V.ao x.ev<0
 case pos=>
  have e3:decide (gp V.ao x.ev<0)=true:=ZR h3;exact RC
 have e3:decide (gp V.ao x.ev<0)=false:=ZN h3;have Tp:bD V.ao x.ev .fail=0:=by rw[bD,ZW (λz=>z ZB),ZW h3]
 repeat (first|simp (config:={maxSteps:=1000000}) only[aQ,aR,aX,aY,reduceAdd,reduceMul,reduceLeDiff,reduceEqDiff,bd,hlen,Z3,Z7,t2,t3,t4,le,lr,bC,aP,bg,aE,SE,iO,reduceCtorEq,aac,Z5,gq,j1,f1,ix,l2,oJ.aL,e2,iy,lv,e3]|simp (config:={maxSteps:=1000000}) (disch:=first|(simp only[ZL,ZP,ZT]<;>omega)|rfl|omega|fail) only[eD,aQ,aR,aX,aY,reduceAdd,reduceMul,reduceLeDiff,reduceEqDiff,bd,hlen,Z3,Z7,t2,t3,t4,le,lr,bC,aP,bg,aE,SE,iO,reduceCtorEq,aac,Z5,gq,j1,f1,ix,l2,oJ.aL,e2,iy,lv,e3])
 rw[WZ];have hfJ:Fr B.length W3 J.2 1 (J.1.bz.map aJ):=S2.bk.o.e4 J jx.m;refine WR.CH (B:=B) (x':=(-1:Int)) (row:=aJ) (L:=J.1.bz) hfJ S2.ex hsl De rfl rfl ?_;intro W5 x5 l5 hff hk5;have s5:cJ B X x V W5 {V with aG:=V.aG.set p ({J.1 with bz:=J.1.bz.set (bM x.ev 1).toNat (-1:Int) },J.2) }:=by
  have V3:(V.aG[p]'jx.lt).2=J.2:=by rw[jx.at]
  have:=fF.qJ S2 (W2:=W5) jx.lt (y:={J.1 with bz:=J.1.bz.set (bM x.ev 1).toNat (-1:Int) }) (by rw[jx.at];exact⟨rfl,rfl⟩) (by rw[V3];exact hff) (λi _ hne=>hk5 i (by rw[<-V3];exact hne)) x5 Om;rw[V3]at this;exact this
 obtain⟨lr,_,sb,gm⟩:=cJ.fa s5;refine Rs (A7 t2 t3 t4 @lr @aE @sb @gm) ?_;rw[Tp];refine cJ.fin s5 (λ_=>?_);have e:nA V.ao x.ev (-1:Int)=(V.aG.set p ({J.1 with bz:=J.1.bz.set (bM x.ev 1).toNat (-1:Int) },J.2)).map Prod.fst:=by
  rw[nA,<-jx.ps,<-jx.e,abU];rfl
 rw[dO,e];rfl
def Fz(w:fQ V.ao)(ox:bj B x)(we:kH x.ev .gO)(nk:tj V.ao x.ev .gO)(s:cJ B X x V W V)(hlen:ts.length=223)(t2:slot ts 2=.ptr X.length 0)(t3:slot ts 3=.ptr (X.length+1) 0)(t4:slot ts 4=.ptr (X.length+2) 0):
  WC P bL (Bf 1) [] ts W (FQ [(4,some (some 7)),(5,none)] (sM B X V (bD V.ao x.ev .gO) (dO V.ao x.ev .gO))):=by
 have ow:=ox.ext s.ex;have oV:=s.bk.o.ok;have SE:x.ev.kind=bw .gO:=bZ we.kd;obtain⟨lr,le,sb,gm⟩:=cJ.fa s;obtain⟨i0,d0⟩:=bR ow we 0 0 rfl De;obtain⟨j1,f1,q1⟩:=dq ow we 1 1 rfl De;obtain⟨j2,f2,q2⟩:=dq ow we 2 2 rfl De;unfold Bf fn227;simp only[ai.j,ai.s,ai.r,ai.dr,ai.tl];have k0:aS x.ev 0∈gD V.ao:=nk.kn 0 4 rfl;obtain⟨p,J,jx⟩:=PN k0;have ix:aV 3 V.s4 (.i (p:Int))=some (cF V.s4 3 p,.ar):=oV.i4.dA jx.lt;refine pH (BD t2 t3 t4 @le @lr @bC @aP @bg @aE @SE @iO @aac @Z5 @i0 @d0) ?_;refine WF.ce T.c56 (r56 T (oV.ext Xx) w.len _) λg1=>?_
 rw[jx.i];obtain⟨W2,Tj⟩:∃Z,Z=W++g1:=⟨_,rfl⟩;rw[<-Tj];have SV:cJ B X x V W2 V:=by rw[Tj];exact fF.grow s ⟨g1,rfl⟩
 have ow:=ox.ext SV.ex;have oV:=SV.bk.o.ok;obtain⟨lr,le,sb,gm⟩:=cJ.fa SV;obtain⟨i0,d0⟩:=bR ow we 0 0 rfl De;obtain⟨j1,f1,q1⟩:=dq ow we 1 1 rfl De;obtain⟨j2,f2,q2⟩:=dq ow we 2 2 rfl De;refine Rs (mQ t2 t3 t4 @le @lr @bC @aP @bg @aE @i0 @d0) ?_;refine WF.ce T.c265 (r265 T (oV.ext Xx) w.len _) λg2=>?_
 obtain⟨W3,SS⟩:∃Z,Z=W2++g2:=⟨_,rfl⟩;rw[<-SS];have S2:cJ B X x V W3 V:=by rw[SS];exact fF.grow SV ⟨g2,rfl⟩
 have ow:=ox.ext S2.ex;have oV:=S2.bk.o.ok;obtain⟨lr,le,sb,gm⟩:=cJ.fa S2;obtain⟨i0,d0⟩:=bR ow we 0 0 rfl De;obtain⟨j1,f1,q1⟩:=dq ow we 1 1 rfl De;obtain⟨j2,f2,q2⟩:=dq ow we 2 2 rfl De;have oJ:=oV.e4 J jx.m;have l2:∀{k:ah},Ext W3 k->aq none (j6 V.s4 3 p 2) (λb=>k[b]?)=some (J.2,.ar):=λ{k} e=>oV.i4.lO jx.lt (by rw[jx.at];rfl) e
 cases h1:qE V.ao (aS x.ev 0)with
 |true=>
  refine Rs (A7 t2 t3 t4 @lr @aE @sb @gm) ?_;have hc:bD V.ao x.ev .gO=23:=by
   exact K5
  rw[hc];exact D9
 |false=>
 by_cases h2:(J.1.bz.length:Int)<=bM x.ev 1
 case pos=>
  have e2:decide ((J.1.bz.length:Int)<=bM x.ev 1)=true:=ZR h2;refine Rs (GL t2 t3 t4 @le @lr @bC @aP @bg @gq @aE @j1 @f1 ix @l2 oJ.aL e2 @sb @gm) ?_;have hc:bD V.ao x.ev .gO=3:=by
   exact z116
  rw[hc];exact D9
 have e2:decide ((J.1.bz.length:Int)<=bM x.ev 1)=false:=ZN h2;have ZB:kF V.ao x.ev=0:=by rw[kF,ZW (by rw[h1];decide),<-jx.e,ZW h2]
 have hsl:(bM x.ev 1).toNat<J.1.bz.length:=Om
 have X5:bM x.ev 1=((bM x.ev 1).toNat:Int):=Om
 have iy:aV 1 J.2 (.i (bM x.ev 1))=some (cF J.2 1 (bM x.ev 1).toNat,.ar):=by
  rw[X5];exact oJ.dA hsl
 have hsu:gp V.ao x.ev=J.1.bz[(bM x.ev 1).toNat]:=by
  exact z168
 have lv:∀{k:ah},Ext W3 k->aq none (cF J.2 1 (bM x.ev 1).toNat) (λb=>k[b]?)=some (.i (gp V.ao x.ev),.ar):=λ{k} e=>by rw[hsu];exact oJ.gR hsl rfl e
 have WZ:cF J.2 1 (bM x.ev 1).toNat=j6 J.2 1 (bM x.ev 1).toNat 0:=rfl;by_cases h3:0<=gp V.ao x.ev
 case pos=>
  have e3:decide (0<=gp V.ao x.ev)=true:=ZR h3;exact RC
 have e3:decide (0<=gp V.ao x.ev)=false:=ZN h3;have Tp:bD V.ao x.ev .gO=0:=by rw[bD,ZW (λz=>z ZB),ZW h3]
 repeat (first|simp (config:={maxSteps:=1000000}) only[aQ,aR,aX,aY,reduceAdd,reduceMul,reduceLeDiff,reduceEqDiff,bd,hlen,Z3,Z7,t2,t3,t4,le,lr,bC,aP,bg,aE,SE,iO,reduceCtorEq,aac,Z5,gq,j1,f1,j2,f2,ix,l2,oJ.aL,e2,iy,lv,e3]|simp (config:={maxSteps:=1000000}) (disch:=first|(simp only[ZL,ZP,ZT]<;>omega)|rfl|omega|fail) only[eD,aQ,aR,aX,aY,reduceAdd,reduceMul,reduceLeDiff,reduceEqDiff,bd,hlen,Z3,Z7,t2,t3,t4,le,lr,bC,aP,bg,aE,SE,iO,reduceCtorEq,aac,Z5,gq,j1,f1,j2,f2,ix,l2,oJ.aL,e2,iy,lv,e3])
 rw[WZ];have hfJ:Fr B.length W3 J.2 1 (J.1.bz.map aJ):=S2.bk.o.e4 J jx.m;refine WR.CH (B:=B) (x':=(bM x.ev 2)) (row:=aJ) (L:=J.1.bz) hfJ S2.ex hsl De rfl rfl ?_;intro W5 x5 l5 hff hk5;have s5:cJ B X x V W5 {V with aG:=V.aG.set p ({J.1 with bz:=J.1.bz.set (bM x.ev 1).toNat (bM x.ev 2) },J.2) }:=by
  have V3:(V.aG[p]'jx.lt).2=J.2:=by rw[jx.at]
  have:=fF.qJ S2 (W2:=W5) jx.lt (y:={J.1 with bz:=J.1.bz.set (bM x.ev 1).toNat (bM x.ev 2) }) (by rw[jx.at];exact⟨rfl,rfl⟩) (by rw[V3];exact hff) (λi _ hne=>hk5 i (by rw[<-V3];exact hne)) x5 Om;rw[V3]at this;exact this
 obtain⟨lr,_,sb,gm⟩:=cJ.fa s5;refine Rs (A7 t2 t3 t4 @lr @aE @sb @gm) ?_;rw[Tp];refine cJ.fin s5 (λ_=>?_);have e:nA V.ao x.ev (bM x.ev 2)=(V.aG.set p ({J.1 with bz:=J.1.bz.set (bM x.ev 1).toNat (bM x.ev 2) },J.2)).map Prod.fst:=by
  rw[nA,<-jx.ps,<-jx.e,abU];rfl
 rw[dO,e];rfl
end
structure So(W Y:ah)(jb:Nat)(c:List AV)(t:AV)(k:Nat):Prop where
 l:W.length<=jb
 x:Ext W Y
 m:Y[jb]? =some (.b (c++[t]))
 f:Fr W.length Y t 1 ((List.replicate k (-1:Int)).map aJ)
 n:sB t≠some jb
section
variable {P:Program}(T:fD P) {B X W:ah}{ts:TS}{V:RV}{x:EV}
include T
def Jt(w:fQ V.ao)(ox:bj B x)(we:kH x.ev .run)(nk:tj V.ao x.ev .run)(s:cJ B X x V W V)(hlen:ts.length=223)(t2:slot ts 2=.ptr X.length 0)(t3:slot ts 3=.ptr (X.length+1) 0)(t4:slot ts 4=.ptr (X.length+2) 0):
  WC P bL (Bf 1) [] ts W (FQ [(4,some (some 7)),(5,none)] (sM B X V (bD V.ao x.ev .run) (dO V.ao x.ev .run))):=by
 have ow:=ox.ext s.ex;have oV:=s.bk.o.ok;have SE:x.ev.kind=bw .run:=bZ we.kd;obtain⟨lr,le,sb,gm⟩:=cJ.fa s;obtain⟨i0,d0⟩:=bR ow we 0 0 rfl De;obtain⟨i1,d1⟩:=bR ow we 1 1 rfl De;obtain⟨j1,f1,q1⟩:=dq ow we 1 1 rfl De;unfold Bf fn227;simp only[ai.j,ai.s,ai.r,ai.dr,ai.tl];have k1:aS x.ev 1∈iS V.ao:=nk.kn 1 3 rfl;refine pH (BD @t2 @t3 @t4 @le @lr @bC @aP @bg @aE @SE @iO @aac @Z5 @i1 @d1) ?_;refine WF.res T.c59 (r59 T (oV.ext Xx) w _) ?_;rintro ns g1 hns;obtain⟨W2,Tj⟩:∃Z,Z=W++g1:=⟨_,rfl⟩;rw[<-Tj];have SV:cJ B X x V W2 V:=by rw[Tj];exact fF.grow s ⟨g1,rfl⟩
 have ow:=ox.ext SV.ex;have oV:=SV.bk.o.ok;obtain⟨lr,le,sb,gm⟩:=cJ.fa SV;rw[<-Tj]at hns;obtain⟨S,hS⟩:∃S,S=iT V.ao (aS x.ev 1):=⟨_,rfl⟩;rw[<-hS]at hns;have hSm:∀y∈S,y∈V.ao.lines:=λy hy=>by rw[hS,iT]at hy;exact(aa3.1 hy).1
 have hSl:S.length<=16:=by
  have h1:S.length<=V.ao.lines.length:=by rw[hS,iT];exact aav _ _
  have:=w.l0;omega
 rw[abt]at hns;refine Rs (A3 t2 t3 t4) ?_;refine WL.inv T.mix (λm ts h'=>∃(k:Nat) (g:ah),k<=S.length/\m=S.length-k/\h' =W2++g/\(∀y∈S.take k,y.acc=true)/\ts.length=223/\slot ts 2=.ptr X.length 0/\slot ts 3=.ptr (X.length+1) 0/\slot ts 4=.ptr (X.length+2) 0/\slot ts 6=ns/\slot ts 7=.i k) S.length
  ⟨0,[],Om,rfl,by rw[aaf],(λy hy=>by cases hy),Sn,(Sq t2),(Sq t3),(Sq t4),Sw,gf⟩ ?_
 clear t2 t3 t4 hlen;rintro _ ts _ ⟨k,g,hk,rfl,rfl,hsf,hlen,t2,t3,t4,t6,t7⟩;obtain⟨W3,SS⟩:∃Z,Z=W2++g:=⟨_,rfl⟩;rw[<-SS];have S2:cJ B X x V W3 V:=by rw[SS];exact fF.grow SV ⟨g,rfl⟩
 have ow:=ox.ext S2.ex;have oV:=S2.bk.o.ok;obtain⟨lr,le,sb,gm⟩:=cJ.fa S2;have e23:Ext W2 W3:=⟨g,SS⟩;have hns:=hns.ext e23;by_cases TK:k<S.length
 ·have e3:decide ((k:Int)<S.length)=true:=ZR Om;have e5:=wrapN (n:=k) Om;have iy:=hns.dA (kk:=.i64) TK;obtain⟨y,hy⟩:∃y,y=S[k]:=⟨_,rfl⟩;have Uj:y∈V.ao.lines:=hSm y (by rw[hy];exact ZZ _);have lf:∀{kk:ah},Ext W3 kk->aq none (cF ns 1 k) (λb=>kk[b]?)=some (.str y.name,.ar):=λ{kk} e=>hns.gR TK (by rw[<-hy];rfl) e
  have Va:y.name∈gC V.ao:=aah Uj;have hps:=cL Va;have UQ:aW (gC V.ao) y.name<V.lines.length:=by simpa [gC,RV.ao]using hps
  have iz:aV 3 V.s0 (.i ((aW (gC V.ao) y.name:Nat):Int))=some (cF V.s0 3 (aW (gC V.ao) y.name),.ar):=oV.i0.dA UQ;have huy:V.lines[aW (gC V.ao) y.name]=y:=by
   have a1:du V.ao y.name=y:=uT w.n0.nd Uj;rw[du,cS (f:=iH.name) (l:=V.ao.lines) (d:=AN) Va]at a1;exact a1
  have ly:∀{kk:ah},Ext W3 kk->aq none (j6 V.s0 3 (aW (gC V.ao) y.name) 2) (λb=>kk[b]?)=some (.bool y.acc,.ar):=λ{kk} e=>oV.i0.lO UQ (by rw[huy];rfl) e
  refine Rs (pG t2 t3 t4 t6 t7 hns.aL e3 @lr @gG @aE @iy @lf) ?_;refine WF.ce T.c28 (r28 T (oV.ext Xx) w.len _) λg3=>?_
  have ej:de (λy':iH=>decide (y'.name=y.name)) V.lines=(aW (gC V.ao) y.name:Int):=eS (f:=iH.name) Va;rw[ej];cases h4:y.acc with
  |false=>
   rw[h4]at ly;refine Rs (pG t2 t3 t4 t6 t7 @iz @ly @aai @lr @aE @sb @gm) ?_;rw[bD,ZY (by rw[<-hS];exact abx.2 ⟨y,by rw[hy];exact ZZ _,by rw[h4];rfl⟩)];exact cJ.fin (fF.grow S2 ⟨g3,rfl⟩) (λz=>absurd z De)
  |true=>
   rw[h4]at ly;refine Rs (A9 t2 t3 t4 t6 t7 @iz @ly @aad e5) ?_;refine⟨_,Om,k+1,g++g3,Om,rfl,by rw[SS];simp only[ZO],?_,rfl⟩;intro y' hy';exact Rf
 have e3:decide ((k:Int)<S.length)=false:=ZN Om;have e4:k=S.length:=Om
 rw[e4,aaj]at hsf;have hne:¬(iT V.ao (aS x.ev 1)).any (λx=>!x.acc)=true:=by
  exact z162
 obtain⟨i0,d0⟩:=bR ow we 0 0 rfl De;obtain⟨i1,d1⟩:=bR ow we 1 1 rfl De;obtain⟨j1,f1,q1⟩:=dq ow we 1 1 rfl De;refine Rs (za t2 t3 t4 @le @lr @bC @aP @bg t6 t7 hns.aL e3 @j1 @f1) ?_;refine WF.ce T.c20 (r20 T _ _ _) λg4=>?_
 obtain⟨W4,Tw⟩:∃Z,Z=W3++g4:=⟨_,rfl⟩;rw[<-Tw];have Ui:cJ B X x V W4 V:=by rw[Tw];exact fF.grow S2 ⟨g4,rfl⟩
 have ow:=ox.ext Ui.ex;have oV:=Ui.bk.o.ok;obtain⟨lr,le,sb,gm⟩:=cJ.fa Ui;obtain⟨i0,d0⟩:=bR ow we 0 0 rfl De;obtain⟨i1,d1⟩:=bR ow we 1 1 rfl De;obtain⟨j1,f1,q1⟩:=dq ow we 1 1 rfl De;by_cases h1:bG (bM x.ev 1) 1 32=0
 case neg=>
  have e1:decide (bG (bM x.ev 1) 1 32≠0)=true:=ZR h1;refine Rs (A8 t2 t3 t4 e1 @lr @aE @sb @gm) ?_;rw[bD,ZW hne,ZY h1];exact z159
 have e1:decide (bG (bM x.ev 1) 1 32≠0)=false:=ZN (λz=>z h1);have Vz:V.ao.aG.length=V.aG.length:=by simp[RV.ao]
 by_cases h2:16<=V.aG.length
 case pos=>
  have e2:decide ((16:Int)<=(V.aG.length:Int))=true:=ZR Om;refine Rs (mQ t2 t3 t4 e1 @lr @gq oV.i4.aL e2 @aE @sb @gm) ?_;rw[bD,ZW hne,ZW (λz=>z h1),ZY (by rw[Vz];exact h2)];exact z159
 have e2:decide ((16:Int)<=(V.aG.length:Int))=false:=ZN Om;have Tp:bD V.ao x.ev .run=0:=by rw[bD,ZW hne,ZW (λz=>z h1),ZW (by rw[Vz];exact h2)]
 have hr:=jg (λz=>z h1);obtain⟨n,hn⟩:∃n:Nat,n=(bM x.ev 1).toNat:=⟨_,rfl⟩;have hnv:bM x.ev 1=(n:Int):=Om
 have hn32:n<=32:=Om
 obtain⟨jb,hjb⟩:∃n,n=W4.length:=⟨_,rfl⟩;refine Rs (GM t2 t3 t4 @le @lr @bC @aP @bg e1 @gq oV.i4.aL e2 @i0 @d0 @i1 @d1) ?_;rw[<-hjb];refine WL.inv T.mix (λm ts Y=>∃(k:Nat) (t:AV),k<=n/\m=n-k/\So W4 Y jb [AV.str (aS x.ev 0),.str (aS x.ev 1)] t k/\ts.length=223/\slot ts 2=.ptr X.length 0/\slot ts 3=.ptr (X.length+1) 0/\slot ts 4=.ptr (X.length+2) 0/\slot ts 8=.ptr jb 0/\slot ts 9=.i k) n
  ⟨0,.af,Om,rfl,⟨Om,⟨_,rfl⟩,by rw[hjb];exact ba,.nil,by simp[sB]⟩,Sn,(Sq t2),(Sq t3),(Sq t4),Sw,gf⟩ ?_
 clear t2 t3 t4 t6 t7 hlen;rintro _ ts Y ⟨k',t,hk',rfl,hb,hlen,t2,t3,t4,t8,t9⟩;have sY:cJ B X x V Y V:=fF.grow Ui hb.x;have ow:=ox.ext sY.ex;have oV:=sY.bk.o.ok;obtain⟨lr,le,sb,gm⟩:=cJ.fa sY;obtain⟨j1,f1,q1⟩:=dq ow we 1 1 rfl De;have lj:=@fw _ _ _ hb.m;have ot:=hb.f.aO.one;have Zu:=(ZM.1 hb.m).1;by_cases hlt3:k'<n
 ·have e6:decide ((k':Int)<bM x.ev 1)=true:=ZR Om;have e7:IntKind.i64.wrap ((k':Int)+1)=((k'+1:Nat):Int):=wrapN Om;refine Rs (za t2 t3 t4 @le @lr @bC @aP @bg t8 t9 @j1 @f1 e6 @lj) ?_;refine WR.ml (B:=W4) (cs:=(List.replicate k' (-1:Int)).map aJ) hb.f rfl hb.x De (by simp only[ZU,aaV];omega) ?_;intro W5 s' x5 hff hn5 q5 l5 hk5;have hrow:(List.replicate k' (-1:Int)).map aJ++[[AV.i (-1)]]=(List.replicate (k'+1) (-1:Int)).map aJ:=by rw[List.replicate_succ',ZV];rfl
  rw[hrow]at hff;have m5:W5[jb]? =some (.b [AV.str (aS x.ev 0),.str (aS x.ev 1),t]):=(hk5 jb Zu hb.n).trans hb.m;have Uh:a8 1 (.ptr jb 2) s' (λz=>W5[z]?)=some (aA,.set jb (.b [AV.str (aS x.ev 0),.str (aS x.ev 1),s'])):=(aN m5).trans (cD q5 (by show 2+1<=3;omega));have hs'j:∀i,sB s' =some i->i≠jb:=λi hi=>by have:=hn5 i hi;omega
  refine Rs (A8 t2 t3 t4 t8 t9 @Uh q5 e7) ?_;refine⟨_,Om,k'+1,s',Om,rfl,⟨hb.l,x5.jD hb.l,Z8 Om,hff.aB λi hi=>Z4 (abe (hs'j i hi)),λe=>hs'j _ e rfl⟩,rfl⟩
 ·have e6:decide ((k':Int)<bM x.ev 1)=false:=ZN Om;have ekn:k' =n:=Om
  obtain⟨y,hy⟩:∃y:kI,y=⟨aS x.ev 0,aS x.ev 1,List.replicate n (-1)⟩:=⟨_,rfl⟩;obtain⟨z,hz⟩:∃z:List AV,z=bO (y,t):=⟨_,rfl⟩;have Uw:[AV.str (aS x.ev 0),.str (aS x.ev 1),t]=z:=by rw[hz,hy];rfl
  have hbf:=hb.f;rw[ekn]at hbf;refine Rs (GM t2 t3 t4 @le @lr @bC @aP @bg t8 t9 @j1 @f1 e6 @gq @lj @ot) ?_;rw[Uw];refine WR.ml (B:=B) (cs:=V.aG.map bO) (sY.bk.o.i4) (by rw[hz];rfl) sY.ex De (by rw[ZU];omega) ?_;intro W5 s' x5 hff hn5 q5 l5 hk5;have hrow:V.aG.map bO++[z]=(V.aG++[(y,t)]).map bO:=by rw[ZV,hz];rfl
  rw[hrow]at hff;have hlW:W4.length<=Y.length:=hb.x.len;have bP:∀i,sB t=some i->sB V.s4≠some i:=λi hi e=>by
   have h1:=(hbf.bB hi).1;have h2:=(Ui.bk.o.eO (b:=i) (by rw[<-e];simp[RV.bl])).2;omega
  have f5:Fr B.length W5 t 1 (y.bz.map aJ):=by
   rw[hy];exact(hbf.aB λi hi=>hk5 i (hbf.bB hi).2 (bP i hi)).low Ui.ex.len
  have s5:cJ B X x V (W5.set X.length (.b (V.row.set 5 s'))) {V with aG:=V.aG++[(y,t)],s4:=s'}:=fF.p4 Ui hff f5 (λi hi=>.inr (by have:=hn5 i hi;omega)) (λi hi=>⟨(hbf.bB hi).1,λe=>by have:=hn5 i e;have:=(hbf.bB hi).2;omega⟩) (λi hi hne=>(hk5 i Om hne).trans (hb.x.get hi)) x5 Om;have mB:W5[X.length]? =some (.b V.row):=(hk5 _ sY.bk.lt (λz=>sY.bk.ne (by rw[<-z];simp[RV.bl]))).trans sY.bk.m;have Uh:a8 1 (.ptr X.length 5) s' (λz=>W5[z]?)=some (aA,.set X.length (.b (V.row.set 5 s'))):=(aN mB).trans (cD q5 (by show 5+1<=7;omega));refine Rs (A7 t2 t3 t4 t8 t9 @Uh q5) ?_;obtain⟨W6,Uq⟩:∃Z,Z=W5.set X.length (.b (V.row.set 5 s')):=⟨_,rfl⟩
  rw[<-Uq]at s5 ⊢;obtain⟨lr,_,sb,gm⟩:=cJ.fa s5;refine Rs (A9 t2 t3 t4 t8 t9 @lr @aE @sb @gm) ?_;rw[Tp];exact cJ.fin s5 (λ_=>by simp only[RV.ao,ZV,aaJ,abd,dO,hy,hn])
def C9{d}(hd:d=.run\/d=.gO\/d=.fail\/d=.ij\/d=.rel)(o:cP B.length X V)(w:fQ V.ao)(hx:Ext B X)(ox:bj B x)(we:kH x.ev d)(nk:tj V.ao x.ev d):
  dE P 227 [.agg V.row,.agg x.row] X (sM B X V (bD V.ao x.ev d) (dO V.ao x.ev d)):=by
 refine .of T.mix (acb T.c227 (aan some Qx)) ?_;obtain⟨ts,Sv⟩:∃ts,ts=aU 223 [.agg V.row,.agg x.row]:=⟨_,rfl⟩;have hlen:ts.length=223:=by rw[Sv];rfl
 have t0:slot ts 0=.agg V.row:=by rw[Sv];rfl
 have t1:slot ts 1=.agg x.row:=by rw[Sv];rfl
 show WC P bL (.seq (Qy 0) (Bf 1)) [] (aU 223 [.agg V.row,.agg x.row]) X (FQ [(4,some (some 7)),(5,none)] (sM B X V (bD V.ao x.ev d) (dO V.ao x.ev d)));rw[<-Sv];clear Sv;have Su:=@aC.box _ _ o.ok;have hex:=@bj.box _ _ (ox.ext hx);have s:cJ B X x V (X++[.b V.row]++[.b x.row]++[.b lI]) V:=G3 o hx;unfold lI at s;generalize hR:Bf 1=R;unfold Qy fn227;simp only[ai.dr,ai.hd];refine Rs (A4 t0 t1 @Su @hex) ?_;rw[<-hR];rcases hd with rfl|rfl|rfl|rfl|rfl
 ·exact Jt T w ox we nk s Sn Sw (by simp only[aQ,aR,aX,aY,reduceAdd,reduceMul,reduceLeDiff,reduceEqDiff,bd,hlen,Z3,Z7];simp) (by simp only[aQ,aR,aX,aY,reduceAdd,reduceMul,reduceLeDiff,reduceEqDiff,bd,hlen,Z3,Z7];simp)
 ·exact Fz T w ox we nk s Sn Sw (by simp only[aQ,aR,aX,aY,reduceAdd,reduceMul,reduceLeDiff,reduceEqDiff,bd,hlen,Z3,Z7];simp) (by simp only[aQ,aR,aX,aY,reduceAdd,reduceMul,reduceLeDiff,reduceEqDiff,bd,hlen,Z3,Z7];simp)
 ·exact FB T w ox we nk s Sn Sw (by simp only[aQ,aR,aX,aY,reduceAdd,reduceMul,reduceLeDiff,reduceEqDiff,bd,hlen,Z3,Z7];simp) (by simp only[aQ,aR,aX,aY,reduceAdd,reduceMul,reduceLeDiff,reduceEqDiff,bd,hlen,Z3,Z7];simp)
 ·exact FA T w ox we nk s Sn Sw (by simp only[aQ,aR,aX,aY,reduceAdd,reduceMul,reduceLeDiff,reduceEqDiff,bd,hlen,Z3,Z7];simp) (by simp only[aQ,aR,aX,aY,reduceAdd,reduceMul,reduceLeDiff,reduceEqDiff,bd,hlen,Z3,Z7];simp)
 ·exact Ju T w ox we nk s Sn Sw (by simp only[aQ,aR,aX,aY,reduceAdd,reduceMul,reduceLeDiff,reduceEqDiff,bd,hlen,Z3,Z7];simp) (by simp only[aQ,aR,aX,aY,reduceAdd,reduceMul,reduceLeDiff,reduceEqDiff,bd,hlen,Z3,Z7];simp)
end
def vg(k:Nat):ai:=(fn129).body.dr k
def DR(k:Nat):ai:=((fn129).body.dr k).hd
def QR:fn129=⟨63,2,[(4,some (some 7)),(5,none)],.seq (DR 0) (vg 1)⟩:=rfl
def Ny:vg 1=.seq (DR 1) (vg 2):=rfl
def QQ:vg 2=.seq (DR 2) (vg 3):=rfl
def QP:vg 3=.seq (DR 3) (vg 4):=rfl
def QO:vg 4=.seq (DR 4) (vg 5):=rfl
def Kf(h:ah)(c:Int)(R':hO):AV->ah->Prop:=λv k=>Ext h k/\∃V':RV,v=.dz [.agg V'.row,.i c]/\aC k V'/\(c=0->V'.ao=R'/\∀i,some i∈V'.bl->h.length<=i)
def aC.J4{h:ah}{V:RV}(o:aC h V){W:ah}{b:Nat}(hz:W[b]? =some (.b lI)):a8 7 (.ptr b 0) (.agg V.row) (λz=>W[z]?)=some (aA,.set b (.b V.row)):=by
 have h1:=@aN 7 b 0 (.agg V.row) (λz=>W[z]?) _ hz;have st:=@aC.st _ _ o;unfold lI at h1;rw[st]at h1;exact h1
def aC.R1{h:ah}{V U:RV}(o:aC h V){W:ah}{b:Nat}(hz:W[b]? =some (.b U.row)):a8 7 (.ptr b 0) (.agg V.row) (λz=>W[z]?)=some (aA,.set b (.b V.row)):=by
 have h1:=@aN 7 b 0 (.agg V.row) (λz=>W[z]?) _ hz;rw[h1];exact o.st
def oR{W:ah}{b:Nat}{V:RV}(hb:b<W.length):aq (some 7) (.ptr b 0) (λz=>(W.set b (.b V.row))[z]?)=some (.agg V.row,.ar):=by
 rw[az (Z8 hb)];rfl
section
variable {P:Program}(T:fD P) {h K:ah}{ts:TS}{V U:RV}{x:EV}
include T
def JI{d:Kd}{ob:Nat}{c:Int}{R':hO}(we:kH x.ev d)(hd:d≠.fO)(ox:bj h x)(hx:Ext h K)(hob:h.length+2<ob)(mo:K[ob]? =some (.b U.row))(me:K[h.length+1]? =some (.b x.row))(mr:K[h.length+2]? =some (.b lI))
  (oU:aC K U) (hU:∀i,some i∈U.bl->h.length+2<i/\i≠ob) (hc:c=0->{U.ao with tick:=bM x.ev 0} =R') (hlen:ts.length=63) (t3:slot ts 3=.ptr (h.length+1) 0) (t4:slot ts 4=.ptr (h.length+2) 0) (t7:slot ts 7=.ptr ob 0) (t8:slot ts 8=.i c):
  WC P bL (vg 5) [] ts K (FQ [(4,some (some 7)),(5,none)] (Kf h c R')):=by
 have:=T.mix;have hv0:0<bK d:=by cases d<;>first|exact absurd rfl hd|decide
 have ow:=ox.ext hx;obtain⟨j0,f0,_⟩:=dq ow we 0 0 rfl hv0;have le:=@fw _ _ _ me;obtain⟨V2,hV2⟩:∃V2:RV,V2={U with tick:=bM x.ev 0}:=⟨_,rfl⟩;have hrow:U.row.set 0 (.i (bM x.ev 0))=V2.row:=by rw[hV2];rfl
 have sbo:a8 1 (.ptr ob 0) (.i (bM x.ev 0)) (λz=>K[z]?)=some (aA,.set ob (.b V2.row)):=by
  rw[<-hrow];exact(aN mo).trans (cD rfl (by show 0+1<=7;omega))
 unfold vg fn129 gA;simp only[ai.j,ai.s,ai.r,ai.dr,ai.tl];refine Rs (A9 t3 t4 t7 t8 @le @bg @j0 @f0 @sbo) ?_;have hbo:=(ZM.1 mo).1;have hbr:=(ZM.1 mr).1;obtain⟨K1,Yz⟩:∃Z,Z=K.set ob (.b V2.row):=⟨_,rfl⟩;rw[<-Yz];have mo1:K1[ob]? =some (.b V2.row):=by rw[Yz];exact Z8 hbo
 have mr1:K1[h.length+2]? =some (.b lI):=by rw[Yz,Z4 Om];exact mr
 have l1:K1.length=K.length:=by rw[Yz,aax]
 have lo:=@fw _ _ _ mo1;have oV:aC K V2:=by rw[hV2];exact⟨oU.i0,oU.i1,oU.i2,oU.i3,oU.i4,oU.i5,oU.e2,oU.e3,oU.e4⟩
 have sb:=oV.J4 mr1;have gm:=oR (W:=K1) (b:=h.length+2) (V:=V2) Om;refine Rs (A8 t3 t4 t7 t8 @lo @aE @sb @gm) ?_;refine⟨?_,V2,rfl,oV.ar λi hi=>?_,λz=>⟨by rw[<-hc z,hV2];rfl,λi hi=>?_⟩⟩
 ·rw[Yz];exact(hx.jD Om).jD Om
 ·have:some i∈U.bl:=by rw[hV2]at hi;exact hi
  have:=hU i this;rw[Z4 Om,Yz,Z4 Om]
 ·have:some i∈U.bl:=by rw[hV2]at hi;exact hi
  have:=hU i this;omega
def Nx{d:Kd}{B X:ah}{ob:Nat}(we:kH x.ev d)(hd:d≠.fO)(nk:tj U.ao x.ev d)(w:fQ U.ao)(ox:bj h x)(hB:Ext h B)(hx:Ext B X)(hob:ob<X.length)(hbo:B.length<=ob)(hBl:h.length+3<=B.length)(mo:X[ob]? =some (.b U.row))(me:B[h.length+1]? =some (.b x.row))(mr:B[h.length+2]? =some (.b lI))
  (o:cP B.length X U) (hU:some ob∉U.bl) (hlen:ts.length=63) (t3:slot ts 3=.ptr (h.length+1) 0) (t4:slot ts 4=.ptr (h.length+2) 0) (t7:slot ts 7=.ptr ob 0):
  WC P bL (vg 4) [] ts X (FQ [(4,some (some 7)),(5,none)] (Kf h (bD U.ao x.ev d) (sZ U.ao x.ev d))):=by
 have SE:x.ev.kind=bw d:=bZ we.kd;have le:∀{k n a},Ext X k->aq n (.ptr (h.length+1) a) (λz=>k[z]?)=dK n a (.b x.row):=λ{_ _ _} e=>az ((hx.trans e).some me)
 have lo:=@fw _ _ _ mo;have oB:=ox.ext hB;rw[QO];generalize hR:vg 5=R;unfold DR fn129 gA;simp only[ai.j,ai.s,ai.r,ai.dr,ai.tl,ai.hd];have fin:∀{v:AV}{k:ah},sM B X U (bD U.ao x.ev d) (dO U.ao x.ev d) v k->∃V2:RV,v=.dz [.agg V2.row,.i (bD U.ao x.ev d)]/\a8 7 (.ptr ob 0) (.agg V2.row) (λz=>k[z]?)=some (aA,.set ob (.b V2.row))/\
   (∀ts':TS,ts'.length=63->slot ts' 3=.ptr (h.length+1) 0->slot ts' 4=.ptr (h.length+2) 0->slot ts' 7=.ptr ob 0->slot ts' 8=.i (bD U.ao x.ev d)->WC P bL R [] ts' (k.set ob (.b V2.row)) (FQ [(4,some (some 7)),(5,none)] (Kf h (bD U.ao x.ev d) (sZ U.ao x.ev d)))):=by
  rintro v k ⟨x1,hl,hfr,V2,rfl,o2,hc,hlo⟩;have mo2:k[ob]? =some (.b U.row):=(hfr ob hob hU).trans mo;have hV2:∀i,some i∈V2.bl->B.length<=i/\i≠ob:=λi hi=>⟨(o2.eO hi).1,λe=>by
   subst e;rcases hlo _ hi with z|z
   ·exact hU z
   ·omega⟩
  refine⟨V2,rfl,o2.ok.R1 mo2,λts' SI u3 u4 u7 u8=>?_⟩;rw[<-hR];refine JI T we hd ox ((hB.trans x1).jD Om) Om (Z8 (ZM.1 mo2).1) ?_ ?_ (o2.ok.ar λi hi=>?_) (λi hi=>?_) (λz=>?_) SI u3 u4 u7 u8
  ·rw[Z4 Om];exact x1.some me
  ·rw[Z4 Om];exact x1.some mr
  ·rw[Z4 (abe (hV2 i hi).2)]
  ·have:=hV2 i hi;exact⟨Om,this.2⟩
  ·rw[hc z];rfl
 cases d with
 |fO=>exact absurd rfl hd
 |line=>
  refine pH (pG @t3 @t4 @t7 @le @lo @bC @bS @aE @SE @iO @aac @Z5) ?_;refine WF.gen T.c225 (Da T (d:=.line) De o w hx oB we nk) ?_;intro v k hv;exact z3
 |tape=>
  refine pH (pG @t3 @t4 @t7 @le @lo @bC @bS @aE @SE @iO @aac @Z5) ?_;refine WF.gen T.c225 (Da T (d:=.tape) De o w hx oB we nk) ?_;intro v k hv;exact z3
 |hP=>
  refine pH (pG @t3 @t4 @t7 @le @lo @bC @bS @aE @SE @iO @aac @Z5) ?_;refine WF.gen T.c225 (Da T (d:=.hP) De o w hx oB we nk) ?_;intro v k hv;exact z3
 |copy=>
  refine pH (pG @t3 @t4 @t7 @le @lo @bC @bS @aE @SE @iO @aac @Z5) ?_;refine WF.gen T.c225 (Da T (d:=.copy) De o w hx oB we nk) ?_;intro v k hv;exact z3
 |accept=>
  refine pH (pG @t3 @t4 @t7 @le @lo @bC @bS @aE @SE @iO @aac @Z5) ?_;refine WF.gen T.c225 (Da T (d:=.accept) De o w hx oB we nk) ?_;intro v k hv;exact z3
 |source=>
  refine pH (pG @t3 @t4 @t7 @le @lo @bC @bS @aE @SE @iO @aac @Z5) ?_;refine WF.gen T.c226 (I0 T (d:=.source) De o w hx oB we nk) ?_;intro v k hv;exact z3
 |gQ=>
  refine pH (pG @t3 @t4 @t7 @le @lo @bC @bS @aE @SE @iO @aac @Z5) ?_;refine WF.gen T.c226 (I0 T (d:=.gQ) De o w hx oB we nk) ?_;intro v k hv;exact z3
 |merge=>
  refine pH (pG @t3 @t4 @t7 @le @lo @bC @bS @aE @SE @iO @aac @Z5) ?_;refine WF.gen T.c226 (I0 T (d:=.merge) De o w hx oB we nk) ?_;intro v k hv;exact z3
 |run=>
  refine pH (pG @t3 @t4 @t7 @le @lo @bC @bS @aE @SE @iO @aac @Z5) ?_;refine WF.gen T.c227 (C9 T (d:=.run) De o w hx oB we nk) ?_;intro v k hv;exact z3
 |gO=>
  refine pH (pG @t3 @t4 @t7 @le @lo @bC @bS @aE @SE @iO @aac @Z5) ?_;refine WF.gen T.c227 (C9 T (d:=.gO) De o w hx oB we nk) ?_;intro v k hv;exact z3
 |fail=>
  refine pH (pG @t3 @t4 @t7 @le @lo @bC @bS @aE @SE @iO @aac @Z5) ?_;refine WF.gen T.c227 (C9 T (d:=.fail) De o w hx oB we nk) ?_;intro v k hv;exact z3
 |ij=>
  refine pH (pG @t3 @t4 @t7 @le @lo @bC @bS @aE @SE @iO @aac @Z5) ?_;refine WF.gen T.c227 (C9 T (d:=.ij) De o w hx oB we nk) ?_;intro v k hv;exact z3
 |rel=>
  refine pH (pG @t3 @t4 @t7 @le @lo @bC @bS @aE @SE @iO @aac @Z5) ?_;refine WF.gen T.c227 (C9 T (d:=.rel) De o w hx oB we nk) ?_;intro v k hv;exact z3
def JH{d:Kd}{H:ah}(hH:H=h++[an.b V.row]++[.b x.row]++[.b lI])(o:aC h V)(w:fQ V.ao)(ox:bj h x)(we:kH x.ev d)(hd:d≠.fO)(hlen:ts.length=63)(t2:slot ts 2=.ptr h.length 0)(t3:slot ts 3=.ptr (h.length+1) 0)(t4:slot ts 4=.ptr (h.length+2) 0):
  WC P bL (vg 1) [] ts H (FQ [(4,some (some 7)),(5,none)] (Kf h (jX V.ao x.ev d) (sZ V.ao x.ev d))):=by
 have hv0:0<bK d:=by cases d<;>first|exact absurd rfl hd|decide
 have S4:Ext h H:=by rw[hH];exact Xx
 have Wd:H.length=h.length+3:=by rw[hH];simp
 have mV:H[h.length]? =some (.b V.row):=by rw[hH];simp
 have me:H[h.length+1]? =some (.b x.row):=by rw[hH];simp
 have mr:H[h.length+2]? =some (.b lI):=by rw[hH];simp
 clear hH;have ow:=ox.ext S4;have oW:=o.ext S4;obtain⟨j0,f0,_⟩:=dq ow we 0 0 rfl hv0;have lr:=@fw _ _ _ mV;have le:=@fw _ _ _ me;have sb:∀{k},Ext H k->a8 7 (.ptr (h.length+2) 0) (.agg V.row) (λz=>k[z]?)=some (aA,.set (h.length+2) (.b V.row)):=λ{_} e=>(o.ext (S4.trans e)).J4 (e.some mr)
 have gm:∀{k},Ext H k->aq (some 7) (.ptr (h.length+2) 0) (λz=>(k.set (h.length+2) (.b V.row))[z]?)=some (.agg V.row,.ar):=λ{_} e=>oR (by have:=e.len;omega)
 have ZI:∀{k:ah}{c:Int},Ext H k->jX V.ao x.ev d=c->c≠0->Kf h (jX V.ao x.ev d) (sZ V.ao x.ev d) (.dz [.agg V.row,.i c]) (k.set (h.length+2) (.b V.row)):=by
  intro k c e hc h0;refine⟨(S4.trans e).jD Om,V,by rw[hc],?_,λz=>absurd (hc.symm.trans z) h0⟩;exact o.sub λb c' mu tl hb=>by
   have hlt:=(ZM.1 hb).1;rw[Z4 Om];exact(S4.trans e).some hb
 by_cases h1:bM x.ev 0<V.ao.tick
 ·have e1:decide (bM x.ev 0<V.tick)=true:=ZR h1;rw[Ny];generalize hR:vg 2=R;unfold DR fn129 gA;simp only[ai.j,ai.s,ai.r,ai.dr,ai.tl,ai.hd];refine Rs (D5 t2 t3 t4 @le @lr @bg @rG @aE @j0 @f0 e1 @sb @gm) ?_;exact ZI (.refl _) (by rw[jX,ZY h1]) De
 have e1:decide (bM x.ev 0<V.tick)=false:=ZN h1;rw[Ny,QQ];generalize hR:vg 3=R;unfold DR fn129 gA;simp only[ai.j,ai.s,ai.r,ai.dr,ai.tl,ai.hd];refine Rs (pG t2 t3 t4 @le @lr @bg @bS @rG @aE @j0 @f0 e1) ?_;refine WF.ce T.c223 (r223 T (d:=d) (oW.ext Xx) w.len (ow.ext Xx) we) λg1=>?_
 by_cases h2:lM d V.ao x.ev=0
 case neg=>
  have e2:decide (lM d V.ao x.ev≠0)=true:=ZR h2;refine Rs (A8 t2 t3 t4 e2 @lr @aE @sb @gm) ?_;have ef:=ZI (k:=H++g1) (c:=lM d V.ao x.ev) ⟨g1,rfl⟩ (by rw[jX,ZW h1,ZY h2]) h2;rw[List.set_append_left _ _ Om]at ef;exact ef
 have e2:decide (lM d V.ao x.ev≠0)=false:=ZN (λz=>z h2);have hes:jX V.ao x.ev d=bD V.ao x.ev d:=by rw[jX,ZW h1,ZW (λz=>z h2)]
 rw[hes];refine Rs (A4 t2 t3 t4 e2) ?_;rw[<-hR];obtain⟨B,hB⟩:∃B,B=H++g1:=⟨_,rfl⟩;rw[<-hB];have eB:Ext H B:=⟨g1,hB⟩;have lr:∀{k n a},Ext B k->aq n (.ptr h.length a) (λz=>k[z]?)=dK n a (.b V.row):=λ{_ _ _} e=>az (e.some (eB.some mV))
 clear sb gm ZI le f0 j0 e1 e2;rw[QP];generalize hR:vg 4=R;unfold DR fn129 gA;simp only[ai.j,ai.s,ai.r,ai.dr,ai.tl,ai.hd];refine Rs (A5 t2 t3 t4 @lr @aE) ?_;refine WF.res T.c224 (r224 T (oW.ext eB) w) ?_;rintro _ g2 ⟨U,hU,rfl,own⟩;have Su:=@aC.box _ _ own.ok;have st:=@aC.st _ _ own.ok;refine Rs (A5 t2 t3 t4 @Su @st) ?_;obtain⟨X0,hX0⟩:∃Z,Z=B++g2:=⟨_,rfl⟩;rw[<-hX0]at own ⊢;have e0:Ext B X0:=⟨g2,hX0⟩;rw[<-hR,<-hU];refine Nx T (ob:=X0.length) we hd (by rw[hU];exact zK h2) (by rw[hU];exact w) ox (S4.trans eB) (e0.trans ⟨_,rfl⟩) Si e0.len (by have:=eB.len;omega) ba (eB.some me) (eB.some mr) (own.app _) (λhi=>?_) Sn (Sq t3) (Sq t4) Sw
 have:=(own.eO hi).2;omega
def r129{d}(o:aC h V)(w:fQ V.ao)(ox:bj h x)(we:kH x.ev d)(hd:d≠.fO):ay P 129 [.agg V.row,.agg x.row] h (λv k=>∃V':RV,v=.dz [.agg V'.row,.i (jX V.ao x.ev d)]/\aC k V'/\(jX V.ao x.ev d=0->V'.ao=sZ V.ao x.ev d/\∀i,some i∈V'.bl->h.length<=i)):=by
 refine .of T.mix (acb T.c129 (aan some QR)) ?_;obtain⟨ts,Sv⟩:∃ts,ts=aU 63 [.agg V.row,.agg x.row]:=⟨_,rfl⟩;have hlen:ts.length=63:=by rw[Sv];rfl
 have t0:slot ts 0=.agg V.row:=by rw[Sv];rfl
 have t1:slot ts 1=.agg x.row:=by rw[Sv];rfl
 show WC P bL (.seq (DR 0) (vg 1)) [] (aU 63 [.agg V.row,.agg x.row]) h (FQ [(4,some (some 7)),(5,none)] (Kf h (jX V.ao x.ev d) (sZ V.ao x.ev d)));rw[<-Sv];clear Sv;have Su:=@aC.box _ _ o;have hex:=@bj.box _ _ ox;generalize hR:vg 1=R;unfold DR fn129 gA;simp only[ai.dr,ai.hd];refine Rs (A4 t0 t1 @Su @hex) ?_;rw[<-hR];exact JH T rfl o w ox we hd Sn Sw (by simp only[aQ,aR,aX,aY,reduceAdd,reduceMul,reduceLeDiff,reduceEqDiff,bd,hlen,Z3,Z7];simp) (by simp only[aQ,aR,aX,aY,reduceAdd,reduceMul,reduceLeDiff,reduceEqDiff,bd,hlen,Z3,Z7];simp)
end
end Go.Abs
