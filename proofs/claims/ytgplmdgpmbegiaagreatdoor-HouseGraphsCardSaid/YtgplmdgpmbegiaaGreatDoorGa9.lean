/- A part of the proof that HouseGraphs holds. No condition. -/
import Derived.Test.YtgplmdgpmbegiaaGreatDoorGa8
import Derived.Test.YtgplmdgpmbegiaaGreatDoorGa7
import Derived.Laws.Externs
import Derived.Shelf.Strconv.Itoa3
import Derived.Shelf.Strconv.Atoi
import Derived.Lib.AtoiErrMem
import Derived.Test.YtgplmdgpmbegiaaGreatDoorGa1
import Derived.Test.YtgplmdgpmbegiaaGreatDoorGa2
import Derived.Test.YtgplmdgpmbegiaaGreatDoorGa5
import Derived.Test.YtgplmdgpmbegiaaGreatDoorGa6
import Derived.ChangeArms
import Derived.Deep.Slices
import Derived.WideShapes
import Derived.ChangeShapes
import Derived.ChangeMaps5
import Derived.OpenShut
import Derived.Carry
import Derived.ChangeSame
import Derived.RowKit
import Derived.ProofKit
import Derived.LaidMore
import Derived.Lay
import Derived.SevenTiedAt
import Derived.Stop.Joined
import Derived.Test.YtgplmdgpmbegiaaGreatDoorRows
import Derived.Test.YtgplmdgpmbegiaaGreatDoorTie
import Derived.Test.YtgplmdgpmbegiaaGreatDoorCards
import Derived.Test.YtgplmdgpmbegiaaGreatDoorGa0
set_option maxHeartbeats 4000000
set_option linter.all false
open Nat (reduceAdd reduceMul reduceLeDiff reduceEqDiff)
namespace Go.Abs
theorem tD{c}:∀{s},(fe c s).2.2=true->s=(fe c s).1++c:: (fe c s).2.1
 |[],h=>by cases h
 |x::r,h=>by
  rw[fe]at h ⊢;split
  ·rename_i e;rw[e];rfl
  ·rename_i e;rw[X5 e]at h;exact Yx (x::·) (tD (s:=r) h)
set_option maxRecDepth 10000
attribute [local irreducible] WP WC WE WB WR WF WL WG gg WQ
section
variable {P:Program}(T:fI P) {h:ah}
include T
def r37(X:CW P)(Z:qq P)(w:Pw h)(s:By)(hsl:s.length<=2^37):ay P 37 [.str s] h (λv k=>∃(L':List EV) (s':AV),L'.map EV.ev=(lB s).1/\v=.dN [s',.i (lB s).2.1,.i (lB s).2.2]/\Fr h.length k s' 5 (L'.map EV.row)/\∀x∈L',AN h.length k s' x):=by
 refine .kV 55 T.mix T.c37 ?_;intro ts hlen t0;unfold fn37;by_cases h6:1000000<s.length
 ·have d1:decide ((1000000:Int)<s.length)=true:=XZ Om;refine Rs (A2 t0 @d1) ?_;exact⟨[],.af,by rw[lB,X9 h6];rfl,by rw[lB,X9 h6],.nil,λx hx=>(by cases hx)⟩
 have d1:decide ((1000000:Int)<s.length)=false:=XU Om;have hrs:lB s=ri (s.length+1) s [] 0:=X5 h6;refine Rs (A2 t0 @d1) ?_;refine WL.inv T.mix (λn ts h'=>∃(a f:Nat) (out:AV) (L':List EV) (g:ah),a<=s.length/\n=s.length-a/\h' =h++g/\L'.length<=a/\lB s=ri (f+1) (s.drop a) (L'.map EV.ev) a/\s.length-a<=f/\Fr h.length (h++g) out 5 (L'.map EV.row)/\(∀x∈L',AN h.length (h++g) out x)/\
   ts.length=55/\slot ts 0=.str s/\slot ts 5=out/\slot ts 6=.i a) s.length
  ⟨0,s.length,.af,[],[],Om,rfl,Si,X8 _,hrs,Om,.nil,(λx hx=>by cases hx),Sn,(Sq t0),Sw,iQ⟩ ?_
 rintro _ ts _ ⟨a,f,out,L',g,ha,rfl,rfl,hLa,Ri,hf,hfr,hin,hlen,t0,t5,t6⟩;by_cases hlt:a<s.length
 ·have e3:decide ((a:Int)<s.length)=true:=XZ Om;have hne:s.drop a≠[]:=λe=>by have:=Yx List.length e;rw[Z9]at this;simp at this;omega
  obtain⟨f',rfl⟩:∃f',f=f'+1:=⟨f-1,Om⟩;rw[ri,X5 hne]at Ri;have hdl:(s.drop a).length=s.length-a:=Z9;have hcl:=rJ (c:=10) (s:=s.drop a)
  repeat (first|simp (config:={maxSteps:=1000000}) only[aQ,aT,ba,bd,reduceAdd,reduceMul,reduceLeDiff,reduceEqDiff,bg,hlen,Yb,Yf,t0,t5,t6,e3,kh (show a<=s.length by omega)]|simp (config:={maxSteps:=1000000}) (disch:=first|(simp only[XS,XX,X1]<;>omega)|rfl|omega|fail) only[eo,aQ,aT,ba,bd,reduceAdd,reduceMul,reduceLeDiff,reduceEqDiff,bg,hlen,Yb,Yf,t0,t5,t6,e3,kh (show a<=s.length by omega)])
  refine WF.ce T.c98 (r98 T X (s.drop a) 10 Om) λg1=>?_
  have U8:=tD (c:=10) (s:=s.drop a);generalize (fe 10 (s.drop a)).1=ln at Ri hcl U8 ⊢;generalize (fe 10 (s.drop a)).2.1=rest at Ri hcl U8 ⊢;cases hwh:(fe 10 (s.drop a)).2.2 with
  |false=>
   rw[hwh]at Ri;refine Rs (A4 t0 t5 t6 @Yr) ?_;rw[Ri];exact⟨L',_,rfl,rfl,hfr.app g1,λx hx=>(hin x hx).app g1⟩
  |true=>
  rw[hwh]at Ri;have U8:=U8 hwh;have S4:(s.drop a).length=ln.length+(rest.length+1):=by rw[U8];simp
  have RP:rest=s.drop (a+ln.length+1):=by
   have:(s.drop a).drop (ln.length+1)=rest:=by rw[U8,<-Zu];simp
   rw[<-this,Zu];congr 1
  have w1:IntKind.i64.wrap (((L'.map EV.row).length:Int)+1)=(L'.length:Int)+1:=by rw[X2];exact bw Om Om
  have w1':IntKind.i64.wrap ((L'.length:Int)+1)=(L'.length:Int)+1:=bw Om Om;refine Rs (A7 t0 t5 t6 @Yk hfr.a8.aM @w1 @w1') ?_;refine WF.res T.c99 (r99 T X Z (w.ext Xx) ln Om _) ?_;rintro _ g2 ⟨x,hx,rfl,fn,fv⟩;have hml:(L'.map EV.ev).length=L'.length:=X2 _;have Ri:lB s=if(fP ln ((L'.length:Int)+1)).2≠0 then(L'.map EV.ev,(a:Int),(fP ln ((L'.length:Int)+1)).2)else ri (f'+1) rest (L'.map EV.ev++[(fP ln ((L'.length:Int)+1)).1]) (a+ln.length+1):=by rw[Ri,hml];rfl
  rw[<-hx]at Ri;generalize (fP ln ((L'.length:Int)+1)).2=er at Ri ⊢;have ox:bt (h++g++g1++g2) x:=⟨fn.a8,fv.a8⟩;have st:∀{b':Nat}{a0 a1 a2 a3 a4:AV},kg 5 0 (.agg x.row) b' (.b [a0,a1,a2,a3,a4])=some (az,.set b' (.b x.row)):=λ{_ _ _ _ _ _}=>ox.st
  by_cases he:er=0
  case neg=>
   have d2:decide (er≠0)=true:=XZ he;rw[X9 he]at Ri;refine Rs (A5 t0 t5 t6 @st @d2) ?_;rw[Ri];exact⟨L',_,rfl,rfl,((hfr.app g1).app g2).app _,λx hx=>(((hin x hx).app g1).app g2).app _⟩
  have d2:decide (er≠0)=false:=XU (λz=>z he);rw[X5 (λz=>z he)]at Ri;have ox2:bt (h++g++g1++g2++[ak.b x.row]) x:=ox.ext ⟨_,rfl⟩;have bs:=@bt.Gk _ _ ox2;refine Rs (A7 t0 t5 t6 @st @d2 @cA @bs) ?_;refine WR.fQ (h0:=h) (cs:=L'.map EV.row) (ys:=[x.row]) ((((hfr.app _).app _).app _).app _) (Fr.push (N:=0) (Yt _) [x.row] (by intro y hy;rw[Yl]at hy;rw[hy];rfl)).a8 De Si (by simp only[X2,XX,X1];omega) Xx ?_;intro g' Q1 hff hkp;have hrow:L'.map EV.row++[x.row]=(L'++[x]).map EV.row:=by rw[X4];rfl
  rw[hrow]at hff;rw[hrow];obtain⟨sn,Ry⟩:∃sn,sn=AV.slice (h++g++g1++g2++[ak.b x.row]++[ak.cells x.row true true]).length 0 ((L'++[x]).map EV.row).length 5:=⟨_,rfl⟩;rw[<-Ry]at hff ⊢;have Ts:∀i,sB sn=some i->(h++g++g1++g2).length+2=i:=λi hi=>by rw[Ry]at hi;cases hi;simp only[XS,Yn]<;>omega
  have hout:∀b,sB out=some b->b<(h++g).length:=λb hb=>(hfr.bQ hb).2
  have kp:∀i,i<(h++g++g1++g2).length->sB out≠some i->(h++g')[i]? =(h++g++g1++g2)[i]? :=λi hi hne=>by
   rw[hkp i (by simp only[XS,Yn]at hi ⊢;omega) (λb0 o n e he zz=>hne (by rw[he,zz];rfl)),XV (h++g++g1++g2),XW hi]
  have w2:IntKind.i64.wrap ((ln.length:Int)+1)=((ln.length+1:Nat):Int):=wrapN Om;have w3:IntKind.i64.wrap ((a:Int)+((ln.length+1:Nat):Int))=((a+ln.length+1:Nat):Int):=by rw[bw Om Om];omega
  refine Rs (A5 t0 t5 t6 @w2 @w3) ?_;refine⟨s.length-(a+ln.length+1),Om,a+ln.length+1,f',sn,L'++[x],g',Om,rfl,rfl,by simp;omega,?_,Om,hff,λy hy=>?_,rfl,rfl⟩
  ·rw[Ri,RP,X4];rfl
  ·have lg:∀{i},i<(h++g).length->i<(h++g++g1++g2).length:=λ{i} hi=>by simp only[XS]at hi ⊢;omega
   rcases X3.1 hy with hy|hy
   ·have oy:=hin y hy;have ln:=λj (hj:sB y.sn=some j)=>(oy.n.bQ hj).2
    have lv:=λj (hj:sB y.sv=some j)=>(oy.v.bQ hj).2
    refine⟨((oy.n.app g1).app g2).aB λj hj=>kp j (lg (ln j hj)) (oy.dn j hj),((oy.v.app g1).app g2).aB λj hj=>kp j (lg (lv j hj)) (oy.dv j hj),λj hj e=>?_,λj hj e=>?_⟩
    ·have h1:=lg (ln j hj);have h2:=Ts j e;omega
    ·have h1:=lg (lv j hj);have h2:=Ts j e;omega
   ·rw[Yl]at hy;subst hy;have ln:=λj (hj:sB y.sn=some j)=>fn.bQ hj
    have lv:=λj (hj:sB y.sv=some j)=>fv.bQ hj
    have en:(h++g++g1).length=(h++g).length+g1.length:=XS;exact P2
 ·have e3:decide ((a:Int)<s.length)=false:=XU Om;have e4:a=s.length:=Om
  have hnil:s.drop a=[]:=List.drop_eq_nil_of_le Om;rw[ri,X9 hnil]at Ri;refine Rs (A4 t0 t5 t6 e3) ?_;rw[Ri];exact⟨L',_,rfl,rfl,hfr,hin⟩
end
def qF:Nat->Nat
 | 0=>198
 | 1=>126
 | 2=>200
 | 3=>201
 | 4=>202
 | 5=>203
 |_=>204
def ju(q:Nat×Bool×Nat):AV:=.agg [.bool q.2.1,.i (q.2.2:Nat),.func (.func (qF q.1)) [] []]
def BN:List (AV×AV):=[(.str [108,101,102,116],ju (0,true,4)),(.str [102,114,111,109],ju (1,true,5)),(.str [108,105,110,101,115],ju (2,true,3)),(.str [117,110,115,97,102,101],ju (3,false,2)),(.str [116,97,112,101,115],ju (4,true,2)),(.str [114,101,108,101,97,115,101,100],ju (5,false,5)),(.str [119,97,110,116],ju (6,true,0))]
def HJ(k:By):jq .s (.str k) BN=some ((kW k).map ju):=by
 unfold kW BN;by_cases h0:k=[108,101,102,116]
 ·subst h0;rfl
 have b0:(k==[108,101,102,116])=false:=by simp[h0]
 by_cases h1:k=[102,114,111,109]
 ·subst h1;rfl
 have b1:(k==[102,114,111,109])=false:=by simp[h1]
 by_cases h2:k=[108,105,110,101,115]
 ·subst h2;rfl
 have b2:(k==[108,105,110,101,115])=false:=by simp[h2]
 by_cases h3:k=[117,110,115,97,102,101]
 ·subst h3;rfl
 have b3:(k==[117,110,115,97,102,101])=false:=by simp[h3]
 by_cases h4:k=[116,97,112,101,115]
 ·subst h4;rfl
 have b4:(k==[116,97,112,101,115])=false:=by simp[h4]
 by_cases h5:k=[114,101,108,101,97,115,101,100]
 ·subst h5;rfl
 have b5:(k==[114,101,108,101,97,115,101,100])=false:=by simp[h5]
 by_cases h6:k=[119,97,110,116]
 ·subst h6;rfl
 have b6:(k==[119,97,110,116])=false:=by simp[h6]
 simp only[jq,dx,b0,b1,b2,b3,b4,b5,b6,X5 h0,X5 h1,X5 h2,X5 h3,X5 h4,X5 h5,X5 h6];rfl
def B4{h:ah}{r:Nat}(hb:h[r]? =some (.bo BN)){z:AV}{ok:Bool}{k:By}:iA .s z ok (.map r) (.str k) (λb=>h[b]?)=lG z ok ((kW k).map ju):=rr hb (HJ k)
theorem rv:∀{l}{i:Nat},∀y∈cJ l i,(i:Int)<=y/\y<(i:Int)+l.length
 |[],i,y,h=>by simp[cJ]at h
 |x::r,i,y,h=>by
  rw[cJ]at h;have key:y∈cJ r (i+1)->(i:Int)<=y/\y<(i:Int)+(x::r).length:=λh=>by
   have:=rv y h;rw[XX];omega
  split at h
  ·rcases YA.1 h with rfl|h
   ·rw[XX];omega
   ·exact key h
  ·exact key h
section
variable {P:Program}(T:fI P) {h:ah}
include T
theorem ry{h ks ts Q g es a l z ps k v es'}(ha:a+1<=ts.length)(h1:(a=1)=False)(t1:slot ts 1=.map h.length)
  (hv:rK (eM z (ps.map λp=>(p.1,p.2.1,val ts p.2.2)))=some v) (hu:pe .s (.str k) v es=some es')
  (K:∀ts',ts'.length=ts.length->slot ts' 1=slot ts 1->WP P bT l ks ts' (h++[.bo es']++g) Q):
  WP P bT (.o a (.build z ps):: .x (.fu .s (.t 1) (.c (.str k)) (.t a))::l) ks ts (h++[.bo es]++g) Q:=by
 have e1:tX .s (.map h.length) (.str k) v (λb=>(h++[ak.bo es]++g)[b]?)=some (az,.set h.length (.bo es')):=tW ur hu;unfold bI.o bI.x;rw[rQ,hv,uy,uD];have e2:val (put ts (some a) v) (.t 1)=.map h.length:=by
  simp only[pS,uN,bg,h1,t1]
 have e3:val (put ts (some a) v) (.t a)=v:=by simp only[pS,uN,bg,ha]
 rw[jk,e2,e3,yn,e1,rP,BO,pS];have e4:(h++[ak.bo es]++g).set h.length (.bo es')=h++[.bo es']++g:=yC;rw[e4];exact K _ (by simp only[bg]) (by simp only[bg,h1])
def r109:ay P 109 [] h (λv h'=>v=.map h.length/\h' =h++[.bo BN]):=by
 refine .of T.mix T.c109 ?_;obtain⟨ts,QP⟩:∃ts,ts=aU 10 []:=⟨_,rfl⟩;have hlen:ts.length=10:=by rw[QP];rfl
 unfold fn109;show WC P bT _ [] (aU 10 []) h _;rw[<-QP];clear QP;have m0:slot ((ts.set 0 AV.cY).set 1 (.map h.length)) 1=.map h.length:=by simp only[bg,hlen,reduceAdd,reduceLeDiff]
 have l0:((ts.set 0 AV.cY).set 1 (.map h.length)).length=10:=by simp only[bg,hlen]
 dsimp only[ai.j,ai.s,ai.r];rw[rR,rS,Lb T,uF,rR,rS,Lc T];rw[<-Yo (h++[ak.bo []])];generalize (ts.set 0 AV.cY).set 1 (.map h.length)=ts0 at *;clear hlen;refine ry T (v:=ju (0,true,4)) (es':=[(.str [108,101,102,116],ju (0,true,4))]) (by rw[l0];decide) (Zr De) m0 rfl rfl ?_;intro Ss lx mx;have l1:=lx.trans l0;have m1:=mx.trans m0;clear lx mx l0 m0;refine ry T (v:=ju (1,true,5)) (es':=[(.str [108,101,102,116],ju (0,true,4)),(.str [102,114,111,109],ju (1,true,5))]) (by rw[l1];decide) (Zr De) m1 rfl rfl ?_;intro T7 lx mx;have l2:=lx.trans l1;have m2:=mx.trans m1;clear lx mx l1 m1;refine ry T (v:=ju (2,true,3)) (es':=[(.str [108,101,102,116],ju (0,true,4)),(.str [102,114,111,109],ju (1,true,5)),(.str [108,105,110,101,115],ju (2,true,3))]) (by rw[l2];decide) (Zr De) m2 rfl rfl ?_
 intro ts3 lx mx;have l3:=lx.trans l2;have m3:=mx.trans m2;clear lx mx l2 m2;refine ry T (v:=ju (3,false,2)) (es':=[(.str [108,101,102,116],ju (0,true,4)),(.str [102,114,111,109],ju (1,true,5)),(.str [108,105,110,101,115],ju (2,true,3)),(.str [117,110,115,97,102,101],ju (3,false,2))]) (by rw[l3];decide) (Zr De) m3 rfl rfl ?_;intro ts4 lx mx;have l4:=lx.trans l3;have m4:=mx.trans m3;clear lx mx l3 m3;refine ry T (v:=ju (4,true,2)) (es':=[(.str [108,101,102,116],ju (0,true,4)),(.str [102,114,111,109],ju (1,true,5)),(.str [108,105,110,101,115],ju (2,true,3)),(.str [117,110,115,97,102,101],ju (3,false,2)),(.str [116,97,112,101,115],ju (4,true,2))]) (by rw[l4];decide) (Zr De) m4 rfl rfl ?_
 intro ts5 lx mx;have l5:=lx.trans l4;have m5:=mx.trans m4;clear lx mx l4 m4;refine ry T (v:=ju (5,false,5)) (es':=[(.str [108,101,102,116],ju (0,true,4)),(.str [102,114,111,109],ju (1,true,5)),(.str [108,105,110,101,115],ju (2,true,3)),(.str [117,110,115,97,102,101],ju (3,false,2)),(.str [116,97,112,101,115],ju (4,true,2)),(.str [114,101,108,101,97,115,101,100],ju (5,false,5))]) (by rw[l5];decide) (Zr De) m5 rfl rfl ?_;intro ts6 lx mx;have l6:=lx.trans l5;have m6:=mx.trans m5;clear lx mx l5 m5;refine ry T (v:=ju (6,true,0)) (es':=[(.str [108,101,102,116],ju (0,true,4)),(.str [102,114,111,109],ju (1,true,5)),(.str [108,105,110,101,115],ju (2,true,3)),(.str [117,110,115,97,102,101],ju (3,false,2)),(.str [116,97,112,101,115],ju (4,true,2)),(.str [114,101,108,101,97,115,101,100],ju (5,false,5)),(.str [119,97,110,116],ju (6,true,0))]) (by rw[l6];decide) (Zr De) m6 rfl rfl ?_
 intro ts7 lx mx;have l7:=lx.trans l6;have m7:=mx.trans m6;clear lx mx l6 m6;have hlen:=l7;rw[Yo];refine Rs @m7 ?_;rfl
section
variable {V:RV}(o:aC h V) (w:fk V.an)
include o w
def r198(Z:qq P)(pw:Pw h){n}(hn:n∈fM V.an):ay P 198 [.agg V.row,.str n] h (λv k=>aH k v 1 ((kE V.an n 0).map ao)):=by
 refine .eG 10 T.mix T.c198 ?_;intro ts hlen t0 t1;unfold fn198;have QO:=@aC.box _ _ o;have l:=w.len;refine Rs (A4 t0 t1 @QO @aE) ?_;refine WF.res T.c124 (r124 T (o.ext Xx) l hn) ?_;rintro _ g1 ⟨x,hx,To,rfl⟩;have hj:=w.jb x.1 (Ym hx);refine Rs (A2 t0 t1) ?_;refine WF.res T.c125 (r125 T ((o.e4 x hx).ext Xx) Om (λs hs=>(hj.2.2.2 s hs).1)) ?_;intro v g2 hv;have S4:=jX (l:=x.1.bp) (i:=0);refine Rs (A2 t0 t1) ?_;refine WF.res T.c199 (r199 T hv Om jG (λy hy k ek=>by
  have:=rv y hy;exact yl T Z Om Om (pw.ext (Ext.trans Xx ek)))) ?_
 intro v3 g3 hv3;have hr:=hv3.a8;refine Rs t0 ?_;rw[To]at hr;exact hr
def r200(n:By):ay P 200 [.agg V.row,.str n] h (λv k=>aH k v 1 ((kE V.an n 2).map ao)):=by
 refine .eG 9 T.mix T.c200 ?_;intro ts hlen t0 t1;unfold fn200;have QO:=@aC.box _ _ o;have l:=w.len;have hin:∀x∈V.aD,x.1.bu.length<2^30:=λx hx=>by have:=(w.md x.1 (Ym hx)).2.1;omega
 refine Rs (A4 t0 t1 @QO @aE) ?_;refine WF.res T.c122 (r122 T (o.ext Xx) l hin _) ?_;rintro v3 g3 h3;have hsl:(fq V.an n).length<2^30:=by
  have h1:(fq V.an n).length<=V.an.lines.length:=by unfold fq;exact Yu _ _
  have:=w.l0;omega
 refine Rs (A2 t0 t1) ?_;refine WF.res T.c121 (r121 T h3 Om (λx=>x.name) (λx _ k _=>bF.of (a:=[]) (c:=[]) T.c123 (r123 T x))) ?_;intro v4 g4 h4;have hr:=h4.a8;refine Rs t0 ?_;exact hr
def r201(n:By):ay P 201 [.agg V.row,.str n] h (λv k=>aH k v 1 ((kE V.an n 3).map ao)):=by
 refine .eG 9 T.mix T.c201 ?_;intro ts hlen t0 t1;unfold fn201;have QO:=@aC.box _ _ o;have l:=w.len;refine Rs (A5 t0 t1 @QO @aE @sV) ?_;refine WF.res T.c80 (r80 T (o.ext Xx) l w.yT _) ?_;intro v4 g4 h4;refine Rs t0 ?_;exact h4
def r202{n}(hn:n∈mS V.an):ay P 202 [.agg V.row,.str n] h (λv k=>aH k v 1 ((kE V.an n 4).map ao)):=by
 refine .eG 9 T.mix T.c202 ?_;intro ts hlen t0 t1;unfold fn202;have QO:=@aC.box _ _ o;have l:=w.len;refine Rs (A4 t0 t1 @QO @aE) ?_;refine WF.res T.c77 (r77 T (o.ext Xx) l hn) ?_;rintro _ g1 ⟨x,hx,To,rfl⟩;have hr:=(o.e2 x hx);unfold bn;refine Rs (A2 t0 t1) ?_;rw[To]at hr;exact hr.ext Xx
end
end
def zB{l x}:sd (l++[x])=sd l++(if x.rel then [x.name,jG x.nq]else []):=by
 unfold sd;simp only[X4,ZF,YR,ZM,Za,List.flatten_nil,Yo]
theorem rf:∀{l},(sd l).length<=2*l.length
 |[]=>by simp[sd]
 |x::r=>by
  have:=rf (l:=r);unfold sd at this ⊢;rw[YR,Za,XS,XX];split
  ·simp only[XX,X1];omega
  ·simp only[X1];omega
section
variable {P:Program}(T:fI P) {h:ah}
include T
section
variable {V:RV}(o:aC h V) (w:fk V.an)
include o w
def r203(Z:qq P)(pw:Pw h)(n:By):ay P 203 [.agg V.row,.str n] h (λv k=>aH k v 1 ((kE V.an n 5).map ao)):=by
 refine .eG 27 T.mix T.c203 ?_;intro ts hlen t0 t1;unfold fn203;have QO:=@aC.box _ _ o;have l5:V.aO.length<=16:=w.l5;refine Rs (A5 t0 t1 @QO @gW o.i5.aM) ?_;refine WL.inv T.mix (λn ts h'=>∃(k:Nat) (out:AV) (g:ah),k<=V.aO.length/\n=V.aO.length-k/\h' =h++g/\Fr h.length (h++g) out 1 ((sd (V.aO.take k)).map ao)/\
   ts.length=27/\slot ts 5=out/\slot ts 9=V.s5/\slot ts 10=.i V.aO.length/\slot ts 11=.i k) V.aO.length
  ⟨0,.af,_,Om,rfl,rfl,.nil,Sn,(Sq t1),Sw,(Sq t0),iQ⟩ ?_
 rintro _ ts _ ⟨k,out,g,hk,rfl,rfl,hfr,hlen,t5,t9,t10,t11⟩;by_cases hlt:k<V.aO.length
 ·have e3:=fF hlt;have e5:=wrapN (n:=k) Om;have ix:=o.i5.dM (kk:=.i64) hlt;have ld:∀{k'},Ext (h++g) k'->ar (some 4) (cW V.s5 4 k) (λb=>k'[b]?)=some (.agg (dm V.aO[k]),.au):=λ{k'} e=>o.i5.kR hlt (Ext.trans Xx e)
  obtain⟨x,hx⟩:∃x,x=V.aO[k]:=⟨_,rfl⟩;have SA:x∈V.aO:=by rw[hx];exact Ya _
  have hpc:=w.pc x SA;have Rc:V.aO.take (k+1)=V.aO.take k++[x]:=by rw[hx,YF,XY hlt];rfl
  have Sg:=rf (l:=V.aO.take k);have htl:(V.aO.take k).length<=16:=by rw[YQ];omega
  have Ry:=zB (l:=V.aO.take k) (x:=x);rw[<-hx]at ld;unfold dm at ld;cases hrel:x.rel with
  |false=>
   rw[hrel]at ld Ry;rw[X5 Si,Yo,<-Rc]at Ry;rw[<-Ry]at hfr;refine Rs (A8 t5 t9 t10 t11 e3 e5 ix @ld) ?_;exact⟨V.aO.length-(k+1),Om,k+1,out,_,Om,rfl,XV _ _ _,by rw[<-XV];exact hfr.app _,rfl,rfl⟩
  |true=>
   rw[hrel]at ld Ry;rw[X9 rfl,<-Rc]at Ry;refine Rs (A7 t5 t9 t10 t11 e3 ix @ld) ?_;refine WF.ce T.c113 (Z.itoa Om Om (pw.ext Xx)) λg1=>?_
   rw[gF hpc.2.1];refine Rs (A4 t5 t9 t10 t11) ?_;refine WR.E3 (h0:=h) (cs:=(sd (V.aO.take k)).map ao) (ys:=([x.name,jG x.nq] :List (By)).map ao) (((hfr.app _).app _).app _) (Fr.push (N:=0) (Yt _) (([x.name,jG x.nq] :List (By)).map ao) (by simp[ao])).a8 De (by simp;omega) Xx ?_;intro s' g' hff hkp hle;rw[<-X4,<-Ry]at hff;refine Rs (A5 t5 t9 t10 t11 e5) ?_;exact⟨V.aO.length-(k+1),Om,k+1,s',g',Om,rfl,rfl,hff,rfl,rfl⟩
 ·have e3:=gK hlt;have e4:k=V.aO.length:=Om
  refine Rs (A5 t5 t9 t10 t11 e3) ?_;rw[e4,Yz]at hfr;exact hfr.a8
def r204(Z:qq P)(pw:Pw h){n}(hn:n∈gP V.an):ay P 204 [.agg V.row,.str n] h (λv k=>aH k v 1 ((kE V.an n 6).map ao)):=by
 refine .eG 22 T.mix T.c204 ?_;intro ts hlen t0 t1;unfold fn204;have QO:=@aC.box _ _ o;have l:=w.len;have Ur:=w.ln _ (gI (f:=gN.name) (l:=V.an.lines) (n:=n) (d:=BY) hn);have S4:(V.aj.filter λx=>decide (x.1.line=n)).length<=V.aj.length:=Yu _ _;have hl2:=l.l2;have hof:(zI V.an n).length=(V.aj.filter λx=>decide (x.1.line=n)).length:=by
  unfold zI;simp only[RV.an,ZZ,X2];rfl
 refine Rs (A4 t0 t1 @QO @aE) ?_;refine WF.ce T.c205 (r205 T (o.ext Xx) l hn) λg1=>?_
 have T4:kE V.an n 6=[jG (zI V.an n).length,jG (dO V.an n).want,if(dO V.an n).acc then [97,99,99,101,112,116,101,100]else [111,112,101,110]]:=rfl;have Ur:1<=(dO V.an n).want/\(dO V.an n).want<=64:=Ur;generalize dO V.an n=y at T4 Ur ⊢;unfold cB;rw[hof]at T4;cases SV:y.acc with
 |true=>
  rw[SV]at T4;refine Rs (A4 t0 t1 @aE @SV) ?_;refine WF.res T.c206 (r206 T (o.ext Xx) l n) ?_;intro v2 g2 h2;refine Rs (A3 t0 t1 h2.aM) ?_;refine WF.ce T.c113 (Z.itoa Om Om (pw.ext Xx)) λg3=>?_
  rw[gF Om];refine Rs (A2 t0 t1) ?_;refine WF.ce T.c113 (Z.itoa Om Om (pw.ext Xx)) λg4=>?_
  rw[gF Om];refine Rs (A2 t0 t1) ?_;rw[T4];exact(Fr.push (es:=1) (N:=0) (Yt _) (([jG ((V.aj.filter λx=>decide (x.1.line=n)).length:Nat),jG y.want,[97,99,99,101,112,116,101,100]] :List (By)).map ao) (by simp[ao])).a8
 |false=>
  rw[SV]at T4;refine Rs (A4 t0 t1 @aE @SV) ?_;refine WF.res T.c206 (r206 T (o.ext Xx) l n) ?_;intro v2 g2 h2;refine Rs (A3 t0 t1 h2.aM) ?_;refine WF.ce T.c113 (Z.itoa Om Om (pw.ext Xx)) λg3=>?_
  rw[gF Om];refine Rs (A2 t0 t1) ?_;refine WF.ce T.c113 (Z.itoa Om Om (pw.ext Xx)) λg4=>?_
  rw[gF Om];refine Rs (A2 t0 t1) ?_;rw[T4];exact(Fr.push (es:=1) (N:=0) (Yt _) (([jG ((V.aj.filter λx=>decide (x.1.line=n)).length:Nat),jG y.want,[111,112,101,110]] :List (By)).map ao) (by simp[ao])).a8
end
end
def vu{n}(h:ed n=true):n.length<=24:=by
 cases n with
 |nil=>cases h
 |cons c r=>
  unfold ed at h;simp only[Yv,YG]at h;rw[XX];omega
def tV{l}(h:pM l){n}(hn:n∈l):n.length<=24:=vu (h.nm n hn)
theorem pA{c}:∀{l},(∀x∈l,x.length<=64)->(jo c l).length<=65*l.length
 |[],_=>Yt _
 |x::r,h=>by
  have ih:=pA (c:=c) (l:=r) λy hy=>h y (YB _ hy)
  have hx:=h x Si;by_cases hr:r=[]
  ·subst hr;simp only[jo,XX,X1];omega
  ·rw[nh hr,XS,XX,XX];omega
theorem te:∀{l m:List (By)},l.Nodup->(∀x∈l,x∈m)->l.length<=m.length
 |[],_,_,_=>Yt _
 |x::r,m,hd,hs=>by
  rw[aat]at hd;have hm:=hs x Si;have:=te (l:=r) (m:=m.erase x) hd.2 λy hy=>(List.mem_erase_of_ne (λe=>hd.1 (by rw[<-e];exact hy))).2 (hs y (YB _ hy))
  rw[List.length_erase_of_mem hm]at this;have:=List.length_pos_of_mem hm;rw[XX];omega
def Ip{R:gx}(w:fk R){n k:By}{q:Nat×Bool×Nat}(hq:kW k=some q)(hn:q.2.1=true->dw R q.2.2 n=true):(∀x∈kE R n q.1,x.length<=64)/\(kE R n q.1).length<=64:=by
 have dl:∀{y:Int},0<=y->y<99999999->(jG y).length<=64:=λ{y} h0 h1=>by have:=mv (k:=7) (u:=y.toNat) Om;rw[kC];omega
 unfold kW at hq
 repeat' split at hq
 all_goals cases hq
 ·have hm:n∈fM R:=Zb (hn rfl);have hj:=w.jb _ (gI (f:=jv.name) (l:=R.aG) (n:=n) (d:=tU) hm);have S4:=jX (l:=(eS R n).bp) (i:=0);have hj:(eS R n).bp.length<=32:=hj.2.2.1;refine⟨λx hx=>?_,?_⟩
  ·obtain⟨y,hy,rfl⟩:=Ys.1 hx;have:=rv y hy;exact Da
  ·show((cJ _ _).map jG).length<=64;rw[X2];omega
 ·refine⟨λx hx=>?_,?_⟩
  ·exact JP
  ·show(iJ R n).length<=64;unfold iJ;exact z171
 ·refine⟨λx hx=>?_,?_⟩
  ·obtain⟨y,hy,rfl⟩:=Ys.1 hx;have:=tV w.n0 (Ym (f:=gN.name) (Zd.1 hy).1);omega
  ·show((fq R n).map gN.name).length<=64;unfold fq;rw[X2];have:=Yu (λl:gN=>decide (l.name∈(jm R n).map gy.line)) R.lines;have:=w.l0;omega
 ·refine⟨λx hx=>?_,?_⟩
  ·exact JP
  ·show(kf R R.tick).length<=64;unfold kf;exact z171
 ·have hm:n∈mS R:=Zb (hn rfl);have hs:=w.sh _ (gI (f:=jP.name) (l:=R.aj) (n:=n) (d:=DV) hm);refine⟨λx hx=>?_,?_⟩
  ·have:=tV w.n1 (hs.2.2.2 x hx);omega
  ·have:=te hs.2.2.1 hs.2.2.2;have h1:(jK R).length<=16:=by unfold jK;rw[X2];exact w.l1
   exact YI this Om
 ·refine⟨λx hx=>?_,?_⟩
  ·obtain⟨l,hl,hx⟩:=List.mem_flatten.1 hx;obtain⟨p,hp,rfl⟩:=Ys.1 hl;have hpc:=w.pc p hp;split at hx
   ·simp only[YA,YT,Zz]at hx;rcases hx with rfl|rfl
    ·have:=tV w.n5 (Ym (f:=nE.name) hp);omega
    ·exact dl hpc.2.1 Om
   ·cases hx
  ·have:=rf (l:=R.aO);have:=w.l5;show(sd R.aO).length<=64;omega
 ·have hm:n∈gP R:=Zb (hn rfl);have hw:=w.ln _ (gI (f:=gN.name) (l:=R.lines) (n:=n) (d:=BY) hm);have hw:1<=(dO R n).want/\(dO R n).want<=64:=hw;have ho:(zI R n).length<=64:=YI (Yu _ _) w.l2;refine⟨λx hx=>?_,by show(3:Nat)<=64;omega⟩;have hx:x∈[jG (zI R n).length,jG (dO R n).want,if(dO R n).acc then [97,99,99,101,112,116,101,100]else [111,112,101,110]]:=hx;simp only[YA,YT,Zz]at hx;rcases hx with rfl|rfl|rfl
  ·exact Da
  ·exact Da
  ·split<;>decide
section
variable {P:Program}(T:fI P) {h:ah}
include T
def Qo{V}(o:aC h V)(w:fk V.an)(Z:qq P)(pw:Pw h){n k q}(hq:kW k=some q)(hn:q.2.1=true->dw V.an q.2.2 n=true):
  bF P (.func (.func (qF q.1)) [] []) [.agg V.row,.str n] h (λv k'=>aH k' v 1 ((kE V.an n q.1).map ao)):=by
 unfold kW at hq
 repeat' split at hq
 all_goals cases hq
 ·exact bF.of (a:=[]) (c:=[]) T.c198 (r198 T o w Z pw (Zb (hn rfl)))
 ·exact bF.of (a:=[]) (c:=[]) T.c126 (r126 T o w (Zb (hn rfl)))
 ·exact bF.of (a:=[]) (c:=[]) T.c200 (r200 T o w n)
 ·exact bF.of (a:=[]) (c:=[]) T.c201 (r201 T o w n)
 ·exact bF.of (a:=[]) (c:=[]) T.c202 (r202 T o w (Zb (hn rfl)))
 ·exact bF.of (a:=[]) (c:=[]) T.c203 (r203 T o w Z pw n)
 ·exact bF.of (a:=[]) (c:=[]) T.c204 (r204 T o w Z pw (Zb (hn rfl)))
end
def CS(k:Nat):ai:=(fn110).body.dr k
def E5(k:Nat):ai:=(CS k).hd
def Pf:fn110=⟨69,2,[(4,none),(5,none)],.seq (E5 0) (.seq (E5 1) (.seq (E5 2) (.seq (E5 3) (.seq (E5 4) (CS 5)))))⟩:=rfl
def Pe:CS 5=.seq (E5 5) (.seq (E5 6) (CS 7)):=rfl
def Nq{k q}(hq:kW k=some q):q.2.2<6:=by
 unfold kW at hq
 repeat' split at hq
 all_goals cases hq
 all_goals decide
section
variable {P:Program}(T:fI P) {h W:ah}{ts:TS}
include T
def Gn{VN n k i wt b6 b8 nm}(oV:aC W VN)(wV:fk VN.an)(Z:qq P)(pw:Pw W)(hq:kW k=some (i,nm,wt))(hn:nm=true->dw VN.an wt n=true)
  (m6:W[b6]? =some (.b [.bool nm,.i (wt:Nat),.func (.func (qF i)) [] []])) (m8:W[b8]? =some (.b VN.row)) (hlen:ts.length=69) (t6:slot ts 6=.ptr b6 0) (t7:slot ts 7=.str n) (t8:slot ts 8=.ptr b8 0) (he:Ext h W):
  WC P bT (CS 7) [] ts W (FQ [(4,none),(5,none)] λv k=>Ext h k/\v=.dN [.str (yd (kE VN.an n i)),.i 0]):=by
 have l6:∀{k:ah}{n':Option Nat}{a:Nat},Ext W k->ar n' (.ptr b6 a) (λz=>k[z]?)=dJ n' a (.b [.bool nm,.i (wt:Nat),.func (.func (qF i)) [] []]):=λe=>aA (e.some m6)
 have l8:∀{k:ah}{n':Option Nat}{a:Nat},Ext W k->ar n' (.ptr b8 a) (λz=>k[z]?)=dJ n' a (.b VN.row):=λe=>aA (e.some m8)
 have Vh:=Ip wV hq hn;have hv0:=Qo T oV wV Z pw hq hn;unfold CS fn110;simp only[ai.j,ai.s,ai.r,ai.dr,ai.tl,ai.hd];refine Rs (A6 t6 t7 t8 @l6 @l8 @aE) ?_;refine WF.val hv0 ?_;intro v g hv;have Vh:(∀x∈kE VN.an n i,x.length<=64)/\(kE VN.an n i).length<=64:=Vh;have hv:aH (W++g) v 1 ((kE VN.an n i).map ao):=hv;generalize kE VN.an n i=L at Vh hv ⊢;by_cases hL:L=[]
 ·have d0:decide ((L.length:Int)=0)=true:=XZ (by rw[hL];rfl);refine Rs (A5 t6 t7 t8 hv.aM @d0) ?_;exact⟨he.trans Xx,by rw[yd,X9 hL]⟩
 ·have VQ:0<L.length:=ZR.2 hL;have d0:decide ((L.length:Int)=0)=false:=XU Om;have hj:=pA (c:=32) Vh.1;refine Rs (A5 t6 t7 t8 hv.aM @d0) ?_;refine WF.ce T.c114 (Z.join hv ⟨by rw[rz];omega,Om⟩) λg2=>?_
  refine Rs t6 ?_;exact⟨he.trans Xx,by rw[yd,X5 hL,rz]⟩
def Gm{V b n k i wt b6 nm}(o:zi h b V)(w:lQ V.bW)(hl:V.cU.length<=1000)(Z:qq P)(pw:Pw h)(hq:kW k=some (i,nm,wt))(he:Ext h W)
  (m6:W[b6]? =some (.b [.bool nm,.i (wt:Nat),.func (.func (qF i)) [] []])) (hlen:ts.length=69) (t0:slot ts 0=.ptr b 0) (t6:slot ts 6=.ptr b6 0) (t7:slot ts 7=.str n) {R}
  (hR:R=if nm=true/\dw V.bW.now wt n=false then([],10)else(yd (kE V.bW.now n i),0)):
  WC P bT (CS 5) [] ts W (FQ [(4,none),(5,none)] λv k=>Ext h k/\v=.dN [.str R.1,.i R.2]):=by
 have l6:∀{k:ah}{n':Option Nat}{a:Nat},Ext W k->ar n' (.ptr b6 a) (λz=>k[z]?)=dJ n' a (.b [.bool nm,.i (wt:Nat),.func (.func (qF i)) [] []]):=λe=>aA (e.some m6)
 have hwt:wt<6:=Nq hq;obtain⟨RR,RL⟩:∃RR,RR=CS 7:=⟨_,rfl⟩;have o2:=o.ext he;have oV:=o2.now;have wV:fk V.now.an:=by rw[V.jC];exact w.now
 rw[<-V.jC]at hR;have st:=λ{b':Nat}{a0 a1 a2 a3 a4 a5 a6:AV}=>@aC.st _ _ oV b' a0 a1 a2 a3 a4 a5 a6 false
 rw[Pe,<-RL];unfold E5 CS fn110;simp only[ai.j,ai.s,ai.r,ai.dr,ai.tl,ai.hd];refine Rs (A3 t0 t6 t7) ?_;refine WF.ce T.c79 (r79 T o2 hl) λg1=>?_
 cases nm with
 |false=>
  rw[X5 Si]at hR;refine Rs (A6 t0 t6 t7 @st @l6 @aE) ?_;rw[hR,RL];exact Gn T (VN:=V.now) (b6:=b6) (b8:=(W++g1).length) (oV.ext Xx) wV Z (pw.ext (he.trans Xx)) hq (λe=>by cases e) (Ext.some Xx m6) (by rw[X6 (X8 _),YY];rfl) (Sq t0) (Sq t6) (Sq t7) (Sq t0) (he.trans Xx)
 |true=>
  refine Rs (A6 t0 t6 t7 @st @l6 @aE) ?_;refine WF.ce T.c86 (r86 T (oV.ext Xx) wV.len hwt n) λg2=>?_
  cases hhs:dw V.now.an wt n with
  |false=>
   rw[X9 ⟨rfl,hhs⟩]at hR;refine Rs (A5 t0 t6 t7 @hhs @Yr) ?_;exact⟨he.trans Xx,by rw[hR]⟩
  |true=>
   rw[X5 (by rw[hhs];simp)]at hR;refine Rs (A5 t0 t6 t7 @hhs @Yk) ?_;rw[hR,RL];exact Gn T (VN:=V.now) (b6:=b6) (b8:=(W++g1).length) (oV.ext Xx) wV Z (pw.ext (he.trans Xx)) hq (λ_=>hhs) (Ext.some Xx m6) (Ext.some (h:=W++g1++[ak.b V.now.row]) Xx (by rw[X6 (X8 _),YY];rfl)) (Sq t0) (Sq t6) (Sq t7) (Sq t0) (he.trans Xx)
end
def Ar:((false:Bool)==false)=true:=rfl
def Ao:((true:Bool)==true)=true:=rfl
def Ap:((true:Bool)==false)=false:=rfl
def Aq:((false:Bool)==true)=false:=rfl
section
variable {P:Program}(T:fI P) {h:ah}
include T
def r110{V b}(o:zi h b V)(w:lQ V.bW)(hl:V.cU.length<=1000)(Z:qq P)(pw:Pw h){s ws}(hs:aH h s 1 (ws.map ao))(hne:0<ws.length)(hwl:ws.length<2^62){q}(hq:kW (ws.headD [])=some q):
  ay P 110 [.ptr b 0,s] h (λv _=>v=.dN [.str (nB V.bW.now ws q).1,.i (nB V.bW.now ws q).2]):=by
 refine .of T.mix (aaw T.c110 (Yx some Pf)) ?_;obtain⟨ts,QP⟩:∃ts,ts=aU 69 [.ptr b 0,s]:=⟨_,rfl⟩;have hlen:ts.length=69:=by rw[QP];rfl
 have t0:slot ts 0=.ptr b 0:=by rw[QP];rfl
 have t1:slot ts 1=s:=by rw[QP];rfl
 obtain⟨RR,RL⟩:∃RR,RR=CS 5:=⟨_,rfl⟩;obtain⟨i,nm,wt⟩:=q;show WC P bT _ [] (aU 69 [.ptr b 0,s]) h (FQ _ (λv k=>Ext h k/\v=.dN [.str (nB V.bW.now ws (i,nm,wt)).1,.i (nB V.bW.now ws (i,nm,wt)).2]));rw[<-QP,<-RL];clear QP;have Xj:ws[0]=ws.headD []:=by cases ws with|nil=>simp at hne|cons a r=>rfl
 have qz:=hs.qz (kk:=.i64) hne;have ld0:∀{k:ah},Ext h k->ar none (cW s 1 0) (λb=>k[b]?)=some (.str (ws.headD []),.au):=λ{k} e=>by rw[<-Xj];exact hs.kS (i:=0) hne rfl e
 unfold E5 CS fn110;simp only[ai.j,ai.s,ai.r,ai.dr,ai.tl,ai.hd];refine Rs (A2 t0 t1) ?_;refine WF.res T.c109 (r109 T) ?_;rintro _ g1 ⟨rfl,hg⟩;have hg:g1=[.bo BN]:=ZL hg;subst hg;have lk:∀{z:AV},iA .s z false (.map h.length) (.str (ws.headD [])) (λb=>(h++[ak.bo BN])[b]?)=lG z false ((kW (ws.headD [])).map ju):=B4 (by rw[X6 (X8 _),YY];rfl);rw[hq]at lk;have Rp:∀{z:AV},_=some (AV.agg [.bool nm,.i (wt:Nat),.func (.func (qF i)) [] []],iH.au):=@lk;have m6:∀{k:ah},Ext (h++[ak.bo BN]++[ak.b [.bool nm,.i (wt:Nat),.func (.func (qF i)) [] []]]) k->k[(h++[ak.bo BN]).length]? =some (ak.b [.bool nm,.i (wt:Nat),.func (.func (qF i)) [] []]):=λe=>e.some (by rw[X6 (X8 _),YY];rfl)
 have hsyn:∀{x:By×Int},x=([],25)->nB V.bW.now ws (i,nm,wt)=([],25)->∀{k:ah},Ext h k->(Ext h k/\AV.dN [.str [],.i 25]=.dN [.str (nB V.bW.now ws (i,nm,wt)).1,.i (nB V.bW.now ws (i,nm,wt)).2]):=λ_ he k e=>⟨e,by rw[he]⟩
 cases nm with
 |false=>
  have Sa:nB V.bW.now ws (i,false,wt)=if ws.length≠1 then([],25)else(yd (kE V.bW.now [] i),0):=by
   unfold nB;simp
  by_cases e1:ws.length=1
  ·have d1:decide ((ws.length:Int)≠1)=false:=XU (λz=>z Om);have d2:decide ((ws.length:Int)=2)=false:=XU Om;refine Rs (AG t0 t1 @qz @ld0 @bX @Rp @iF @Ar @Ao @Ap @Aq hs.aM @d1 @d2 @Yr @Yk) ?_;rw[RL];exact Gm T (n:=[]) o w hl Z pw hq Xx (m6 Xx) (Sq t0) (Sq t0) (Sq t0) (Sq t0) (by rw[Sa,X5 (by simpa using e1),X5 Si])
  ·have d1:decide ((ws.length:Int)≠1)=true:=XZ Om;rw[X9 e1]at Sa;by_cases e2:ws.length=2
   ·have d2:decide ((ws.length:Int)=2)=true:=XZ Om;have d3:decide (([] :By)≠[])=false:=rfl;refine Rs (FD t0 t1 @qz @ld0 @bX @Rp @iF @Ar @Ao @Ap @Aq hs.aM @d1 @d2 @d3 @Yr @Yk) ?_;rw[Sa]
   ·have d2:decide ((ws.length:Int)=2)=false:=XU Om;refine Rs (AG t0 t1 @qz @ld0 @bX @Rp @iF @Ar @Ao @Ap @Aq hs.aM @d1 @d2 @Yr @Yk) ?_;rw[Sa]
 |true=>
  by_cases e2:ws.length=2
  ·have d2:decide ((ws.length:Int)=2)=true:=XZ Om;have hw1:ws[1]=ws.getD 1 []:=by rw[YC,XY Om];rfl
   have ix1:aX 1 s (.i 1)=some (cW s 1 1,.au):=hs.dM (kk:=.i64) (i:=1) Om;have Vo:∀{k:ah},Ext h k->ar none (cW s 1 1) (λb=>k[b]?)=some (.str (ws.getD 1 []),.au):=λ{k} e=>by rw[<-hw1];exact hs.kS (i:=1) Om rfl e
   have Sa:nB V.bW.now ws (i,true,wt)=if ws.getD 1 []=[]then([],25)else if dw V.bW.now wt (ws.getD 1 [])=false then([],10)else(yd (kE V.bW.now (ws.getD 1 []) i),0):=by
    unfold nB;simp only[e2,and_true,Yf,aav,ne_eq,Bool.true_eq_false,false_and,Zz,Zq]
   generalize ws.getD 1 []=n at Vo Sa;by_cases hn:n=[]
   ·have d3:decide (n≠[])=false:=XU (λz=>z hn);rw[X9 hn]at Sa;refine Rs (C6 t0 t1 @qz @ld0 @ix1 @Vo @bX @Rp @iF @Ar @Ao @Ap @Aq hs.aM @d2 @d3 @Yr @Yk) ?_;rw[Sa]
   ·have d3:decide (n≠[])=true:=XZ hn;rw[X5 hn]at Sa;refine Rs (C6 t0 t1 @qz @ld0 @ix1 @Vo @bX @Rp @iF @Ar @Ao @Ap @Aq hs.aM @d2 @d3 @Yr @Yk) ?_;rw[RL];exact Gm T (n:=n) o w hl Z pw hq Xx (m6 Xx) (Sq t0) (Sq t0) (Sq t0) (Sq t0) (by rw[Sa];simp)
  ·have d2:decide ((ws.length:Int)=2)=false:=XU Om;have Sa:nB V.bW.now ws (i,true,wt)=([],25):=by
    unfold nB;simp[e2]
   refine Rs (C8 t0 t1 @qz @ld0 @bX @Rp @iF @Ar @Ao @Ap @Aq hs.aM @d2 @Yr @Yk) ?_;rw[Sa]
end
def mF(B h0:ah)(b:Nat)(V:HV)(R:kI×By×Int)(v:AV)(k:ah):Prop:=∃g' V',k=B++g'/\v=.dN [.str R.2.1,.i R.2.2]/\cI B.length (B++g') b V'/\V'.bW=R.1/\
 (∀i,i<h0.length->some i∉V.ex b->(B++g')[i]? =h0[i]?)/\∀j,some j∈V'.ex b->some j∈V.ex b\/h0.length<=j
def mF.same{B W k b V m c}(o:cI B.length W b V)(e:Ext B W)(e2:Ext W k){R}(hR:R=(V.bW,m,c)):mF B W b V R (.dN [.str m,.i c]) k:=by
 obtain⟨z,rfl⟩:=e;obtain⟨y,rfl⟩:=e2;exact⟨z++y,V,by rw[XV],by rw[hR],by rw[<-XV];exact o.app y,by rw[hR],λi hi _=>by rw[<-XV,XW hi],λj hj=>.inl hj⟩
def mF.low{B h0 W k b V R v}(s:mF B W b V R v k)(e:Ext h0 W):mF B h0 b V R v k:=by
 obtain⟨g',V',h1,h2,h3,h4,h5,h6⟩:=s;obtain⟨z,rfl⟩:=e;refine⟨g',V',h1,h2,h3,h4,λi hi hn=>?_,λj hj=>?_⟩
 ·rw[h5 i (by rw[XS];omega) hn,XW hi]
 ·rcases h6 j hj with h|h
  ·exact .inl h
  ·exact .inr (by rw[XS]at h;omega)
def ra(H:kI)(ws:List (By)):kI×By×Int:=
 if(eE ws).2=false then(H,[],25)else
 if 1000<=H.dt.length then(H,[],5)else
 if fU H { (eE ws).1 with num:=(H.dt.length:Int)+1}≠0 then(H,[],fU H { (eE ws).1 with num:=(H.dt.length:Int)+1})
 else(nC H { (eE ws).1 with num:=(H.dt.length:Int)+1},[100,111,110,101,32]++jG ((H.dt.length:Int)+1),0)
def Ct{H s}:Af H s=if 4096<s.length then(H,[],26)else if s=[]then(H,[],25)else
  match kW ((bJ 32 s).headD [])with
  |some q=>(H,nB H.now (bJ 32 s) q)
  |none=>
   match gT ((bJ 32 s).headD [])with
   |none=>(H,[],13)
   |some _=>ra H (bJ 32 s):=by
 unfold Af;by_cases h1:4096<s.length
 ·rw[X9 h1,X9 h1]
 rw[X5 h1,X5 h1];by_cases h2:s=[]
 ·rw[X9 h2,X9 h2]
 rw[X5 h2,X5 h2];cases kW ((bJ 32 s).headD [])with
 |some q=>rfl
 |none=>
  cases gT ((bJ 32 s).headD [])with
  |none=>rfl
  |some d=>
   simp only;unfold ra;cases (eE (bJ 32 s)).2<;>rfl
def IV(k:Nat):ai:=(fn43).body.dr k
def H6(k:Nat):ai:=(IV k).hd
def OZ:fn43=⟨97,2,[(4,none),(5,none)],.seq (H6 0) (.seq (H6 1) (.seq (H6 2) (.seq (H6 3) (.seq (H6 4) (.seq (H6 5) (IV 6))))))⟩:=rfl
section
variable {P:Program}(T:fI P) {B W:ah}{ts:TS}
include T
def L9{V b x}(he:Ext B W)(o:cI B.length W b V)(w:lQ V.bW)(hl:V.dt.length<1000)(ox:bt W x)(hxl:x.ev.names.length<=2^40/\x.ev.cE.length<=2^40)(gl:Gl B):
  dq P 112 [.ptr b 0,.agg x.row] W (λv k=>I4 B W b V x.ev v k):=by
 obtain⟨g,rfl⟩:=he;exact Ly T o w hl ox hxl gl
def OY{V b}(he:Ext B W)(o:cI B.length W b V)(w:lQ V.bW)(hl:V.dt.length<=1000)(gl:Gl B)(pw:Pw B)(Z:qq P){sv ws}(hs:aH W sv 1 (ws.map ao))(hwl:∀x∈ws,x.length<=2^40)
  (hlen:ts.length=97) (t0:slot ts 0=.ptr b 0) (t7:slot ts 7=sv):WC P bT (IV 6) [] ts W (FQ [(4,none),(5,none)] λv k=>mF B W b V (ra V.bW ws) v k):=by
 have Sg:=vh ws;have Uj:V.bW.dt.length=V.dt.length:=by simp[HV.bW]
 have lb:=@e9 _ _ _ o.hb;have TO:=o.rd.ie.aM;unfold IV fn43;simp only[ai.j,ai.s,ai.r,ai.dr,ai.tl,ai.hd];refine Rs (A2 t0 t7) ?_;refine WF.res T.c111 (r111 T Z hs hwl) ?_;rintro _ g1 ⟨x,hx,rfl,fn,fv⟩;have ox:bt (W++g1) x:=⟨fn.a8,fv.a8⟩;obtain⟨x',QV⟩:∃x':EV,x' =⟨{x.ev with num:=(V.dt.length:Int)+1},x.sn,x.sv⟩:=⟨_,rfl⟩;have hrow:x'.row=x.row.set 0 (.i ((V.dt.length:Int)+1)):=by rw[QV];rfl
 have Sz:x'.ev.num=(V.dt.length:Int)+1:=by rw[QV]
 have hev:({ (eE ws).1 with num:=(V.bW.dt.length:Int)+1}:gq)=x'.ev:=by rw[QV,hx,Uj]
 have VZ:bt (W++g1) x':=by rw[QV];exact⟨ox.n,ox.v⟩
 have QU:ra V.bW ws=if(eE ws).2=false then(V.bW,[],25)else if 1000<=V.dt.length then(V.bW,[],5)else if fU V.bW x'.ev≠0 then(V.bW,[],fU V.bW x'.ev)else(nC V.bW x'.ev,[100,111,110,101,32]++jG ((V.dt.length:Int)+1),0):=by
  unfold ra;rw[hev,Uj]
 have st:∀{b':Nat}{a0 a1 a2 a3 a4:AV},kg 5 0 (.agg x.row) b' (.b [a0,a1,a2,a3,a4])=some (az,.set b' (.b x.row)):=λ{_ _ _ _ _ _}=>ox.st
 have kV:∀{b':Nat},kg 1 0 (.i ((V.dt.length:Int)+1)) b' (.b x.row)=some (az,.set b' (.b x'.row)):=λ{b'}=>by
  rw[hrow];exact bY rfl (by show 0+1<=5;omega)
 have hpost:ra V.bW ws=ra V.bW ws:=rfl;generalize hfm:(eE ws).2=fm at QU ⊢;cases fm with
 |false=>
  refine Rs (A4 t0 t7 @st @Yr) ?_;refine WF.ce T.c85 (r85 T _ _) λg2=>?_
  refine Rs (A4 t0 t7 @lb @TO) ?_;refine WF.ce T.c85 (r85 T _ _) λg3=>?_
  refine Rs (A2 t0 t7) ?_;refine WF.ce T.c74 (r74 T (cg [_,_]) Si) λg4=>?_
  have e0:∀c,bj [bZ true 25,bZ c 5]=25:=λc=>by cases c<;>rfl
  have d0:decide ((25:Int)≠0)=true:=rfl;refine Rs (A3 t0 e0 @d0) ?_;exact mF.same o he Xx (by rw[QU];rfl)
 |true=>
  rw[X5 Si]at QU;refine Rs (A4 t0 t7 @st @Yk) ?_;refine WF.ce T.c85 (r85 T _ _) λg2=>?_
  refine Rs (A4 t0 t7 @lb @TO) ?_;refine WF.ce T.c85 (r85 T _ _) λg3=>?_
  refine Rs (A2 t0 t7) ?_;refine WF.ce T.c74 (r74 T (cg [_,_]) Si) λg4=>?_
  by_cases hk:1000<=V.dt.length
  ·have dk:decide ((1000:Int)<=(V.dt.length:Int))=true:=XZ Om;have e0:bj [bZ false 25,bZ true 5]=5:=rfl;have d0:decide ((5:Int)≠0)=true:=rfl;rw[X9 hk]at QU;refine Rs (A4 t0 @dk e0 @d0) ?_;exact mF.same o he Xx QU
  ·have dk:decide ((1000:Int)<=(V.dt.length:Int))=false:=XU Om;have e0:bj [bZ false 25,bZ false 5]=0:=rfl;have d0:decide ((0:Int)≠0)=false:=rfl;rw[X5 hk]at QU;have w1:IntKind.i64.wrap ((V.dt.length:Int)+1)=(V.dt.length:Int)+1:=bw Om Om;refine Rs (A9 t0 @dk e0 @d0 @lb @TO @w1 @kV @cA) ?_;obtain⟨Y,hY⟩:∃Y,Y=W++g1++[ak.b x'.row]++g2++g3++[ak.cells [.i (bZ false 25),.i (bZ false 5)] true true]++g4:=⟨_,rfl⟩;rw[<-hY];have Vf:Ext W Y:=by rw[hY];exact Xx
   have oY:cI B.length Y b V:=by obtain⟨z,hz⟩:=Vf;rw[hz];exact o.app z
   have oxY:bt Y x':=by rw[hY];exact VZ.ext Xx
   have m12:Y[(W++g1).length]? =some (.b x'.row):=by rw[hY];exact Ext.some (h:=W++g1++[ak.b x'.row]) Xx (by rw[X6 (X8 _),YY];rfl)
   refine WF.gen T.c112 (L9 T (he.trans Vf) oY w Om oxY ⟨by rw[QV];show x.ev.names.length<=_;rw[hx];omega,by rw[QV];show x.ev.cE.length<=_;rw[hx];omega⟩ gl) ?_;rintro _ _ ⟨g',V',rfl,rfl,Xd,VO,hkp,hexn⟩;have hYl:W.length<=Y.length:=by obtain⟨z,hz⟩:=Vf;rw[hz,XS];omega
   have hkW:∀i,i<W.length->some i∉V.ex b->(B++g')[i]? =W[i]? :=λi hi hn=>by
    rw[hkp i Om hn];obtain⟨z,hz⟩:=Vf;rw[hz,XW hi]
   have hexW:∀j,some j∈V'.ex b->some j∈V.ex b\/W.length<=j:=λj hj=>(hexn j hj).imp id λh=>by omega
   by_cases SU:fU V.bW x'.ev=0
   ·have d:decide (fU V.bW x'.ev≠0)=false:=XU (λz=>z SU);rw[X9 SU]at VO;rw[X5 (λz=>z SU)]at QU;have m12':(B++g')[(W++g1).length]? =some (.b x'.row):=by
     rw[hkp _ (XT.1 m12).1 (λhj=>by have:=o.Co hj;simp only[XS]at this;omega)];exact m12
    have l12:ar none (.ptr (W++g1).length 0) (λz=>(B++g')[z]?)=some (.i ((V.dt.length:Int)+1),.au):=by rw[aA m12',<-Sz];rfl
    refine Rs (A3 t0 @d @l12) ?_;refine WF.ce T.c113 (Z.itoa Om Om (pw.ext ⟨_,rfl⟩)) λg5=>?_
    have hdl:=mv (k:=7) (u:=((V.dt.length:Int)+1).toNat) Om;rw[gF Om];have hdl:(jG ((V.dt.length:Int)+1)).length<=8:=by rw[kC];exact hdl
    have hbc:([100,111,110,101,32] :By).length+(jG ((V.dt.length:Int)+1)).length<2^62:=by
     simp only[XX,X1];omega
    have bc:=jI hbc;refine Rs (A2 t0 @bc) ?_;exact⟨g'++g5,V',by rw[XV],by rw[QU],by rw[<-XV];exact Xd.app g5,by rw[QU,VO],λi hi hn=>by
     rw[<-XV,<-hkW i hi hn];have hil:i<(B++g').length:=by
      have e:=hkW i hi hn;rw[XY hi]at e;exact(XT.1 e).1
     exact XW hil,hexW⟩
   ·have d:decide (fU V.bW x'.ev≠0)=true:=XZ SU;rw[X5 SU]at VO;rw[X9 SU]at QU;refine Rs (A2 t0 @d) ?_;exact⟨g',V',rfl,by rw[QU],Xd,by rw[QU,VO],hkW,hexW⟩
end
def cI.ext{N h k b V}(o:cI N h b V)(e:Ext h k):cI N k b V:=by obtain⟨z,rfl⟩:=e;exact o.app z
def uj{b o}:pC Pz.xN (.ptr b o) .nilPtr=some false:=rfl
section
variable {P:Program}(T:fI P) {B g:ah}
include T
def Qy{V b}(o:cI B.length (B++g) b V)(w:lQ V.bW)(hl:V.dt.length<=1000)(gl:Gl B)(pw:Pw B)(X:CW P)(Z:qq P)(s:By)(hs:s.length<=2^36):
  dq P 43 [.ptr b 0,.str s] (B++g) (λv k=>mF B (B++g) b V (Af V.bW s) v k):=by
 refine .of T.mix (aaw T.c43 (Yx some OZ)) ?_;obtain⟨ts,QP⟩:∃ts,ts=aU 97 [.ptr b 0,.str s]:=⟨_,rfl⟩;have hlen:ts.length=97:=by rw[QP];rfl
 have t0:slot ts 0=.ptr b 0:=by rw[QP];rfl
 have t1:slot ts 1=.str s:=by rw[QP];rfl
 obtain⟨RR,RL⟩:∃RR,RR=IV 6:=⟨_,rfl⟩;show WC P bT _ [] (aU 97 [.ptr b 0,.str s]) (B++g) (FQ _ (λv k=>mF B (B++g) b V (Af V.bW s) v k));rw[<-QP,<-RL];clear QP;have he:Ext B (B++g):=⟨g,rfl⟩;obtain⟨W,hW⟩:∃W,W=B++g:=⟨_,rfl⟩;rw[<-hW]at o he ⊢;have eW:Ext W W:=Ext.refl W;have hregs:V.cU.length<=1000:=by
  have e1:=w.ln;have e2:=w.le;exact z116
 have SB:=Ct (H:=V.bW) (s:=s);unfold H6 IV fn43;simp only[ai.j,ai.s,ai.r,ai.dr,ai.tl,ai.hd];refine Rs (A3 t0 t1 @uj) ?_;refine WF.ce T.c85 (r85 T _ _) λg1=>?_
 refine Rs (A2 t0 t1) ?_;refine WF.ce T.c85 (r85 T _ _) λg2=>?_
 refine Rs (A2 t0 t1) ?_;refine WF.ce T.c74 (r74 T (cg [_,_]) Si) λg3=>?_
 by_cases h1:4096<s.length
 ·have d1:decide ((4096:Int)<(s.length:Int))=true:=XZ Om;have e0:∀c,bj [bZ true 26,bZ c 25]=26:=λc=>by cases c<;>rfl
  have d0:decide ((26:Int)≠0)=true:=rfl;rw[X9 h1]at SB;refine Rs (A5 t0 t1 @d1 e0 @d0) ?_;exact mF.same o he Xx SB
 have d1:decide ((4096:Int)<(s.length:Int))=false:=XU Om;rw[X5 h1]at SB;by_cases h2:s=[]
 ·have d2:decide (s=[])=true:=XZ h2;have e0:bj [bZ false 26,bZ true 25]=25:=rfl;have d0:decide ((25:Int)≠0)=true:=rfl;rw[X9 h2]at SB;refine Rs (A6 t0 t1 @d1 @d2 e0 @d0) ?_;exact mF.same o he Xx SB
 have d2:decide (s=[])=false:=XU h2;rw[X5 h2]at SB;have e0:bj [bZ false 26,bZ false 25]=0:=rfl;have d0:decide ((0:Int)≠0)=false:=rfl;refine Rs (A6 t0 t1 @d1 @d2 e0 @d0) ?_;refine WF.res T.c64 (r64 T X s 32 Om) ?_;intro sv g4 hv;have hwl:=sQ (c:=32) (s:=s) (n:=2^40) Om;have hwn:(bJ 32 s).length<=s.length+1:=by
  rw[qU];have:=List.count_le_length (a:=(32:UInt8)) (l:=s);omega
 have hne:0<(bJ 32 s).length:=ZR.2 jS;obtain⟨ws,Up⟩:∃ws,ws=bJ 32 s:=⟨_,rfl⟩;rw[<-Up]at hv hwl hwn hne SB;have Xj:ws[0]=ws.headD []:=by
  clear hv hwl hwn SB Up;cases ws with|nil=>simp at hne|cons a r=>rfl
 obtain⟨Y,hY⟩:∃Y,Y=W++g1++g2++[ak.cells [.i (bZ false 26),.i (bZ false 25)] true true]++g3++g4:=⟨_,rfl⟩;rw[<-hY]at hv ⊢;have Vf:Ext W Y:=by rw[hY];exact Xx
 have oY:cI B.length Y b V:=o.ext Vf;have eB:=he.trans Vf;have qz:=hv.qz (kk:=.i64) hne;have ld0:∀{k:ah},Ext Y k->ar none (cW sv 1 0) (λb=>k[b]?)=some (.str (ws.headD []),.au):=λ{k} e=>by rw[<-Xj];exact hv.kS (i:=0) hne rfl e
 clear o he;refine Rs (A2 t0 t1) ?_;refine WF.res T.c109 (r109 T) ?_;rintro _ g5 ⟨rfl,hg⟩;have hg:g5=[.bo BN]:=ZL hg;subst hg;have lk:∀{z:AV},iA .s z true (.map Y.length) (.str (ws.headD [])) (λb=>(Y++[ak.bo BN])[b]?)=lG z true ((kW (ws.headD [])).map ju):=B4 (by rw[X6 (X8 _),YY];rfl);cases hq:kW (ws.headD [])with
 |some q=>
  obtain⟨i,nm,wt⟩:=q;rw[hq]at lk SB;have Rp:∀{z:AV},_=some (AV.dN [.agg [.bool nm,.i (wt:Nat),.func (.func (qF i)) [] []],.bool true],iH.au):=@lk;refine Rs (A7 t0 t1 @qz @ld0 @bX @Rp @iF) ?_;refine WF.ce T.c110 (r110 T (oY.rd.ext Xx) w hregs Z (pw.ext (eB.trans Xx)) (hv.ext Xx) hne Om hq) λg6=>?_
  refine Rs t0 ?_;exact(mF.same oY eB Xx SB).low Vf
 |none=>
  rw[hq]at lk SB;have Rp:∀{z:AV},_=some (AV.dN [z,.bool false],iH.au):=@lk;refine Rs (A7 t0 t1 @qz @ld0 @bX @Rp @iF) ?_;clear lk Rp;refine WF.res T.c90 (r90 T) ?_;rintro _ g6 ⟨vf,rfl,hk⟩;obtain⟨Y2,Tj⟩:∃Y2,Y2=Y++[ak.bo BN]++[ak.b [.bool false,.i 0,.nilFunc]]:=⟨_,rfl⟩;rw[<-Tj]at hk ⊢;have TI:Ext Y Y2:=by rw[Tj];exact Xx
  have ld2:∀{k:ah},Ext Y2 k->ar none (cW sv 1 0) (λb=>k[b]?)=some (.str (ws.headD []),.au):=λ{k} e=>ld0 (TI.trans e)
  have lk:∀{z:AV},iA .s z true (.map Y2.length) (.str (ws.headD [])) (λb=>(Y2++g6)[b]?)=lG z true ((gT (ws.headD [])).map vf):=hk.look;cases hd:gT (ws.headD [])with
  |none=>
   rw[hd]at lk SB;have Rp:∀{z:AV},_=some (AV.dN [z,.bool false],iH.au):=@lk;refine Rs (A8 t0 t1 @qz @ld2 @bX @Rp @iF @Yr) ?_;exact(mF.same oY eB (TI.trans Xx) SB).low Vf
  |some d=>
   rw[hd]at lk SB;have Rp:∀{z:AV},_=some (AV.dN [vf d,.bool true],iH.au):=@lk;obtain⟨rs,a,hvf,hr,ha,hab⟩:=(hk.k d).ex;rw[hvf]at Rp;have c1:=ml d;have c2:=lI d;have c3:=hr.one;refine Rs (pa t0 t1 @qz @ld2 @bX @Rp @Yk @c1 @c2 @c3 @ha) ?_;have SB:Af V.bW s=ra V.bW ws:=SB;rw[RL,SB];refine WC.FX (OY T (eB.trans (TI.trans Xx)) (oY.ext (TI.trans Xx)) w hl gl pw Z (hv.ext (TI.trans Xx)) hwl (Sq t0) (Sq t0) (Sq t0)) ?_;rintro e ts' h' ⟨q1,v,q2,q3⟩;exact⟨q1,v,q2,mF.low q3 (Vf.trans (TI.trans Xx))⟩
end
def V0:HV:=⟨[],[],[],.af,.af,.af⟩
def Mh{h}:cI h.length (h++[.b [.af,.af,.af]]) h.length V0:=
 ⟨X8 _,by rw[X6 (X8 _),YY];rfl,.nil,.nil,.nil,rH.2 ⟨λ_ _=>⟨by simp[sB,V0],by simp[sB,V0],by simp[sB,V0]⟩,λ_ z=>by simp[sB,V0]at z,λ_ z=>by simp[sB,V0]at z⟩,
  λx hx=>(by cases hx),λx hx=>(by cases hx),λx hx=>(by cases hx),λx hx=>(by cases hx)⟩
def Mi{b}:∀j,some j∈V0.ex b->j=b:=λj hj=>by
 simp only[HV.ex,V0,sB,YA,YT,Zz,Yq,reduceCtorEq]at hj;exact hj
def GG{H ws}(w:lQ H):lQ (ra H ws).1/\(ra H ws).1.dt.length<=H.dt.length+1:=by
 unfold ra;split
 ·exact⟨w,aau _⟩
 split
 ·exact⟨w,aau _⟩
 split
 ·exact⟨w,aau _⟩
 ·rename_i h;exact⟨w.add (Zq.1 h),by rw[wA];omega⟩
def JY{H s}(w:lQ H):lQ (Af H s).1/\(Af H s).1.dt.length<=H.dt.length+1:=by
 rw[Ct];split
 ·exact⟨w,aau _⟩
 split
 ·exact⟨w,aau _⟩
 split
 ·exact⟨w,aau _⟩
 split
 ·exact⟨w,aau _⟩
 exact GG w
def sZ(x:By×By×Int):List AV:=[.str x.1,.str x.2.1,.i x.2.2]
def mL:kI->List (By×By×Int)->Option kI
 |H,[]=>some H
 |H,x::r=>if(Af H x.1).2.1=x.2.1/\(Af H x.1).2.2=x.2.2 then mL (Af H x.1).1 r else none
section
variable {P:Program}(T:fI P) {h:ah}
include T
def r70:ay P 70 [] h (λv h'=>v=.ptr h.length 0/\h' =h++[.b [.af,.af,.af]]):=by
 refine .of T.mix T.c70 ?_;unfold fn70;exact Wn Tv
def r44{V b}(o:zi h b V)(w:lQ V.bW)(hl:V.dt.length<=1000):
  ay P 44 [.ptr b 0] h (λv h'=>∃L':List EV,L'.map EV.ev=V.bW.dt/\fo h' L' v):=by
 refine .kV 11 T.mix T.c44 ?_;intro ts hlen t0;unfold fn44;have lb:=@e9 _ _ _ o.hb;refine Rs (A3 t0 @uj @lb) ?_;refine WF.res T.c87 (r87 T ⟨o.ie,o.ae⟩ Om (λx hx=>by
  obtain⟨d,we⟩:=w.ev x.ev (Ym hx);have h3:(bM d).length<=3/\cF d<=3:=by cases d<;>decide
  have:=we.nl;have:=we.vl;exact⟨Om,Om⟩)) ?_
 rintro v g ⟨L',hL,hf,hx⟩;refine Rs t0 ?_;exact⟨L',hL,hf.a8,λx QV=>(hx x QV).ok⟩
end
def HC(d:Kd):(bA d).length<=16:=by cases d<;>decide
def Cq{e d}(we:kT e d):Py e/\(iN e).length<=520:=by
 have h3:(bM d).length<=3/\cF d<=3:=by cases d<;>decide
 have h1:=we.nl;have h2:=we.vl;have h4:=we.nu;have dl:∀{y:Int},0<=y->y<=999999999->(jG y).length<=64:=λ{y} h0 h1=>by have:=mv (k:=9) (u:=y.toNat) Om;rw[kC];omega
 have hb:(iN e).length<=520:=by
  have hj:=pA (c:=32) (l:=wq e) λx hx=>by
   unfold wq at hx;simp only[X3,YA,YT,Zz,Ys]at hx;rcases hx with((rfl|rfl)|hx)|⟨y,hy,rfl⟩
   ·exact Da
   ·have:=HC d;rw[cC we.kd];omega
   ·have:=vu (we.nm x hx);omega
   ·have:=we.vr y hy;exact dl Om Om
  have hl:(wq e).length<=8:=by
   unfold wq;simp only[XS,XX,X1,X2];omega
  unfold iN;omega
 exact⟨⟨Om,λx hx=>by have:=we.vr x hx;omega,Om,Om,Om⟩,hb⟩
section
variable {P:Program}(T:fI P) {h:ah}
include T
def r45(Z:qq P)(pw:Pw h){V b}(o:zi h b V)(w:lQ V.bW)(hl:V.dt.length<=1000):
  ay P 45 [.ptr b 0] h (λv _=>v=.str (vB V.bW.dt)):=by
 refine .kV 12 T.mix T.c45 ?_;intro ts hlen t0;unfold fn45;have lb:=@e9 _ _ _ o.hb;refine Rs (A3 t0 @uj @lb) ?_;refine WF.res T.c115 (r115 T o.ie (λx hx=>⟨(o.ae x hx).n.one,(o.ae x hx).v.one⟩) Om (λx=>vg x.ev) (λx hx k e=>by
  obtain⟨d,we⟩:=w.ev x.ev (Ym hx);exact bF.of (a:=[]) (c:=[]) T.c97 (r97 T Z ((o.ae x hx).ext e) (Cq we).1 (pw.ext e)))) ?_
 rintro v g hf;refine Rs t0 ?_;have Rn:(V.dt.map λx=>vg x.ev).flatten.length<=V.dt.length*529:=by
  have:∀L:List EV,(∀x∈L,(vg x.ev).length<=529)->(L.map λx=>vg x.ev).flatten.length<=L.length*529:=by
   intro L
   induction L with
   |nil=>intro _;simp
   |cons x r ih=>
    intro hx;have h1:=ih λy hy=>hx y (YB _ hy)
    have h2:=hx x Si;rw[YR,Za,XS,XX,Zf];omega
  refine this _ λx hx=>?_
  obtain⟨d,we⟩:=w.ev x.ev (Ym hx);have:=(Cq we).2;rw[BK T Z];omega
 refine WF.ce T.c114 (Z.join hf.a8 ⟨by rw[Cb];omega,by rw[X2];omega⟩) λg2=>?_
 refine Rs t0 ?_;rw[Cb,vB,HV.bW,ZD];rfl
end
section
variable {P:Program}(T:fI P) {B:ah}
include T
def OX{W V b}(he:Ext B W)(o:cI B.length W b V)(w:lQ V.bW)(hl:V.dt.length<=1000)(gl:Gl B)(pw:Pw B)(X:CW P)(Z:qq P)(s:By)(hs:s.length<=2^36):
  dq P 43 [.ptr b 0,.str s] W (λv k=>mF B W b V (Af V.bW s) v k):=by
 obtain⟨g,rfl⟩:=he;exact Qy T o w hl gl pw X Z s hs
omit T in
theorem Dr{h k s es cs}(hs:aH h s es cs)(hk:∀j,sB s=some j->j<h.length->k[j]? =h[j]?):aH k s es cs:=by
 cases hs with
 |nil=>exact .nil
 |mk hb hf ho he=>
  have:=hk _ rfl (XT.1 hb).1;exact .mk (this.trans hb) hf ho he
omit T in
theorem Ke{h s es cs}(hs:aH h s es cs){j}(hj:sB s=some j):j<h.length:=by
 cases hs with
 |nil=>cases hj
 |mk hb _ _ _=>cases hj;exact(XT.1 hb).1
def Qx{g V b}(o:cI B.length (B++g) b V)(w:lQ V.bW)(gl:Gl B)(pw:Pw B)(X:CW P)(Z:qq P){s L}(hs:aH (B++g) s 3 (L.map sZ))(hns:∀j,sB s=some j->some j∉V.ex b)
  (hlL:V.dt.length+L.length<=1000) (bW:∀x∈L,x.1.length<=2^36) {H'}(ha:mL V.bW L=some H'):
  dq P 71 [.ptr b 0,s] (B++g) (λv k=>v=.bool true/\∃g' V',k=B++g'/\cI B.length (B++g') b V'/\V'.bW=H'/\lQ V'.bW/\V'.dt.length<=1000):=by
 refine .eG 35 T.mix T.c71 ?_;intro ts hlen t0 t1;unfold fn71;refine Rs (A4 t0 t1 @uj hs.aM) ?_;refine WL.inv T.mix (λn ts h'=>∃(k:Nat) (V':HV) (g':ah),k<=L.length/\n=L.length-k/\h' =B++g'/\cI B.length (B++g') b V'/\lQ V'.bW/\V'.dt.length<=V.dt.length+k/\mL V'.bW (L.drop k)=some H'/\aH (B++g') s 3 (L.map sZ)/\(∀j,sB s=some j->some j∉V'.ex b)/\
   ts.length=35/\slot ts 0=.ptr b 0/\slot ts 11=s/\slot ts 12=.i L.length/\slot ts 13=.i k) L.length
  ⟨0,V,g,Om,rfl,rfl,o,w,Om,ha,hs,hns,Sn,(Sq t0),(Sq t1),(Sq t0),iQ⟩ ?_
 clear t0 t1 hlen o w hs hns ha;clear ts;rintro _ ts _ ⟨k,V',g',hk,rfl,rfl,o,w,hVl,ha,hs,hns,hlen,t0,t11,t12,t13⟩;by_cases hlt:k<L.length
 ·have e3:=fF hlt;have e5:=wrapN (n:=k) Om;have ix:=hs.dM (kk:=.i64) hlt;have ld:∀{k'},Ext (B++g') k'->ar (some 3) (cW s 3 k) (λb=>k'[b]?)=some (.agg (sZ L[k]),.au):=λ{k'} e=>hs.kR hlt e
  obtain⟨⟨a,m,c⟩,hx⟩:∃x,x=L[k]:=⟨_,rfl⟩;have hm:(a,m,c)∈L:=by rw[hx];exact Ya _
  have hd:L.drop k=(a,m,c)::L.drop (k+1):=by rw[hx];simp
  rw[<-hx]at ld;unfold sZ at ld;rw[hd,mL]at ha;split at ha
  case isFalse=>cases ha
  case isTrue hc=>
  have hc1:(Af V'.bW a).2.1=m:=hc.1;have XM:(Af V'.bW a).2.2=c:=hc.2;have hwd:=JY (s:=a) w;obtain⟨W,hW⟩:∃W,W=B++g'++[ak.b [.str a,.str m,.i c]]:=⟨_,rfl⟩;have eW:Ext (B++g') W:=by rw[hW];exact Xx
  have mW:W[(B++g').length]? =some (.b [.str a,.str m,.i c]):=by rw[hW,X6 (X8 _),YY];rfl
  have lW:∀{kk:ah}{n':Option Nat}{q:Nat},kk[(B++g').length]? =some (.b [.str a,.str m,.i c])->ar n' (.ptr (B++g').length q) (λz=>kk[z]?)=dJ n' q (.b [.str a,.str m,.i c]):=λe=>aA e
  refine Rs (A7 t0 t11 t12 t13 e3 ix @ld) ?_;rw[<-hW];have lW1:=λ{n':Option Nat}{q:Nat}=>@lW W n' q mW
  refine Rs (A5 t0 t11 t12 t13 @lW1) ?_;refine WF.gen T.c43 (OX T ((Ext.app _ (Ext.refl _):Ext B (B++g')).trans eW) (o.ext eW) w Om gl pw X Z a (bW _ hm)) ?_;rintro _ _ ⟨g2,V2,rfl,rfl,o2,hV2,hkp,hex⟩;have hWl:W.length=(B++g').length+1:=by rw[hW,XS];rfl
  have m2:(B++g2)[(B++g').length]? =some (.b [.str a,.str m,.i c]):=by
   rw[hkp _ Om (λhj=>by have:=o.Co hj;omega)];exact mW
  have lW2:=λ{n':Option Nat}{q:Nat}=>@lW (B++g2) n' q m2
  have d1:decide (m≠m)=false:=XU (λz=>z rfl);have d2:decide (c≠c)=false:=XU (λz=>z rfl);rw[hc1,XM];refine Rs (A8 t0 t11 t12 t13 @lW2 @d1 @d2 e5) ?_;have hsW:=hs.ext eW;refine⟨L.length-(k+1),Om,k+1,V2,g2,Om,rfl,rfl,o2,by rw[hV2];exact hwd.1,?_,by rw[hV2];exact ha,Dr hsW λj hj hl=>hkp j hl (hns j hj),λj hj hx=>?_,rfl⟩
  ·have e1:V2.dt.length=V2.bW.dt.length:=by simp[HV.bW]
   have e2:V'.dt.length=V'.bW.dt.length:=by simp[HV.bW]
   have:=hwd.2;rw[<-hV2]at this;omega
  ·rcases hex j hx with hx|hx
   ·exact hns j hj hx
   ·have:=Ke hs hj;omega
 ·have e3:=gK hlt;have e4:k=L.length:=Om
  rw[e4,YS,mL]at ha;cases ha;refine Rs (A5 t0 t11 t12 t13 e3) ?_;exact⟨g',V',rfl,o,rfl,w,Om⟩
end
def IY:List (By×By×Int):=[
 ([116,97,112,101,32,97,32,49,32,49,48],[100,111,110,101,32,49],0),
 ([116,97,112,101,32,98,32,53,32,49,48,48],[100,111,110,101,32,50],0),
 ([108,105,110,101,32,108,49,32,53,32,50],[100,111,110,101,32,51],0),
 ([115,104,111,116,32,115,49,32,108,49,32,97,32,54],[100,111,110,101,32,52],0),
 ([115,104,111,116,32,115,50,32,108,49,32,98,32,55],[100,111,110,101,32,53],0),
 ([99,111,112,121,32,97,32,98,32,56],[100,111,110,101,32,54],0),
 ([116,97,112,101,115,32,115,49],[97,32,98],0),
 ([99,111,112,121,32,97,32,98,32,49,50],[],30),
 ([119,97,110,116,32,108,49],[50,32,50,32,111,112,101,110],0),
 ([97,99,99,101,112,116,32,108,49,32,57],[100,111,110,101,32,55],0),
 ([115,104,111,116,32,115,51,32,108,49,32,98,32,57],[],23),
 ([115,111,117,114,99,101,32,109,49,32,108,49,32,57],[100,111,110,101,32,56],0),
 ([109,111,100,117,108,101,32,109,50,32,109,49,32,57,32,50],[100,111,110,101,32,57],0),
 ([109,111,100,117,108,101,32,109,51,32,109,50,32,57,32,51],[100,111,110,101,32,49,48],0),
 ([109,111,100,117,108,101,32,109,52,32,109,49,32,57,32,51],[],2),
 ([109,101,114,103,101,32,109,52,32,109,49,32,109,50,32,57],[],2),
 ([114,117,110,32,106,49,32,109,51,32,49,48,32,51],[100,111,110,101,32,49,49],0),
 ([116,105,108,101,32,106,49,32,49,48,32,50,32,55],[100,111,110,101,32,49,50],0),
 ([116,105,108,101,32,106,49,32,49,48,32,48,32,53],[100,111,110,101,32,49,51],0),
 ([108,101,102,116,32,106,49],[49],0),
 ([102,97,105,108,32,106,49,32,49,49,32,50],[100,111,110,101,32,49,52],0),
 ([108,101,102,116,32,106,49],[49,32,50],0),
 ([112,105,99,116,117,114,101,32,112,49,32,106,49,32,49,49],[],32),
 ([116,105,108,101,32,106,49,32,49,49,32,49,32,54],[100,111,110,101,32,49,53],0),
 ([116,105,108,101,32,106,49,32,49,49,32,50,32,55],[100,111,110,101,32,49,54],0),
 ([112,105,99,116,117,114,101,32,112,49,32,106,49,32,49,50],[100,111,110,101,32,49,55],0),
 ([102,114,111,109,32,112,49],[115,49,32,115,50],0),
 ([108,105,110,101,115,32,109,51],[108,49],0),
 ([117,110,115,97,102,101],[110,111,110,101],0),
 ([114,101,108,101,97,115,101,32,112,49,32,49,50],[100,111,110,101,32,49,56],0),
 ([117,110,100,111],[],21),
 ([114,101,108,101,97,115,101,100],[112,49,32,53,50,57,49,55,52],0)]
def uJ:kI:=(mL kI.zero IY).getD kI.zero
set_option maxRecDepth 100000 in
def LW:(mL kI.zero IY).isSome=true:=by decide+kernel
set_option maxRecDepth 100000 in
def Ij:uJ.dt.length=18:=by decide+kernel
set_option maxRecDepth 100000 in
def CJ:uZ (uJ.dt.take 5) [115,49] 12=(false,0):=by decide+kernel
set_option maxRecDepth 100000 in
def CI:uZ uJ.dt [115,49] 105=(true,0):=by decide+kernel
set_option maxRecDepth 100000 in
def Ie:qv uJ.dt 106=([[115,49],[115,50]],0):=by decide+kernel
set_option maxRecDepth 100000 in
def EU:jV uJ.dt [109,51]=([[109,49],[109,50],[109,51]],0):=by decide+kernel
set_option maxRecDepth 100000 in
def Ik:Eo [5,6,7]=(529174,0):=by decide+kernel
set_option maxRecDepth 100000 in
def wv:(mR uJ.dt [108,49]).1.length=8/\(mR uJ.dt [108,49]).2=0:=by decide+kernel
set_option maxRecDepth 100000 in
def Ii:(vB uJ.dt).length<=100000:=by decide+kernel
set_option maxRecDepth 100000 in
def Ih:(lB (vB uJ.dt++[49])).2.2=28/\(lB (vB uJ.dt++[49])).1.length=18/\(lB (vB uJ.dt++[49])).2.1=(vB uJ.dt).length:=by decide+kernel
set_option maxRecDepth 100000 in
def Ig:nG [49,49]=[48,49,51,49,53,56,49]:=by decide+kernel
def y5{h c N}:mK .IW (.slice h.length 0 1 1) (λb=>(h++[ak.cells [.int .u8 c] true true])[b]?) N=some (.str [UInt8.ofNat c.toNat],.au):=by
 simp only[mK,ff,Yf,bh];rfl
def y0{n}(h0:0<=n)(h1:n<10):UInt8.ofNat (IntKind.u8.wrap (IntKind.i64.wrap (48+n))).toNat=UInt8.ofNat (48+n.toNat):=by
 rw[bw Om Om,GF Om Om];congr 1;omega
section
variable {P:Program}(T:fI P)
include T
set_option maxRecDepth 10000 in
def r197:∀{k}{n}{h},0<=n->n<10^(k+1)->k<=15->ay P 197 [.i n] h (λv _=>v=.str (jG n)):=by
 intro k
 induction k with
 |zero=>
  intro n h h0 h1 _;refine .of T.mix T.c197 ?_;unfold fn197;have h10:n<10:=by simpa using h1
  have d0:decide (n<0)=false:=XU Om;exact PB
 |succ k ih=>
  intro n h h0 h1 hk;refine .of T.mix T.c197 ?_;unfold fn197;have d0:decide (n<0)=false:=XU Om;by_cases h10:n<10
  ·exact PB
  ·have d1:decide (n<10)=false:=XU h10;have hb:n<=10^17:=by
    have:(10:Int)^(k+1+1)<=10^17:=by
     have:=Nat.pow_le_pow_right (n:=10) De (show k+1+1<=17 by omega)
     exact_mod_cast this
    omega
   have eq:n.tdiv 10=n / 10:=Int.tdiv_eq_ediv_of_nonneg h0;have em:n.tmod 10=n%10:=Int.tmod_eq_emod_of_nonneg h0;have w1:IntKind.i64.wrap (n / 10)=n / 10:=bw Om Om;have bq:ez .quo (.i n) (.i 10)=some (.i (n / 10)):=by rw[EG De,eq,w1]
   have bm:ez .rem (.i n) (.i 10)=some (.i (n%10)):=by rw[oA De,em]
   refine Ws (A4 @d0 @d1 @bq @bm) ?_;refine WF.ce T.c197 (ih Om (by rw[Int.pow_succ]at h1;omega) Om) λg1=>?_
   have hd:=mv (k:=k) (u:=(n / 10).toNat) (by
    have h2:n / 10<10^(k+1):=by rw[Int.pow_succ]at h1;omega
    have h3:(((n / 10).toNat:Nat):Int)<((10^(k+1):Nat):Int):=by rw[Int.toNat_of_nonneg Om];exact_mod_cast h2
    exact_mod_cast h3)
   have bc:∀{c:UInt8},ez .add (.str (jG (n / 10))) (.str [c])=some (.str (jG (n / 10)++[c])):=jI (by rw[kC];simp;omega);refine Ws (A5 @bq @bm @uE @y5 @bc) ?_;rw[y0 Om Om,kC,kC,Lib.decDigits.eq_def n.toNat,dif_neg Om];congr 3
   ·omega
   ·congr 2;omega
def r108{k n h}(h0:0<=n)(h1:n<10^(k+1))(hk:k<=15):ay P 108 [.i n] h (λv _=>v=.str (jG n)):=by
 refine .of T.mix T.c108 ?_;unfold fn108 Bd;refine Wn ?_;refine WF.ce T.c197 (r197 T h0 h1 hk) λg=>?_
 exact Wn Tv
set_option maxRecDepth 10000 in
def r72{h}(s:By)(hs:s.length<=2^40):ay P 72 [.str s] h (λv _=>v=.str (nG s)):=by
 refine .kV 28 T.mix T.c72 ?_;intro ts hlen t0;unfold fn72;refine Rs t0 ?_;refine WL.inv T.mix (λn ts' h'=>∃k:Nat,k<=s.length/\n=s.length-k/\h' =h/\ts'.length=28/\slot ts' 0=.str s/\slot ts' 3=.i (iE (s.take k))/\slot ts' 4=.i k) s.length
  ⟨0,Om,rfl,rfl,(Sq t0),(Sq t0),iQ,iQ⟩ ?_
 rintro _ ts' hz ⟨k,hk,rfl,hh,R4,u0,u3,u4⟩;rw[hh];clear hh hz;clear hlen t0;have hlen:=R4;clear R4;by_cases hlt:k<s.length
 ·have e3:=fF hlt;have hb:=nH (s.take k);have hcn:=UInt8.toNat_lt s[k];have w1:IntKind.i64.wrap (339*iE (s.take k))=339*iE (s.take k):=bw Om Om;have w2:IntKind.i64.wrap (s[k].toNat:Int)=(s[k].toNat:Int):=bw Om Om;have w3:IntKind.i64.wrap (339*iE (s.take k)+(s[k].toNat:Int))=339*iE (s.take k)+(s[k].toNat:Int):=bw Om Om;have er:=oA (k:=.i64) (a:=339*iE (s.take k)+(s[k].toNat:Int)) (b:=9999749) De;rw[<-uR,<-mQ hlt]at er
  repeat (first|simp (config:={maxSteps:=1000000}) only[aQ,aT,ba,bd,reduceAdd,reduceMul,reduceLeDiff,reduceEqDiff,bg,hlen,Yb,Yf,u0,u3,u4,e3,jL hlt,w1,w2,w3,er,wrapN (show k+1<2^63 by omega)]|simp (config:={maxSteps:=1000000}) (disch:=first|(simp only[XS,XX,X1]<;>omega)|rfl|omega|fail) only[eo,aQ,aT,ba,bd,reduceAdd,reduceMul,reduceLeDiff,reduceEqDiff,bg,hlen,Yb,Yf,u0,u3,u4,e3,jL hlt,w1,w2,w3,er,wrapN (show k+1<2^63 by omega)])
  exact z173
 ·have e3:=gK hlt;have ek:k=s.length:=Om
  rw[ek,Yz]at u3;have hb:=nH s;have hl:=tN s;refine Rs (A4 @u0 @u3 @u4 e3) ?_;refine WF.ce T.c108 (r108 T (k:=7) hb.1 Om Om) λg=>?_
  refine Rs @u0 ?_;generalize hd:jG (iE s)=d at hl;have hT:nG s=List.replicate (7-d.length) 48++d:=by unfold nG;rw[hd]
  refine WL.inv T.mix (λn ts' h'=>∃j:Nat,d.length+j<=7/\n=7-(d.length+j)/\Ext h h'/\ts'.length=28/\slot ts' 5=.str (List.replicate j 48++d)) (7-d.length)
   ⟨0,Om,rfl,Xx,(Sq @u0),iQ⟩ ?_
  rintro _ T7 _ ⟨j,hj,rfl,⟨g2,rfl⟩,UG,v5⟩;clear hlen;have hlen:=UG;by_cases h7:d.length+j<7
  ·have e7:decide (((List.replicate j (48:UInt8)++d).length:Int)<7)=true:=XZ (by rw[XS,Y6];omega);have hbc:([48] :By).length+(List.replicate j (48:UInt8)++d).length<2^62:=by rw[XS,Y6];simp only[XX,X1];omega
   have bc:=jI hbc;refine Rs (A3 @v5 e7 @bc) ?_;exact⟨7-(d.length+(j+1)),Om,j+1,Om,rfl,rfl⟩
  ·have e7:decide (((List.replicate j (48:UInt8)++d).length:Int)<7)=false:=XU (by rw[XS,Y6];omega);have ej:j=7-d.length:=Om
   refine Rs (A2 @v5 e7) ?_;rw[hT,ej]
end
def IX(k:Nat):ai:=(fn15).body.dr k
def ES(k:Nat):ai:=(IX k).hd
def LV:fn15=⟨158,0,[(0,none)],.seq (ES 0) (.seq (ES 1) (.seq (ES 2) (IX 3)))⟩:=rfl
def vK{h:ah}{M:List (By)}:aH (h++[ak.cells (M.map ao).flatten true true]) (.slice h.length 0 (M.map ao).length 1) 1 (M.map ao):=(Fr.push (es:=1) (N:=0) (Yt _) (M.map ao) (by simp[ao])).a8
section
variable {P:Program}(T:fI P) {h:ah}
include T
omit T in
theorem ET:mL kI.zero IY=some uJ:=by
 have:=LW;unfold uJ;generalize mL kI.zero IY=o at this ⊢;cases o with
 |none=>cases this
 |some x=>rfl
def L0{B W V b}(he:Ext B W)(o:cI B.length W b V)(w:lQ V.bW)(gl:Gl B)(pw:Pw B)(X:CW P)(Z:qq P){s L}(hs:aH W s 3 (L.map sZ))(hns:∀j,sB s=some j->some j∉V.ex b)
  (hlL:V.dt.length+L.length<=1000) (bW:∀x∈L,x.1.length<=2^36) {H'}(ha:mL V.bW L=some H'):
  dq P 71 [.ptr b 0,s] W (λv k=>v=.bool true/\∃g' V',k=B++g'/\cI B.length (B++g') b V'/\V'.bW=H'/\lQ V'.bW/\V'.dt.length<=1000):=by
 obtain⟨g,rfl⟩:=he;exact Qx T o w gl pw X Z hs hns hlL bW ha
def Pc(X:CW P)(Z:qq P){W:ah}(gl:Gl W)(pw:Pw W){V:HV}{b:Nat}(o:zi W b V)(w:lQ V.bW)(hl:V.dt.length<=1000)(hV:V.bW=uJ){ts:TS}(hlen:ts.length=158)(t1:slot ts 1=.ptr b 0)(he:Ext h W):
  WC P bT (IX 3) [] ts W (FQ [(0,none)] λv k=>Ext h k/\v=.bool true):=by
 unfold IX fn15;simp only[ai.j,ai.s,ai.r,ai.dr,ai.tl,ai.hd];refine Rs t1 ?_;refine WF.res T.c44 (r44 T o w hl) ?_;rintro sv g1 ⟨L,hL,oL⟩;rw[hV]at hL;have VQ:L.length=18:=by have:=Yx List.length hL;rw[X2,Ij]at this;exact this
 have hsh:∀x∈L,x.ev.names.length<=2^30/\x.ev.cE.length<=2^30:=λx hx=>by
  obtain⟨d,we⟩:=w.ev x.ev (by rw[hV,<-hL];exact Ym hx);have h3:(bM d).length<=3/\cF d<=3:=by cases d<;>decide
  have:=we.nl;have:=we.vl;exact⟨Om,Om⟩
 have sh:yh L:=⟨Om,hsh⟩;have d18:decide ((L.length:Int)≠18)=false:=XU (λz=>z Om);obtain⟨s5,e5,h5⟩:=oL.sl.FG (lo:=none) (hi:=some (.i 5)) (l:=0) (u:=5) (jH (k:=5) Om);have h5':aH (W++g1) s5 5 ((L.take 5).map EV.row):=h5;have o5:fo (W++g1) (L.take 5) s5:=⟨h5',λx hx=>oL.all x (Y5 hx)⟩;have sh5:yh (L.take 5):=⟨by rw[YQ];omega,λx hx=>hsh x (Y5 hx)⟩;have m5:(L.take 5).map EV.ev=uJ.dt.take 5:=by rw[List.map_take,hL]
 refine Rs (A4 t1 oL.sl.aM @d18 e5) ?_;refine WF.ce T.c16 (r16 T o5 sh5 (gl.ext Xx) [115,49] 12) λg2=>?_
 rw[m5,CJ];refine Rs t1 ?_;refine WF.ce T.c16 (r16 T (oL.ext Xx) sh (gl.ext Xx) [115,49] 105) λg3=>?_
 rw[hL,CI];refine Rs t1 ?_;refine WF.res T.c17 (r17 T (oL.ext Xx) sh (gl.ext Xx) 106) ?_;rintro _ g4 ⟨su,rfl,hu⟩;rw[hL,Ie]at hu ⊢;refine Rs t1 ?_;refine WF.res T.c51 (r51 T (oL.ext Xx) sh (gl.ext Xx) [109,51]) ?_;rintro _ g5 ⟨sn,rfl,hn⟩;rw[hL,EU]at hn ⊢;refine Rs t1 ?_;refine WF.ce T.c27 (r27 T (cg [5,6,7]) De) λg6=>?_
 rw[Ik];refine Rs t1 ?_;refine WF.res T.c26 (r26 T (oL.ext Xx) sh (gl.ext Xx) [108,49]) ?_;rintro _ g7 ⟨ss,Ls,rfl,os,hLs⟩;rw[hL]at hLs ⊢;have hLsl:Ls.length=8:=by have:=Yx List.length hLs;rw[X2,wv.1]at this;exact this
 rw[wv.2];refine Rs t1 ?_;refine WF.ce T.c45 (r45 T Z (pw.ext Xx) (o.ext Xx) w hl) λg8=>?_
 rw[hV];have hlg:=Ii;have hrc:=Ih;generalize vB uJ.dt=lg at hlg hrc ⊢;have bc:=jI (show lg.length+([49] :By).length<2^62 by simp only[XX,X1];omega);refine Rs (A2 t1 @bc) ?_;refine WF.res T.c37 (r37 T X Z (pw.ext Xx) (lg++[49]) (by rw[XS];simp only[XX,X1];omega)) ?_;rintro _ g9 ⟨Lr,sr,hLr,rfl,fr,-⟩;have hLrl:Lr.length=18:=by have:=Yx List.length hLr;rw[X2,hrc.2.1]at this;exact this
 rw[hrc.1,hrc.2.2];have d8:decide ((Ls.length:Int)=8)=true:=XZ Om;have d19:decide ((Lr.length:Int)=18)=true:=XZ Om;have wz:IntKind.i64.wrap ((0:Int)+0)=0:=rfl;have z0:decide ((0:Int)=0)=true:=rfl;refine Rs (A5 t1 @wz @z0 @Yr @Yi) ?_;refine WF.res T.c25 (r25 T (L:=[[115,49],[115,50]]) (M:=[[115,49],[115,50]]) ?hu (vK (M:=[[115,49],[115,50]])) De De) ?_
 case hu=>exact hu.ext Xx
 rintro _ k1 rfl;have q1:decide (([[115,49],[115,50]] :List (By))=[[115,49],[115,50]])=true:=rfl;have q2:decide (([[109,49],[109,50],[109,51]] :List (By))=[[109,49],[109,50],[109,51]])=true:=rfl;rw[q1];refine Rs (A2 t1 @Yi) ?_;refine WF.res T.c25 (r25 T (L:=[[109,49],[109,50],[109,51]]) (M:=[[109,49],[109,50],[109,51]]) ?hn (vK (M:=[[109,49],[109,50],[109,51]])) De De) ?_
 case hn=>exact hn.ext Xx
 rintro _ k2 rfl;rw[q2];have q3:decide ((529174:Int)=529174)=true:=rfl;have q4:decide ((28:Int)=28)=true:=rfl;have q5:decide ((lg.length:Int)=(lg.length:Int))=true:=XZ rfl;refine Rs (A9 t1 q3 q4 q5 @d8 @d19 os.sl.aM fr.a8.aM @Yi) ?_;refine WF.ce T.c72 (r72 T [49,49] De) λk3=>?_
 have q6:decide (([48,49,51,49,53,56,49] :By)=[48,49,51,49,53,56,49])=true:=XZ rfl;rw[Ig];refine Rs (A3 t1 q6 @Yi) ?_;exact⟨he.trans Xx,trivial⟩
def r15(X:CW P)(Z:qq P)(gl:Gl h)(pw:Pw h):ay P 15 [] h (λv _=>v=.bool true):=by
 refine .of T.mix (aaw T.c15 (Yx some LV)) ?_;obtain⟨ts,QP⟩:∃ts,ts=aU 158 []:=⟨_,rfl⟩;have hlen:ts.length=158:=by rw[QP];rfl
 obtain⟨RR,RL⟩:∃RR,RR=IX 3:=⟨_,rfl⟩;show WC P bT _ [] (aU 158 []) h (FQ _ _);rw[<-QP,<-RL];clear QP;unfold ES IX fn15;simp only[ai.j,ai.s,ai.r,ai.dr,ai.tl,ai.hd];refine Rs @hlen ?_;refine WF.res T.c70 (r70 T) ?_;rintro _ g0 ⟨rfl,hg⟩;have hg:g0=[.b [.af,.af,.af]]:=ZL hg;subst hg;refine Rs @hlen ?_;refine WF.gen T.c71 (L0 T (B:=h) (V:=V0) (b:=h.length) (L:=IY) (H':=uJ) Xx (Mh.app _) lQ.zero gl pw X Z (Fr.push (N:=0) (h:=h++[ak.b [.af,.af,.af]]) (es:=3) (Yt _) (IY.map sZ) (λx hx=>by obtain⟨y,_,rfl⟩:=Ys.1 hx;rfl)).a8 (λj hj hx=>by
  have:=Mi j hx;have e:(h++[ak.b [.af,.af,.af]]).length=j:=YU hj;rw[XS]at e;simp at e;omega) De De ET) ?_
 rintro _ _ ⟨rfl,g',V',rfl,oV,hV,wV,hVl⟩;refine Rs (A2 @hlen @Yk) ?_;rw[RL];exact Pc T X Z (gl.ext ⟨_,rfl⟩) (pw.ext ⟨_,rfl⟩) oV.rd wV hVl hV (Sq @hlen) (Sq @hlen) ⟨_,rfl⟩
end
def xK:Go.Proofs.Tryz.prog.globals.size=9:=by kernel_rfl
def Eh:Ei Go.Proofs.Tryz.prog 2=20:=by kernel_rfl
open Go.RowKit in
def Ec{h:ah}{n:Int}(h0:-9223372036854775808<=n)(h1:n<=9223372036854775807){mu tl:Bool}(hb:h[2]? =some (.cells (Lib.pow10Tab.map (AV.int .u64)) mu tl)):
  lR Go.Proofs.Tryz.prog 113 [.int .i64 n] h (.str (Lib.itoa n)) h:=by
 intro m w vs hr ha;obtain⟨v,vs1,rfl,hv,hr1⟩:=aS.1 ha;rw[bD]at hr1;subst hr1;rw[VR]at hv;subst hv;obtain⟨e,he,hcb,hd,-,eC⟩:=hr.fZ 2 (by rw[xK];omega);obtain⟨cc,el,fz,hw,⟨hle,Tu,hsz2⟩,QY,-,-⟩:=hr.dU 2 e _ he hb;have htab:Lib.TabIs Go.Proofs.Tryz.prog w "internal/strconv.uint64pow10" .u64 Lib.pow10Tab:=by
  unfold Lib.TabIs World.var?;rw[Go.Proofs.Tryz.yM.m17];show(match w.heap[2]? with|some (.cells cs _ _)=>some cs|_=>none)=_;rw[hcb]at hw;rw[hw];have h20:cc.size=20:=by rw[hsz2,eC,Eh]
  refine Yx some (Array.ext_getElem? λi=>?_);by_cases hi:i<20
  ·have hl:i<Lib.pow10Tab.length:=by rw[Lib.pow10Tab_length];exact hi
   obtain⟨_,cv,SQ,QT⟩:=QY i (.int .u64 Lib.pow10Tab[i]) (by rw[Zp,XY hl];rfl);rw[VR]at QT;rw[hd,YJ]at SQ;rw[SQ,QT,Zo,Zp,XY hl];rfl
  ·rw[Zt Om,Zt (by rw[List.size_toArray,X2,Lib.pow10Tab_length];omega)]
 refine(Go.Proofs.Any.strconv_Itoa Go.Proofs.Tryz.yM n h0 h1 w htab).mono ?_;rintro e' w' ⟨rfl,k,os,rfl⟩;have hh:∀i,i<w.heap.size->(Go.Sort.grow (w.drewN k) os).heap[i]? =w.heap[i]? :=λi hi=>by
  show(w.heap++os)[i]? =_;rw[Array.getElem?_append_left hi]
 have hs:w.heap.size<=(Go.Sort.grow (w.drewN k) os).heap.size:=by
  show w.heap.size<=(w.heap++os).size;simp
 exact⟨_,m,rfl,rfl,⟨hr.cN,λb' e' k' a1 a2=>(hr.dU b' e' k' a1 a2).heap (hh _ (hr.lt b' e' a1)),hr.sep,hr.fZ,λb' e' a1=>YM (hr.lt b' e' a1) hs⟩,
  ⟨λ_ _=>rfl,X8 _,λb' e' a1 a2=>absurd (hr.cN b' e' a2) Om,λ_ _ x=>x,hs,rfl,rfl,rfl,λi hi _=>hh i hi⟩⟩
theorem sO:∀xs:List (By),(xs.map λx=>[AV.str x]).flatten=xs.map AV.str
 |[]=>rfl
 |x::xs=>by rw[YR,Za,sO xs];rfl
def aH.inv{h:ah}{b o n e es:Nat}{cs:List (List AV)}(hs:aH h (.slice b o n e) es cs):n=cs.length/\∃c mu tl,h[b]? =some (.cells c mu tl)/\(c.drop o).take (cs.length*es)=cs.flatten:=by
 generalize hx:AV.slice b o n e=x at hs;cases hs with
 |nil=>cases hx
 |mk hb hf ho he=>cases hx;exact⟨rfl,_,_,_,hb,hf⟩
open Go.RowKit in
def Eb{h:ah}{s:AV}{sep:By}{xs:List (By)}(hs:aH h s 1 (xs.map λx=>[AV.str x]))(hl:(Lib.join xs sep).length<=140737488355328/\xs.length<=140737488355328):lR Go.Proofs.Tryz.prog 114 [s,.str sep] h (.str (Lib.join xs sep)) h:=by
 intro m w vs hr hargs;obtain⟨v1,vs1,rfl,U7,hr1⟩:=aS.1 hargs;obtain⟨v2,vs2,rfl,Us,R1⟩:=aS.1 hr1;rw[bD]at R1;subst R1;rw[VR]at Us;subst Us;have fin:∀e w',(e=.returned (.string ⟨(Lib.join xs sep).toArray⟩)/\Below w.heap.size w w')->Rel Go.Proofs.Tryz.prog m h w (.str (Lib.join xs sep)) h e w':=by
  rintro e w' ⟨rfl,hb⟩;exact⟨_,m,rfl,rfl,⟨hr.cN,λb e k h1 h2=>(hr.dU b e k h1 h2).heap (hb.block _ (hr.lt b e h1)),hr.sep,hr.fZ,λb e h1=>YM (hr.lt b e h1) hb.size⟩,
   ⟨λ_ _=>rfl,X8 _,λb e h1 h2=>absurd (hr.cN b e h2) Om,λ_ _ h=>h,hb.size,hb.os,hb.output,hb.tape,λi hi _=>hb.block i hi⟩⟩
 have zero:xs=[]->∀(a:Option Addr) (c:Nat),Calls Go.Proofs.Tryz.prog 114 #[.slice a 0 c,.string ⟨⟨sep⟩⟩] w (Rel Go.Proofs.Tryz.prog m h w (.str (Lib.join xs sep)) h):=λhx a c=>by
  refine(Go.Proofs.Tryz.strings_Join_none a c ⟨⟨sep⟩⟩ w).mono λe w' ⟨he,hw⟩=>fin e w' ⟨?_,hw▸Below.refl _ _⟩
  rw[he,hx];rfl
 have hlen:=hs.aM (λ_=>none);cases s with
 |af=>
  rw[VR]at U7;subst U7;simp only[Go.Abs.iV,Yf,Yq]at hlen;exact zero (YW.1 hlen.symm) none 0
 |slice b o n es=>
  simp only[Go.Abs.iV,Yf,Yq]at hlen;subst hlen;rw[VR]at U7;obtain⟨ent,ca,cap,he,rfl,hcap,Ru,eC⟩:=U7;by_cases hz:xs.length=0
  ·have SJ:=YW.1 hz;have:=zero SJ (some ca) cap;rw[hz];exact this
  ·have hca':=Ru Om;subst hca';generalize Ti:xs.map (λx=>[AV.str x])=cs at hs;have hcl:cs.length=xs.length:=by rw[<-Ti];simp
   obtain⟨_,c,mu,tl,hb,hf⟩:=hs.inv
   ·obtain⟨cc,el,fz,hheap,_,RG,_⟩:=hr.dU b ent _ he hb;have key:=Go.Proofs.Tryz.strings_Join ent.cb (o+ent.d) cap (xs.map λl=>⟨⟨l⟩⟩) ⟨⟨sep⟩⟩ w ?_ (hr.lt b ent he) (by rw[X2];exact hl.2) (by rw[X2];omega) ?_
    ·rw[X2]at key;refine key.mono λe w' ⟨he,hw⟩=>fin e w' ⟨?_,hw⟩
     rw[he,ZD];simp[aah]
    ·intro j x hx;rw[Zp,Yj]at hx;obtain⟨l,Q1,rfl⟩:=hx;have hj:j<xs.length:=(XT.1 Q1).1;have Wm:cs.flatten[j]? =some (.str l):=by
      rw[<-Ti];have:=sO xs;rw[this,Zp,Q1];rfl
     rw[<-hf,List.getElem?_take,X9 Om,aac]at Wm;obtain⟨_,cv,SQ,QT⟩:=RG _ _ Wm;rw[VR]at QT;subst QT;simp only[World.cell?,hheap,Option.isSome_none,YK,Yb];rw[show o+ent.d+j=ent.d+(o+j) by omega];exact SQ
    ·rw[ZD]
     simpa [aah]using hl.1
 |_=>cases hs
open Go.RowKit in
def sW{P:Program}{m:cp}{h:ah}{w:World}(hr:HR P m h w){a:AV}{v:Value}{e:Ending}{w':World}(hv:VR m a v)(he:e=.returned v)(hb:Below w.heap.size w w'):Rel P m h w a h e w':=
 ⟨v,m,he,hv,⟨hr.cN,λb e k h1 h2=>(hr.dU b e k h1 h2).heap (hb.block _ (hr.lt b e h1)),hr.sep,hr.fZ,λb e h1=>YM (hr.lt b e h1) hb.size⟩,
  ⟨λ_ _=>rfl,X8 _,λb e h1 h2=>absurd (hr.cN b e h2) Om,λ_ _ h=>h,hb.size,hb.os,hb.output,hb.tape,λi hi _=>hb.block i hi⟩⟩
theorem qe:∀{s:By}{a:Nat},s.all fc=true->∃n,Lib.decFrom a s=some n/\(n:Int)=s.foldl (λn c=>10*n+((c.toNat:Int)-48)) (a:Int)
 |[],a,_=>⟨a,rfl,rfl⟩
 |c::s,a,h=>by
  simp only[Zv,Yv]at h;have hc:=kB.1 h.1;have hd:Lib.digitVal c=some (c.toNat-48):=by unfold Lib.digitVal;rw[X9 hc]
  obtain⟨n,h1,h2⟩:=qe (s:=s) (a:=a*10+(c.toNat-48)) h.2;refine⟨n,by rw[Lib.decFrom,hd];exact h1,?_⟩;rw[h2,aas];congr 1;omega
def CM{s:By}(h:s.all fc=true)(hn:s≠[]):Lib.atoi s=some (Cu s):=by
 obtain⟨n,h1,h2⟩:=qe (a:=0) h;cases s with
 |nil=>exact absurd rfl hn
 |cons c r=>
  have hc:=kB.1 (by simp only[Zv,Yv]at h;exact h.1);have n1:(c==45)=false:=by
   exact Jj
  have n2:(c==43)=false:=by
   exact Jj
  rw[Lib.atoi,n1,n2,X5 De,X5 De,Lib.decNat,X5 Si,h1,ZP,h2];rfl
open Go.RowKit in
def EW{h:ah}{s:By}(hd:s.all fc=true)(hn:s≠[])(hl:s.length<=9):lR Go.Proofs.Tryz.prog 254 [.str s] h (.dN [.int .i64 (Cu s),.km]) h:=by
 intro m w vs hr ha;obtain⟨v,vs1,rfl,hv,hr1⟩:=aS.1 ha;rw[bD]at hr1;subst hr1;rw[VR]at hv;subst hv;refine(Go.Proofs.Any.strconv_Atoi Go.Proofs.Tryz.D2 ⟨⟨s⟩⟩ (Cu s) (by show s.length<=18;omega) (CM hd hn) w).mono ?_;rintro e' w' ⟨rfl,t,rfl⟩;exact sW hr ⟨_,rfl,aS.2 ⟨_,_,rfl,rfl,aS.2 ⟨_,_,rfl,rfl,rfl⟩⟩⟩ rfl (Lib.bytesWorld_below _ _ _)
open Go.RowKit in
def G2{h:ah}{n:Nat}(hn:n<=7):lR Go.Proofs.Tryz.prog 252 [.str [48],.int .i64 (n:Nat)] h (.str (List.replicate n 48)) h:=by
 intro m w vs hr ha;obtain⟨v1,vs1,rfl,U7,hr1⟩:=aS.1 ha;obtain⟨v2,vs2,rfl,Us,R1⟩:=aS.1 hr1;rw[bD]at R1;subst R1;have U7:v1=.string ⟨⟨[48]⟩⟩:=U7;have Us:v2=.int .i64 (n:Int):=Us;subst U7;subst Us;have hs:(⟨⟨[48]⟩⟩:ByteArray).size=1:=rfl;refine(Go.Proofs.Any.strings_Repeat Go.Proofs.Tryz.D3 Go.Proofs.Tryz.o7 ⟨⟨[48]⟩⟩ n w Om (by rw[hs];omega)).mono ?_;rintro e' w' ⟨rfl,hb⟩;have er:Lib.repeatL [48] n=List.replicate n 48:=by
  have:=Lib.repeatL_replicate 48 1 n;rw[Z4]at this;exact this
 refine sW (v:=.string ⟨(Lib.repeatL [48] n).toArray⟩) hr ?_ rfl hb;show Value.string ⟨(Lib.repeatL [48] n).toArray⟩=.string ⟨⟨List.replicate n 48⟩⟩;rw[er]
def Qv:qq Go.Proofs.Tryz.prog:=by
 refine⟨λh0 h1 w=>?_,λhs hl=>⟨_,[],by rw[Yo];exact Eb hs hl,rfl⟩,λh1 h2 h3=>⟨_,[],by rw[Yo];exact EW h1 h2 h3,rfl⟩,λh1=>⟨_,[],by rw[Yo];exact G2 h1,rfl⟩⟩;obtain⟨mu,tl,hb⟩:=w;exact⟨_,[],by rw[Yo];exact Ec h0 h1 hb,rfl⟩
def Qn:CW Go.Proofs.Tryz.prog:=
 ⟨run_callFunc_extern Go.Proofs.Tryz.func288 (by kernel_rfl) (by kernel_rfl) (by kernel_rfl) (by kernel_rfl),run_callFunc_extern Go.Proofs.Tryz.func262 (by kernel_rfl) (by kernel_rfl) (by kernel_rfl) (by kernel_rfl)⟩
open Go.ChangeShapes Go.WideShapes Go.Deep
inductive CT where
 |int (k:IntKind)
 |bool
 |str
 |sl (row:List CT)
def lM(P:Program)(f:TypeId->Option (List CT)):List Field->Nat->Option (List CT)
 |[],_=>some []
 |x::r,o=>
  match f x.type with
  |some a=>
   if x.offset=o/\a.length=P.cellsOf x.type then
    match lM P f r (o+a.length)with
    |some b=>some (a++b)
    |none=>none
   else none
  |none=>none
def Ai(P:Program):Nat->TypeId->Option (List CT)
 | 0,_=>none
 |n+1,t=>
  match P.underlying t with
  |some (.int k)=>some [.int k]
  |some .bool=>some [.bool]
  |some .string=>some [.str]
  |some (.slice e)=>
   match Ai P n e with
   |some r=>if r.length=P.cellsOf e/\0<r.length then some [.sl r]else none
   |none=>none
  |some (.struct fs)=>
   match lM P (Ai P n) fs.toList 0 with
   |some r=>if r.length=P.cellsOf t then some r else none
   |none=>none
  |_=>none
mutual
def TY(h:ah):CT->AV->Prop
 |.int k,a=>∃z,a=.int k z/\(Lit.int k z).wf=true
 |.bool,a=>∃b,a=.bool b
 |.str,a=>∃s:By,a=.str s/\s.length<=maxLen
 |.sl r,a=>∃cs:List (List AV),aH h a r.length cs/\cs.length<=maxLen/\∀c∈cs,jd h r c
def jd(h:ah):List CT->List AV->Prop
 |[],l=>l=[]
 |t::ts,l=>∃a l',l=a::l'/\TY h t a/\jd h ts l'
end
mutual
theorem TY.ext{h k}(e:Ext h k):∀{t}{a},TY h t a->TY k t a
 |.int _,a,x=>x
 |.bool,a,x=>x
 |.str,a,x=>x
 |.sl r,a,x=>by
  rw[TY]at x ⊢;obtain⟨cs,h1,h2,h3⟩:=x;exact⟨cs,h1.ext e,h2,λc hc=>jd.ext e (h3 c hc)⟩
theorem jd.ext{h k}(e:Ext h k):∀{ts}{l},jd h ts l->jd k ts l
 |[],l,x=>x
 |t::ts,l,x=>by
  rw[jd]at x ⊢;obtain⟨a,l',h1,h2,h3⟩:=x;exact⟨a,l',h1,TY.ext e h2,jd.ext e h3⟩
end
theorem TY.one{h}:∀{t}{a},TY h t a->a.one=true
 |.int _,a,x=>by rw[TY]at x;obtain⟨z,rfl,_⟩:=x;rfl
 |.bool,a,x=>by rw[TY]at x;obtain⟨z,rfl⟩:=x;rfl
 |.str,a,x=>by rw[TY]at x;obtain⟨z,rfl,_⟩:=x;rfl
 |.sl r,a,x=>by rw[TY]at x;obtain⟨z,h1,_⟩:=x;exact h1.one
theorem jd.one{h}:∀{ts}{l},jd h ts l->l.all AV.one=true
 |[],l,x=>by rw[jd]at x;subst x;rfl
 |t::ts,l,x=>by
  rw[jd]at x;obtain⟨a,l',rfl,h1,h2⟩:=x;rw[Zv,h1.one,jd.one h2];rfl
theorem jd.length{h}:∀{ts}{l},jd h ts l->l.length=ts.length
 |[],l,x=>by rw[jd]at x;subst x;rfl
 |t::ts,l,x=>by
  rw[jd]at x;obtain⟨a,l',rfl,h1,h2⟩:=x;rw[XX,XX,jd.length h2]
theorem jd.append{h}:∀{ts us}{l m},jd h ts l->jd h us m->jd h (ts++us) (l++m)
 |[],us,l,m,x,y=>by rw[jd]at x;subst x;exact y
 |t::ts,us,l,m,x,y=>by
  rw[jd]at x;obtain⟨a,l',rfl,h1,h2⟩:=x;show jd h (t:: (ts++us)) (a:: (l'++m));rw[jd];exact⟨a,_,rfl,h1,jd.append h2 y⟩
def gJ(E:List sK):cp:=λb=>E[b]?
def j6(E F:List sK):(gJ E).le (gJ (E++F)):=λb e hb=>by
 unfold gJ at hb ⊢;rw[XW (XT.1 hb).1];exact hb
structure AW(P:Program)(w:World)(E:List sK)(B:ah):Prop where
 len:E.length=B.length
 own:∀(b:Nat) e,E[b]? =some e->e.own=false/\e.cb<w.heap.size
 dU:∀(b:Nat) e k,E[b]? =some e->B[b]? =some k->BR P (gJ E) w e k/\(k=.dead\/∃c,k=.cells c false false)
 fZ:∀g,g<P.globals.size->∃e,E[g]? =some e/\e.cb=g/\e.d=0/\e.own=false/\e.sz=Ei P g
variable {P:Program}{w:World}{E:List sK}{B:ah}
def AW.hr(a:AW P w E B):HR P (gJ E) B w where
 cN:=λb e hb=>by rw[<-a.len];exact(XT.1 hb).1
 dU:=λb e k hb hk=>(a.dU b e k hb hk).1
 sep:=λb1 b2 e1 e2 k1 k2 _ h1 h2 hk1 QS _=>by
  rcases(a.dU b1 e1 k1 h1 hk1).2 with rfl|⟨c1,rfl⟩
  ·cases k2<;>trivial
  ·rcases(a.dU b2 e2 k2 h2 QS).2 with rfl|⟨c2,rfl⟩
   ·trivial
   ·exact⟨rfl,rfl,λx=>by cases x⟩
 fZ:=a.fZ
 lt:=λb e hb=>(a.own b e hb).2
def AW.push(a:AW P w E B){e k}(ho:e.own=false)(hlt:e.cb<w.heap.size)(hb:BR P (gJ E) w e k)(hk:k=.dead\/∃c,k=.cells c false false):AW P w (E++[e]) (B++[k]) where
 len:=by simp[a.len]
 own:=λb e' h=>by
  by_cases hlb:b<E.length
  ·rw[XW hlb]at h;exact a.own b e' h
  ·have:=(XT.1 h).1;simp at this;have:b=E.length:=Om
   subst this;simp at h;subst h;exact⟨ho,hlt⟩
 dU:=λb e' k' h h'=>by
  by_cases hlb:b<E.length
  ·rw[XW hlb]at h;rw[XW (by rw[<-a.len];exact hlb)]at h';exact⟨(a.dU b e' k' h h').1.mono (j6 E [e]),(a.dU b e' k' h h').2⟩
  ·have:=(XT.1 h).1;simp at this;have Sd:b=E.length:=Om
   have hbb:b=B.length:=by rw[Sd,a.len]
   rw[Sd]at h;rw[hbb]at h';simp at h h';subst h;subst h';exact⟨hb.mono (j6 E [e]),hk⟩
 fZ:=λg hg=>by
  obtain⟨e',h1,h2⟩:=a.fZ g hg;exact⟨e',j6 E [e] g e' h1,h2⟩
def Laid(P:Program)(w:World)(E:List sK)(B:ah)(row:List CT)(cs:List Value):Prop:=
 ∃F C ax,AW P w (E++F) (B++C)/\cL (gJ (E++F)) ax cs/\jd (B++C) row ax
def Laid.app{row row2 cs TQ}(h1:Laid P w E B row cs)(h2:∀F C,AW P w (E++F) (B++C)->Laid P w (E++F) (B++C) row2 TQ):Laid P w E B (row++row2) (cs++TQ):=by
 obtain⟨F,C,ax,a1,a2,a3⟩:=h1;obtain⟨F',C',ax',b1,b2,b3⟩:=h2 F C a1;refine⟨F++F',C++C',ax++ax',by rw[<-XV,<-XV];exact b1,?_,?_⟩
 ·rw[<-XV];exact(cL.mono (j6 _ _) _ _ a2).append b2
 ·rw[<-XV];exact jd.append (a3.ext ⟨C',rfl⟩) b3
def B8(a:AW P w E B):Laid P w E B [] []:=⟨[],[],[],by simpa using a,by rw[bD],rfl⟩
def nZ(a:AW P w E B){t x v}(hv:VR (gJ E) x v)(ht:TY B t x):Laid P w E B [t] [v]:=
 ⟨[],[],[x],by simpa using a,by simpa using aS.2 ⟨v,[],rfl,hv,by rw[bD]⟩,by
  rw[Yo,jd];exact⟨x,[],rfl,ht,rfl⟩⟩
section
variable {H:Type}{enc:TypeId×Value->H}{base:Nat}{held:Bool}
theorem tn{es:Nat}{r:List CT}{a:Addr}{m:Nat}(row:∀i,i<m->∃cs,w.cells? base (a.add (i*es)) es=some cs/\∀E B,AW P w E B->Laid P w E B r cs):∀(k:Nat) {E:List sK}{B:ah},k<=m->AW P w E B->
  ∃(F:List sK) (C:ah) (rows:List (List AV)) (VL:List Value),AW P w (E++F) (B++C)/\rows.length=k/\cL (gJ (E++F)) rows.flatten VL/\(∀c∈rows,jd (B++C) r c)/\VL.length=k*es/\∀i,i<k*es->w.cell? (a.add i)=VL[i]?
 | 0,E,B,_,aw=>⟨[],[],[],[],by rw[Yo,Yo];exact aw,rfl,rfl,λc hc=>by(cases hc),by rw[Z0];rfl,λi hi=>by rw[Z0]at hi;exact absurd hi (Nat.not_lt_zero _)⟩
 |k+1,E,B,hkm,aw=>by
  obtain⟨F,C,rows,VL,h1,h2,h3,h4,h5,h6⟩:=tn row k Om aw;obtain⟨cs,Ti,hl⟩:=row k Om;obtain⟨F',C',ax,a1,a2,a3⟩:=hl _ _ h1;obtain⟨_,hlen,RG⟩:=World.cells?_some Ti;refine⟨F++F',C++C',rows++[ax],VL++cs,by rw[<-XV,<-XV];exact a1,by rw[XS,h2];rfl,?_,?_,by rw[XS,h5,hlen,Zf],?_⟩
  ·rw[<-XV,ZF];refine(cL.mono (j6 _ _) _ _ h3).append ?_;have:[ax].flatten=ax:=Si
   rw[this];exact a2
  ·intro c Vg;rw[<-XV];rcases X3.1 Vg with hm|hm
   ·exact(h4 c hm).ext ⟨C',rfl⟩
   ·rw[Yl]at hm;subst hm;exact a3
  ·intro i hi;rw[Zf]at hi;by_cases hlt:i<k*es
   ·rw[h6 i hlt,XW Om]
   ·rw[X6 Om,h5,<-RG (i-k*es) Om,add_add,show k*es+(i-k*es)=i by omega]
theorem p8{f:TypeId->Option (List CT)}{cs:List Value}:∀(l:List Field) (o:Nat) {row:List CT},lM P f l o=some row->
  (∀x∈l,∀a,f x.type=some a->∀E B,AW P w E B->Laid P w E B a ((cs.drop x.offset).take (P.cellsOf x.type)))->∀E B,AW P w E B->Laid P w E B row ((cs.drop o).take row.length)
 |[],o,row,h,_,E,B,aw=>by
  unfold lM at h;cases h;rw[X1,List.take_zero];exact B8 aw
 |x::l,o,row,h,hf,E,B,aw=>by
  unfold lM at h;split at h
  case h_2=>cases h
  rename_i a ha;split at h
  case isFalse=>cases h
  rename_i hc;split at h
  case h_2=>cases h
  rename_i b hb;cases h;have h1:=hf x (YN ..) a ha E B aw;rw[hc.1,<-hc.2]at h1;rw[XS,List.take_add,Zu];exact h1.app λF C aw'=>p8 l _ hb (λy hy=>hf y (YB _ hy)) _ _ aw'
theorem iW(hz:∃(z:Nat) (cc:Array Value) (el:TypeId) (fz:Nat×Nat),w.heap[z]? =some (Obj.cells cc el fz)):∀(n:Nat) (t:TypeId) (row:List CT),Ai P n t=some row->∀(fuel:Nat) (cs:List Value) (x:DataW H×List MemPlace),
  DataW.trod enc P w base (λ_=>true) held fuel t cs=some x->∀E B,AW P w E B->Laid P w E B row cs
 | 0,t,row,h,_,_,_,_,_,_,_=>by cases h
 |n+1,t,row,h,fuel,cs,x,ht,E,B,aw=>by
  unfold Ai at h;split at h
  ·rename_i k hu;cases h;obtain⟨z,rfl,_,hwf⟩:=DataW.trod_int hu ht;exact nZ aw (x:=.int k z) (by rw[VR]) (by rw[TY];exact⟨z,rfl,hwf⟩)
  ·rename_i hu;cases h;obtain⟨b,rfl,_⟩:=DataW.trod_bool hu ht;exact nZ aw (x:=.bool b) (by rw[VR]) (by rw[TY];exact⟨b,rfl⟩)
  ·rename_i hu;cases h;obtain⟨s,rfl,_,hs⟩:=DataW.trod_string hu ht;refine nZ aw (x:=.str s.data.toList) (by rw[VR]) (by rw[TY];exact⟨_,rfl,by simpa using hs⟩)
  ·rename_i e hu;split at h
   case h_2=>cases h
   rename_i r hr;split at h
   case isFalse=>cases h
   rename_i hc;cases h;obtain⟨Sg,hpos⟩:=hc;rcases open_slice hu ht with⟨rfl,_⟩|⟨a,len,cap,m,n',D,Pl,rfl,hb,hl,hm,Vx,_,hx⟩
   ·exact nZ aw (x:=.af) (by rw[VR]) (by rw[TY];exact⟨[],.nil,Yt _,λc hc=>by cases hc⟩)
   simp only[Yf]at Vx;subst Vx;rw[<-Sg]at hx;by_cases hcap:m=0
   ·have Q8:len=0:=Om
    subst Q8;subst hcap;obtain⟨z,cc,el,fz,Xh⟩:=hz;have h0lt:z<w.heap.size:=(Ye.1 Xh).1;have hbr:BR P (gJ E) w ⟨z,0,cc.size,false⟩ (.cells [] false false):=
     ⟨cc,el,fz,Xh,⟨Yt _,Yt _,rfl⟩,λi x hx=>by(rw[List.getElem?_nil]at hx;cases hx),⟨λx=>absurd x ZU,λx=>by rcases x with x|x<;>exact absurd x ZU⟩⟩
    have aw2:=aw.push (e:=⟨z,0,cc.size,false⟩) (k:=.cells [] false false) rfl h0lt hbr (.inr ⟨[],rfl⟩);refine⟨[⟨z,0,cc.size,false⟩],[.cells [] false false],[.slice B.length 0 0 r.length],aw2,?_,?_⟩
    ·refine aS.2 ⟨_,[],rfl,?_,by rw[bD]⟩;rw[VR];exact⟨⟨z,0,cc.size,false⟩,a,0,by unfold gJ;rw[<-aw.len];simp,rfl,X8 _,λx=>absurd x Om,by rw[Z0];exact Yt _⟩
    ·rw[jd];refine⟨_,[],rfl,?_,by rw[jd]⟩;rw[TY];refine⟨[],?_,Yt _,λc hc=>by cases hc⟩;exact aH.mk (cs:=[]) (b:=B.length) (o:=0) (c:=[]) (mu:=false) (tl:=false) Si Si Si (λx hx=>by cases hx)
   ·obtain⟨cs0,h00,_⟩:=hx 0 Om;obtain⟨csl,S4,_⟩:=hx (m-1) Om;obtain⟨_,Q8,hc0⟩:=World.cells?_some h00;obtain⟨_,hlenl,hcl⟩:=World.cells?_some S4;have RK:=hc0 0 hpos;have hlast:=hcl (r.length-1) Om;rw[add_add]at hlast;rw[add_add,Z0,aao]at RK;have ha0:a.add 0=a:=by unfold Addr.add;simp
    rw[ha0,XY Om]at RK;unfold World.cell? at RK;split at RK
    case h_2=>cases RK
    rename_i cc el fz Tg;split at RK
    ·cases RK
    rename_i hspot;have UR:a=⟨a.block,a.off,none⟩:=by
     cases a with
     |mk b o s=>cases s with
      |none=>rfl
      |some s=>exact absurd rfl hspot
    have TD:∀i,a.add i=⟨a.block,a.off+i,none⟩:=λi=>by
     unfold Addr.add;by_cases hi:i=0
     ·subst hi;rw[X9 rfl];exact UR
     ·rw[X5 hi]
    have TP:∀i,w.cell? (a.add i)=cc[a.off+i]? :=λi=>by
     rw[TD];unfold World.cell?;simp only[Tg,Option.isSome_none,YK,Yb]
    have hmr:(m-1)*r.length+(r.length-1)+1=m*r.length:=by
     obtain⟨m',rfl⟩:∃m',m=m'+1:=⟨m-1,Om⟩;rw[Zf];simp only[Nat.add_sub_cancel];omega
    have eC:a.off+m*r.length<=cc.size:=by
     rw[TP,XY Om]at hlast;have:=(Ye.1 hlast).1;omega
    obtain⟨F,C,rows,VL,h1,h2,h3,h4,h5,h6⟩:=tn (P:=P) (w:=w) (base:=base) (es:=r.length) (r:=r) (a:=a) (m:=m)
     (λi hi=>by
      obtain⟨cs',q1,q2⟩:=hx i hi;exact⟨cs',q1,λE B aw=>iW hz n e r hr _ _ _ q2 E B aw⟩) len hl aw
    have Rn:rows.flatten.length=len*r.length:=by rw[<-h5,h3.length]
    have hmul:len*r.length<=m*r.length:=YZ _ hl;have SG:∀c∈rows,c.length=r.length:=λc hc=>(h4 c hc).length
    have hone:∀x∈rows.flatten,x.one=true:=λx hx=>by
     obtain⟨c,hc,U6⟩:=List.mem_flatten.1 hx;exact Yw.1 (h4 c hc).one x U6
    have hlt:a.block<w.heap.size:=(Ye.1 Tg).1;have hbr:BR P (gJ (E++F)) w ⟨a.block,a.off,cc.size,false⟩ (.cells rows.flatten false false):=
     ⟨cc,el,fz,Tg,⟨by rw[Rn];show a.off+_<=_;omega,by rw[Rn];show a.off+_<=cc.size;omega,rfl⟩,λi x hx=>by
       refine⟨hone x (YO hx),?_⟩;obtain⟨v,hv,QT⟩:=h3.get hx;have hi:i<len*r.length:=by rw[<-Rn];exact(XT.1 hx).1
       refine⟨v,?_,QT⟩;show cc[a.off+i]? =some v;rw[<-TP,h6 i hi,hv],⟨λx=>absurd x ZU,λx=>by rcases x with x|x<;>exact absurd x ZU⟩⟩
    have aw2:=h1.push (e:=⟨a.block,a.off,cc.size,false⟩) (k:=.cells rows.flatten false false) rfl hlt hbr (.inr ⟨_,rfl⟩);rw[XV,XV]at aw2;refine⟨F++[⟨a.block,a.off,cc.size,false⟩],C++[.cells rows.flatten false false],[.slice (B++C).length 0 len r.length],aw2,?_,?_⟩
    ·refine aS.2 ⟨_,[],rfl,?_,by rw[bD]⟩;rw[VR];refine⟨⟨a.block,a.off,cc.size,false⟩,a,m,?_,rfl,hl,λ_=>?_,?_⟩
     ·unfold gJ;rw[<-h1.len,<-XV,X6 (X8 _),YY];rfl
     ·show a=⟨a.block,0+a.off,none⟩;rw[YJ];exact UR
     ·show 0+a.off+m*r.length<=cc.size;omega
    ·rw[jd];refine⟨_,[],rfl,?_,by rw[jd]⟩;rw[TY];refine⟨rows,?_,Om,λc hc=>?_⟩
     ·rw[<-h2];refine aH.mk (c:=rows.flatten) (mu:=false) (tl:=false) ?_ ?_ ?_ SG
      ·rw[<-XV,X6 (X8 _),YY];rfl
      ·rw[Zj,h2,<-Rn,Yz]
      ·rw[h2,Rn];omega
     ·rw[<-XV];exact(h4 c hc).ext ⟨_,rfl⟩
  ·rename_i fs hu;split at h
   case h_2=>cases h
   rename_i r hr;split at h
   case isFalse=>cases h
   rename_i hc;cases h;obtain⟨xs,n',rfl,rfl,hlen,hxl,hf⟩:=DataW.trod_struct hu ht;have:=p8 (P:=P) (w:=w) (cs:=cs) fs.toList 0 hr (λx hx a ha E B aw=>by
    obtain⟨i,hi⟩:=List.getElem?_of_mem hx;have hi':fs[i]? =some x:=by rw[<-Zm];exact hi
    have hlt:i<xs.length:=by rw[hxl];exact(Ye.1 hi').1
    have h1:=hf i x hi';rw[XY hlt]at h1;exact iW hz n x.type a ha _ _ _ h1 E B aw) E B aw
   rw[Zj,hc,<-hlen,Yz]at this;exact this
  ·cases h
inductive AT where
 |one (t:CT)
 |agg (r:List CT)
def Gj(P:Program)(e:TypeId):Option CT:=
 match P.underlying e with
 |some (.int k)=>some (.int k)
 |some .string=>some .str
 |_=>none
def Im(P:Program)(n:Nat)(t:TypeId):Option AT:=
 match P.underlying t with
 |some (.struct _)=>
  match Ai P n t with
  |some r=>some (.agg r)
  |none=>none
 |some (.int k)=>some (.one (.int k))
 |some .bool=>some (.one .bool)
 |some .string=>some (.one .str)
 |some (.slice _)=>
  match Ai P n t with
  |some [c]=>some (.one c)
  |_=>none
 |some (.array m e)=>
  match Gj P e with
  |some c=>if P.cellsOf e=1/\P.cellsOf t=m then some (.agg (List.replicate m c))else none
  |none=>none
 |_=>none
def tT{w r b0}{t e:TypeId}{m v}(ht:P.underlying t=some (.array m e))(h:Value.okWide P w r b0 t v):∃cs,v=.agg cs/\cs.size=P.cellsOf t:=by
 simp only[Value.okWide,ht]at h;obtain⟨cs,h1,h2,_⟩:=h;exact⟨cs,h1,h2⟩
theorem td{M B c}:∀(L:List Value),(∀i (hi:i<L.length),∃a,VR M a L[i]/\TY B c a)->∃l:List AV,cL M l L/\jd B (List.replicate L.length c) l
 |[],_=>⟨[],by rw[bD],by rw[X1,aal,jd]⟩
 |v::L,h=>by
  obtain⟨a,e,hz⟩:=h 0 Si;obtain⟨l,h1,h2⟩:=td L λi hi=>h (i+1) (by simpa using hi)
  simp only[List.getElem_cons_zero]at e;refine⟨a::l,aS.2 ⟨_,_,rfl,e,h1⟩,?_⟩;rw[XX,Zx,jd];exact⟨_,_,rfl,hz,h2⟩
def tH(P:Program)(n:Nat):List TypeId->Option (List AT)
 |[]=>some []
 |t::ts=>
  match Im P n t,tH P n ts with
  |some a,some l=>some (a::l)
  |_,_=>none
def Gq(h:ah):AT->AV->Prop
 |.one t,a=>TY h t a
 |.agg r,a=>∃l,a=.agg l/\jd h r l
theorem Gq.ext{h k}(e:Ext h k):∀{t}{a},Gq h t a->Gq k t a
 |.one _,_,x=>TY.ext e x
 |.agg _,_,⟨l,e1,x⟩=>⟨l,e1,jd.ext e x⟩
def sH(h:ah):List AT->List AV->Prop
 |[],l=>l=[]
 |t::ts,l=>∃a l',l=a::l'/\Gq h t a/\sH h ts l'
def B9(hz:∃(z:Nat) (cc:Array Value) (el:TypeId) (fz:Nat×Nat),w.heap[z]? =some (Obj.cells cc el fz)){n}{t:TypeId}{at'}(h:Im P n t=some at'){v d ps}(ht:DataW.Trod enc P w base (λ_=>true) held t v d ps)
  {r}{b0}(ho:Value.okWide P w r b0 t v) (aw:AW P w E B):∃(F:List sK) (C:ah) (a:AV),AW P w (E++F) (B++C)/\VR (gJ (E++F)) a v/\Gq (B++C) at' a:=by
 obtain⟨fuel,ht⟩:=ht;unfold Im at h;split at h
 ·rename_i fs hu;split at h
  case h_2=>cases h
  rename_i r hr;cases h;obtain⟨cs,rfl,_⟩:=okWide_struct hu ho;obtain⟨F,C,ax,h1,h2,h3⟩:=iW hz n t r hr fuel _ _ ht E B aw;refine⟨F,C,.agg ax,h1,?_,ax,rfl,h3⟩;rw[VR];exact⟨_,rfl,h2⟩
 ·rename_i k hu;cases h;obtain⟨z,rfl⟩:=okWide_int hu ho;obtain⟨z',e,_,hwf⟩:=DataW.trod_int hu ht;cases e;exact⟨[],[],.int k z,by rw[Yo,Yo];exact aw,by rw[VR],by show TY _ _ _;rw[TY];exact⟨z,rfl,hwf⟩⟩
 ·rename_i hu;cases h;obtain⟨z,rfl⟩:=okWide_bool hu ho;exact⟨[],[],.bool z,by rw[Yo,Yo];exact aw,by rw[VR],by show TY _ _ _;rw[TY];exact⟨z,rfl⟩⟩
 ·rename_i hu;cases h;obtain⟨s,rfl⟩:=okWide_string hu ho;obtain⟨s',e,_,hs⟩:=DataW.trod_string hu ht;cases e;exact⟨[],[],.str s.data.toList,by rw[Yo,Yo];exact aw,by rw[VR],by show TY _ _ _;rw[TY];exact⟨_,rfl,by simpa using hs⟩⟩
 ·rename_i e hu;split at h
  case h_2=>cases h
  rename_i c hc;cases h;obtain⟨a,len,cap,rfl⟩:=okWide_slice hu ho;obtain⟨F,C,ax,h1,h2,h3⟩:=iW hz n t _ hc fuel _ _ ht E B aw;rw[jd]at h3;obtain⟨x,l',rfl,h4,h5⟩:=h3;rw[jd]at h5;subst h5;obtain⟨y,ys,e,h6,_⟩:=aS.1 h2;cases e;exact⟨F,C,x,h1,h6,h4⟩
 ·rename_i m e hu;split at h
  case h_2=>cases h
  rename_i c hk;split at h
  case isFalse=>cases h
  rename_i hc;cases h;obtain⟨cs,rfl,Ti⟩:=tT hu ho;obtain⟨xs,n',rfl,_,hlen,hxl,hf⟩:=DataW.trod_array hu ht;have hcl:(Value.agg cs).cells.toList=cs.toList:=rfl;rw[hcl]at hlen hf;rw[hc.2]at hlen;obtain⟨l,h1,h2⟩:=td (M:=gJ E) (B:=B) (c:=c) cs.toList λi hi=>by
   have hi':i<xs.length:=Om
   have h3:=hf i Om;rw[hc.1,Z4,XY hi',ZV hi,ZO,List.take_zero]at h3;unfold Gj at hk;split at hk
   ·rename_i k hk';cases hk;obtain⟨z,e1,_,hwf⟩:=DataW.trod_int hk' h3;exact⟨.int k z,by rw[(List.cons.inj e1).1,VR],by rw[TY];exact⟨z,rfl,hwf⟩⟩
   ·rename_i hk';cases hk;obtain⟨s',e1,_,hs⟩:=DataW.trod_string hk' h3;exact⟨.str s'.data.toList,by rw[(List.cons.inj e1).1,VR],by rw[TY];exact⟨_,rfl,by simpa using hs⟩⟩
   ·cases hk
  rw[hlen]at h2;exact⟨[],[],.agg l,by rw[Yo,Yo];exact aw,by rw[VR,Yo];exact⟨_,rfl,h1⟩,l,rfl,by rw[Yo];exact h2⟩
 ·cases h
theorem tq(hz:∃(z:Nat) (cc:Array Value) (el:TypeId) (fz:Nat×Nat),w.heap[z]? =some (Obj.cells cc el fz)){n r b0}:∀(tys:List TypeId) {ats},tH P n tys=some ats->∀(vs:List Value) (ds:List (DataW H)) (ps:List MemPlace),
  DataW.TrodAll enc P w base (λ_=>true) held tys vs ds ps->(∀(j:Nat) t v,tys[j]? =some t->vs[j]? =some v->Value.okWide P w r b0 t v)->∀{E}{B},AW P w E B->
  ∃(F:List sK) (C:ah) (ax:List AV),AW P w (E++F) (B++C)/\cL (gJ (E++F)) ax vs/\sH (B++C) ats ax
 |[],ats,h,vs,ds,ps,ht,_,E,B,aw=>by
  unfold tH at h;cases h;cases vs with
  |cons v vs=>cases ds<;>exact ht.elim
  |nil=>exact⟨[],[],[],by rw[Yo,Yo];exact aw,by rw[bD],by rw[sH]⟩
 |t::tys,ats,h,vs,ds,ps,ht,ho,E,B,aw=>by
  unfold tH at h;split at h
  case h_2=>cases h
  rename_i a l ha hl;cases h;cases vs with
  |nil=>cases ds<;>exact ht.elim
  |cons v vs=>
   cases ds with
   |nil=>exact ht.elim
   |cons d ds=>
    obtain⟨p,q,h1,h2,_⟩:=ht;obtain⟨F,C,x,a1,a2,a3⟩:=B9 hz ha h1 (ho 0 t v rfl rfl) aw;obtain⟨F',C',xs,b1,b2,b3⟩:=tq hz tys hl vs ds q h2 (λj t v h h'=>ho (j+1) t v h h') a1;refine⟨F++F',C++C',x::xs,by rw[<-XV,<-XV];exact b1,?_,?_⟩
    ·rw[<-XV];exact aS.2 ⟨v,vs,rfl,VR.mono (j6 _ _) _ _ a2,b2⟩
    ·rw[<-XV,sH];exact⟨x,xs,rfl,a3.ext ⟨C',rfl⟩,b3⟩
end
open Go.ChangeShapes Go.WideShapes Go.RowKit
def CL(f:DataW Unit->Option (List AV)):List (DataW Unit)->Option (List AV)
 |[]=>some []
 |d::r=>
  match f d,CL f r with
  |some a,some b=>some (a++b)
  |_,_=>none
def y6(P:Program):Nat->TypeId->DataW Unit->Option (List AV)
 | 0,_,_=>none
 |n+1,t,d=>
  match P.underlying t with
  |some (.int k)=>
   match d with
   |.lit (.int _ z)=>some [.int k z]
   |_=>none
  |some .string=>
   match d with
   |.lit (.string s)=>some [.str s]
   |_=>none
  |some (.array m e)=>
   match d with
   |.agg l=>
    match CL (y6 P n e) l with
    |some r=>if P.cellsOf t=m*P.cellsOf e then some r else none
    |none=>none
   |_=>none
  |_=>none
section
variable {P:Program}{w:World}{base:Nat}{sp:Nat->Bool}{held:Bool}
theorem y7{f:DataW Unit->Option (List AV)}{m:cp}{ce:Nat}{cs:List Value}{g:List Value->Option (DataW Unit×List MemPlace)}(hf:∀c d p ax,g c=some (d,p)->f d=some ax->cL m ax c/\ax.all AV.one=true):
  ∀(l:List (DataW Unit×List MemPlace)) (o:Nat) {ax:List AV},CL f (l.map (·.1))=some ax->(∀i (hi:i<l.length),g ((cs.drop ((o+i)*ce)).take ce)=some l[i])->cL m ax ((cs.drop (o*ce)).take (l.length*ce))/\ax.all AV.one=true
 |[],o,ax,h,_=>by
  unfold CL at h;cases h;rw[X1,Z0,List.take_zero];exact⟨by rw[bD],rfl⟩
 |x::l,o,ax,h,hx=>by
  rw[YR]at h;unfold CL at h;split at h
  case h_2=>cases h
  rename_i a b ha hb;cases h;have h0:=hx 0 (by rw[XX];omega);rw[aao,List.getElem_cons_zero]at h0;obtain⟨p1,p2⟩:=hf _ x.1 x.2 a h0 ha;obtain⟨q1,q2⟩:=y7 hf l (o+1) hb (λi hi=>by
   have:=hx (i+1) (by rw[XX];omega);rw[List.getElem_cons_succ]at this;rw[show o+1+i=o+(i+1) by omega];exact this)
  refine⟨?_,by rw[List.all_append,p2,q2];rfl⟩;rw[XX,Zf,Nat.add_comm (l.length*ce) ce,List.take_add,Zu];refine p1.append ?_;rw[<-Zf];exact q1
theorem wy{m:cp}:∀(n:Nat) (t:TypeId) (fuel:Nat) (cs:List Value) (d:DataW Unit) (p:List MemPlace) (ax:List AV),
  DataW.trod (λ_=>()) P w base sp held fuel t cs=some (d,p)->y6 P n t d=some ax->cL m ax cs/\ax.all AV.one=true
 | 0,_,_,_,_,_,_,_,h=>by cases h
 |n+1,t,fuel,cs,d,p,ax,ht,h=>by
  unfold y6 at h;split at h
  ·rename_i k hu;obtain⟨z,rfl,e,_⟩:=DataW.trod_int hu ht;cases e;cases h;exact⟨aS.2 ⟨_,[],rfl,by rw[VR],by rw[bD]⟩,rfl⟩
  ·rename_i hu;obtain⟨s,rfl,e,_⟩:=DataW.trod_string hu ht;cases e;cases h;exact⟨aS.2 ⟨_,[],rfl,rfl,by rw[bD]⟩,rfl⟩
  ·rename_i mm e hu;obtain⟨xs,m',_,ex,hlen,hxl,hf⟩:=DataW.trod_array hu ht;cases ex;simp only at h;split at h
   case h_2=>cases h
   rename_i r hr;split at h
   case isFalse=>cases h
   rename_i hc;cases h;have:=y7 (m:=m) (ce:=P.cellsOf e) (cs:=cs) (g:=DataW.trod (λ_=>()) P w base sp held m' e) (λc d p ax h1 h2=>wy n e m' c d p ax h1 h2) xs 0 hr (λi hi=>by
    have:=hf i Om;rw[XY hi]at this;rw[YJ];exact this)
   rw[Z0,Zj,hxl,<-hc,<-hlen,Yz]at this;exact this
  ·cases h
def F6(P:Program)(laid:List (String×DataW Unit))(n:Nat)(g:Nat):ak:=
 match laid.find? (λx=>P.globalNamed x.1==some g)with
 |some x=>
  match (P.globals[g]?).map (·.type)with
  |some t=>
   match y6 P n t x.2 with
   |some ax=>if ax.length=Ei P g then .cells ax false false else .dead
   |none=>.dead
  |none=>.dead
 |none=>.dead
def tv(P:Program):List sK:=(List.range P.globals.size).map λg=>⟨g,0,Ei P g,false⟩
def vT(P:Program)(laid:List (String×DataW Unit))(n:Nat):ah:=(List.range P.globals.size).map (F6 P laid n)
theorem kr:∀{laid}{ps},DataW.LaidVars P w laid ps->∀x∈laid,∃g t cs fuel p,P.globalNamed x.1=some g/\(P.globals[g]?).map (·.type)=some t/\w.var? P x.1=some cs/\
  DataW.trod (λ_=>()) P w 0 (λ_=>true) false fuel t cs.toList=some (x.2,p)
 |[],_,_,x,hx=>by cases hx
 |(n,d)::r,ps,h,x,hx=>by
  obtain⟨g,t,cs,fuel,p,q,h1,h2,h3,h4,h5,_⟩:=h;rcases YA.1 hx with rfl|hx
  ·exact⟨g,t,cs,fuel,p,h1,h2,h3,h4⟩
  ·exact kr h5 x hx
def ym{n g cs}(hg:P.globalNamed n=some g)(h:w.var? P n=some cs):∃el fz,w.heap[g]? =some (.cells cs el fz):=by
 unfold World.var? at h;rw[hg]at h;simp only[Option.bind_some]at h;split at h
 ·rename_i c el fz hb;cases h;exact⟨el,fz,hb⟩
 ·cases h
theorem AW.globals{V3 laid}(hl:laidMet P V3 w)(hsub:∀x∈laid,x∈V3)(n:Nat){nm d}(hlast:(nm,d)∈laid)(hg:P.globalNamed nm=some (P.globals.size-1)):
  AW P w (tv P) (vT P laid n)/\∃(z:Nat) (cc:Array Value) (el:TypeId) (fz:Nat×Nat),w.heap[z]? =some (Obj.cells cc el fz):=by
 obtain⟨ps,hv,_,_⟩:=hl;obtain⟨g0,t0,cs0,_,_,a1,_,a3,_⟩:=kr hv _ (hsub _ hlast);obtain⟨el0,fz0,R3⟩:=ym a1 a3;have eC:P.globals.size-1<w.heap.size:=by
  have e:g0=P.globals.size-1:=YU (a1.symm.trans hg);rw[<-e];exact(Ye.1 R3).1
 have hE:∀(b:Nat) e,(tv P)[b]? =some e->b<P.globals.size/\e=⟨b,0,Ei P b,false⟩:=λb e h=>by
  unfold tv at h;rw[Zp]at h;have hb:b<P.globals.size:=by
   cases hr:(List.range P.globals.size)[b]? with
   |none=>rw[hr]at h;cases h
   |some y=>have:=(XT.1 hr).1;simpa using this
  rw[List.getElem?_range hb]at h;exact⟨hb,(YU h).symm⟩
 refine⟨⟨by simp[tv,vT],λb e h=>?_,λb e k h h'=>?_,λg hg=>⟨⟨g,0,Ei P g,false⟩,?_,rfl,rfl,rfl,rfl⟩⟩,⟨g0,cs0,el0,fz0,R3⟩⟩
 ·obtain⟨hb,rfl⟩:=hE b e h;exact⟨rfl,by show b<_;omega⟩
 ·obtain⟨hb,rfl⟩:=hE b e h;unfold vT at h';rw[Zp,List.getElem?_range hb]at h';have h':=(YU h').symm;subst h';unfold F6;split
  case h_2=>exact⟨trivial,.inl rfl⟩
  rename_i x hx;split
  case h_2=>exact⟨trivial,.inl rfl⟩
  rename_i t ht;split
  case h_2=>exact⟨trivial,.inl rfl⟩
  rename_i ax has;split
  case isFalse=>exact⟨trivial,.inl rfl⟩
  rename_i hlen;refine⟨?_,.inr ⟨ax,rfl⟩⟩;obtain⟨g,t',cs,fuel,p,b1,b2,b3,b4⟩:=kr hv x (hsub _ (List.mem_of_find?_eq_some hx));have hgb:P.globalNamed x.1=some b:=by have:=aap hx;simpa using this
  have e1:g=b:=YU (b1.symm.trans hgb);subst e1;have e2:t' =t:=YU (b2.symm.trans ht);subst e2;obtain⟨el,fz,Tg⟩:=ym b1 b3;obtain⟨c1,c2⟩:=wy (m:=gJ (tv P)) n t' fuel _ _ _ _ b4 has;have hcl:cs.size=ax.length:=by have:=c1.length;simpa using this
  refine⟨cs,el,fz,Tg,⟨by show 0+_<=_;omega,by show 0+_<=Ei P g;omega,by show cs.size=Ei P g;omega⟩,λi x hx=>?_,⟨λx=>absurd x ZU,λx=>by rcases x with x|x<;>exact absurd x ZU⟩⟩;refine⟨Yw.1 c2 x (YO hx),?_⟩;obtain⟨v,U7,Us⟩:=c1.get hx;refine⟨v,?_,Us⟩;show cs[0+i]? =some v;rw[YJ,<-Zm];exact U7
 ·unfold tv;rw[Zp,List.getElem?_range hg];rfl
end
section
variable {P:Program}{W W':World}{E:List sK}{B h':ah}{m':cp}
def AW.below(aw:AW P W E B)(g:Grow (gJ E) B W m' h' W'):Below W.heap.size W W':=
 ⟨g.os,g.tape,g.out,g.size,λk hk=>g.frame k hk λb e hb ho=>by rw[(aw.own b e hb).1]at ho;cases ho⟩
def yb(b:Below W.heap.size W W')(may:MemPlace->Prop):W.keptBut W' may:=by
 refine⟨b.os,b.output,λi hi=>?_⟩;rw[b.block i hi];split
 ·rename_i h1 h2;rw[h1]at h2;simp only[Yq,Obj.cells.injEq]at h2;obtain⟨rfl,rfl,rfl⟩:=h2;exact⟨rfl,rfl,rfl,λ_ _=>rfl⟩
 ·rename_i h1 h2;rw[h1]at h2;simp only[Yq,Obj.map.injEq]at h2;obtain⟨rfl,rfl⟩:=h2;exact .inr ⟨rfl,rfl⟩
 ·rfl
variable {H:Type}{enc:TypeId×Value->H}
theorem mH(hlo:laidOutB P=true)(hb:Below W.heap.size W W'){sp}:∀{tys}{vs}{ds}{ps},(∀t∈tys,P.readableRec t=true/\t<P.types.size)->
  DataW.TrodAll enc P W 0 (λ_=>true) true tys vs ds ps->(∀p∈ps,p.block<W.heap.size)->(∀p∈ps,sp p.block=true)->DataW.TrodAll enc P W' 0 sp true tys vs ds ps
 |[],[],[],ps,_,h,_,_=>h
 |[],[],_::_,_,_,h,_,_=>h.elim
 |[],_::_,_,_,_,h,_,_=>h.elim
 |_::_,[],_,_,_,h,_,_=>h.elim
 |_::_,_::_,[],_,_,h,_,_=>h.elim
 |t::tys,v::vs,d::ds,ps,hr,h,hl,hs=>by
  obtain⟨p,q,h1,h2,rfl⟩:=h;exact⟨p,q,WideElems.Trod_stays hlo (hr t (YN ..)).1 (hr t (YN ..)).2 h1 (λx hx=>hb.same (hl x (List.mem_append_left _ hx))) (λx hx=>hs x (List.mem_append_left _ hx)),
   mH hlo hb (λt ht=>hr t (YB _ ht)) h2 (λx hx=>hl x (List.mem_append_right _ hx)) (λx hx=>hs x (List.mem_append_right _ hx)),rfl⟩
def zG{f:Func}{s:ChangeSpec}{apart fresh handsOn again:Bool}{args:Array Value}{ds gs:List (DataW H)}{before:List MemPlace}{tb:TypeId}
  (hlo:laidOutB P=true) (hpar:∀t∈f.params.toList,P.readableRec t=true/\t<P.types.size) (hrt:f.resultTypes=#[tb]) (htb:P.underlying tb=some .bool) (hvars:s.vars=[])
  (hfn:(s.fn H (ds++gs))={results:=[.lit (.bool true)],args:=ds}) (hW:DataW.Whole enc P f.params.toList s.vars apart W args.toList ds gs before) (hb:Below W.heap.size W W'):
  s.post enc P f apart fresh handsOn again W args (.bool true) W':=by
 have hlt:=hW.lt;have hW':=hW;obtain⟨p,q,hA,hV,rfl,hz,hn⟩:=hW';rw[hvars]at hV;obtain⟨rfl,rfl⟩:=trodVars_none hV;rw[Yo]at hlt;have hres:∀(b:Nat) (sp:Nat->Bool) (hd:Bool),DataW.TrodAll enc P W' b sp hd f.resultTypes.toList ((Value.bool true).resultList f.resultTypes.size) (s.fn H (ds++[])).results []:=λb sp hd=>by
  rw[hfn,hrt];exact trodAll_mk1 (shut_bool htb _)
 have hargs:∀sp:Nat->Bool,(∀x∈p,sp x.block=true)->DataW.TrodAll enc P W' 0 sp true f.params.toList args.toList (s.fn H (ds++[])).args p:=λsp hs=>by
  rw[hfn];exact mH hlo hb hpar hA hlt hs
 have RJ:∀sp:Nat->Bool,DataW.TrodVars enc P W' sp s.vars (s.fn H (ds++[])).vars []:=λsp=>by
  rw[hfn,hvars];rfl
 refine⟨ds,[],p++[],[],p,[],hW,hres _ _ _,hargs _ (λx hx=>by simpa using hlt x hx),RJ _,yb hb _,λ_=>?_⟩;refine⟨?_,_,_,([]++p)++[],⟨[]++p,[],trodAll_append (hargs _ (λ_ _=>rfl)) (hres _ _ _),RJ _,rfl,?_,?_⟩,?_⟩
 ·exact ok_one hrt rfl (okWide_bool_mk htb _)
 ·intro b off hp;have hp:MemPlace.cell b off∈p:=by simpa using hp
  have:=hz b off (by simpa using hp);unfold World.frozen? at this ⊢;rw[hb.block b (hlt _ hp)];exact this
 ·intro ha;have:=hn ha
  simpa using this
 ·intro x hx _
  simpa using hx
def BD{f:Func}{fid:FuncId}{s:ChangeSpec}{apart fresh handsOn again:Bool}{args:Array Value}{ds gs:List (DataW H)}{before:List MemPlace}{tb:TypeId}{n:Nat}{ats:List AT}{r:Reach}{b0:Nat}
  (hlo:laidOutB P=true) (hpar:∀t∈f.params.toList,P.readableRec t=true/\t<P.types.size) (hrt:f.resultTypes=#[tb]) (htb:P.underlying tb=some .bool) (hvars:s.vars=[])
  (hfn:(s.fn H (ds++gs))={results:=[.lit (.bool true)],args:=ds}) (hats:tH P n f.params.toList=some ats)
  (hval:∀(j:Nat) t v,f.params[j]? =some t->args[j]? =some v->Value.okWide P W r b0 t v)
  (hW:DataW.Whole enc P f.params.toList s.vars apart W args.toList ds gs before) (aw:AW P W E B) (hz:∃(z:Nat) (cc:Array Value) (el:TypeId) (fz:Nat×Nat),W.heap[z]? =some (Obj.cells cc el fz))
  (call:∀k ax,Ext B k->sH k ats ax->ay P fid ax k λv _=>v=.bool true):
  Calls P fid args W λe W'=>∃v,e=.returned v/\s.post enc P f apart fresh handsOn again W args v W':=by
 obtain⟨p,q,hA,_⟩:=id hW;obtain⟨F,C,ax,h1,h2,h3⟩:=tq hz f.params.toList hats args.toList ds p hA (λj t v h h'=>hval j t v (by rw[<-Zm];exact h) (by rw[<-Zm];exact h')) aw;obtain⟨v,g,hs,rfl⟩:=call (B++C) ax ⟨C,rfl⟩ h3;refine(hs (gJ (E++F)) W args.toList h1.hr h2).mono λe W' ⟨cv,m',he,hv,_,hg⟩=>?_
 rw[VR]at hv;subst hv;exact⟨_,he,zG hlo hpar hrt htb hvars hfn hW (h1.below hg)⟩
end
end Go.Abs
namespace Go.Proofs.YtgplmdgpmbegiaaGreatDoor
open Go.Abs
noncomputable def vU:ah:=vT Tryz.prog Rows.houseSafeRow.laid 6
def Ek:vU[0]? =some (.cells Qf false false):=by kernel_rfl
def Ej:vU[2]? =some (.cells (Lib.pow10Tab.map (AV.int .u64)) false false):=by kernel_rfl
def Qh{k:ah}(e:Ext vU k):Gl k:=⟨_,_,e.some Ek⟩
def Qu{k:ah}(e:Ext vU k):Pw k:=⟨_,_,e.some Ej⟩
end Go.Proofs.YtgplmdgpmbegiaaGreatDoor
namespace Go.Proofs.YtgplmdgpmbegiaaGreatDoor
open Go.ChangeShapes Go.WideShapes Go.RowKit Go.Abs
def gf{a b:Bool}(h:a=true)(h':b=true):(a&&b)=true:=by rw[h,h'];rfl
def own:ownKnob Tryz.prog.godebug=none:=by kernel_rfl
def laidOut:laidOutB Tryz.prog=true:=by kernel_rfl
def Du:mapsRowed Tryz.prog=true:=by kernel_rfl
def Br:(Tryz.prog.stops==[])=true:=by kernel_rfl
def Bu:(Tryz.prog.stopKnobs==[])=true:=by kernel_rfl
def Bv:Tryz.prog.stopsHeard=true:=by kernel_rfl
def Bw:Tryz.prog.mayEnter=true:=by kernel_rfl
def Bt:(Rows.houseSafeRow.lifted==Tryz.prog.liftsFinal)=true:=by kernel_rfl
def Dv:(Tryz.prog.make==some Rows.houseSafeRow.make)=true:=by kernel_rfl
def Dy:(Rows.houseSafeRow.plainKeys==Tryz.prog.plainKeys)=true:=by kernel_rfl
def Dw:Tryz.prog.mainIs=some (true, "99e684478f8cae51b056da3a355f6848a653f6e5f09f29bc4422acb306b2dd43".toList):=by kernel_rfl
def Bs:true=Tryz.prog.looks []:=by kernel_rfl
def zv(os:Os)(args:Array Value):((World.laidAll Tryz.prog os Rows.houseSafeRow.laid).forCall (λ_ _=>0) ⟨#[],args,[]⟩).Shaped Tryz.prog:=World.shaped_of_ZipB (by kernel_rfl) (by kernel_rfl)
def Dx(os:Os)(args:Array Value):laidMetH Tryz.prog Rows.houseSafeRow.laid ((World.laidAll Tryz.prog os Rows.houseSafeRow.laid).forCall (λ_ _=>0) ⟨#[],args,[]⟩).memory:=by
 rw[MakeChecks.laidMetH_plain _ _ _ (by kernel_rfl)];exact laidMet_laidAll _ (by kernel_rfl) (by kernel_rfl)
end Go.Proofs.YtgplmdgpmbegiaaGreatDoor
namespace Go.Abs
def WR.BP{P:Program}{ro:Option Nat->Prop}{ks:List Kt}{ts:TS}{Q:Ex->TS->ah->Prop}{α:Type}{row:α->List AV}{L:List α}{B Y:ah}{s v:AV}{es i off:Nat}{x':α}{d:Option Nat}{l:List bI}
  (hs:Fr B.length Y s es (L.map row)) (he:Ext B Y) (hi:i<L.length) (ho:off<es) (hv:v.one=true) (hx:row x' =(row L[i]).set off v)
  (K:∀W5:ah,Ext B W5->W5.length=Y.length->Fr B.length W5 s es ((L.set i x').map row)->(∀b,sB s≠some b->W5[b]? =Y[b]?)->WP P ro l ks (put ts d az) W5 Q):
  WR P ro (aW 1 (lK s es i off) v (λb=>Y[b]?)) false d l ks ts Y Q:=by
 obtain⟨g,rfl⟩:=he;refine WR.vi (h0:=B) hs hi ho hv hx ?_;intro g' Q1 hff hkp;exact K _ ⟨_,rfl⟩ (by simp[Q1]) hff λb hb=>hkp b λb0 o n e he z=>hb (by rw[he,z];rfl)
set_option maxRecDepth 10000
attribute [local irreducible] WP WC WE WB WR WF WL WG gg WM
section
variable {P:Program}(T:fI P) {B X W:ah}{ts:TS}{V:RV}{x:EV}
include T
def zC(w:fk V.an)(ox:bt B x)(we:kT x.ev .accept)(nk:sI V.an x.ev .accept)(s:cH B X x V W V)(hlen:ts.length=250)(t2:slot ts 2=.ptr X.length 0)(t3:slot ts 3=.ptr (X.length+1) 0)(t4:slot ts 4=.ptr (X.length+2) 0):
  WC P bT zD [] ts W (FQ [(4,some (some 7)),(5,none)] (rT B X V (bC V.an x.ev .accept) (dz V.an x.ev .accept))):=by
 have ow:=ox.ext s.ex;have oV:=s.bk.o.ok;have QW:x.ev.kind=bA .accept:=cC we.kd;obtain⟨lr,le,sb,gm⟩:=cH.fa s;obtain⟨i0,d0⟩:=bO ow we 0 0 rfl De;obtain⟨j0,f0,q0⟩:=cZ ow we 0 0 rfl De;unfold zD fn225;simp only[ai.tl];have k0:aP x.ev 0∈gP V.an:=nk.kn 0 0 rfl;have Uy:x.ev.names=[aP x.ev 0]:=by
  have h1:=we.nl;obtain⟨n,hn⟩:∃n,x.ev.names=[n]:=List.length_eq_one_iff.1 h1;rw[aP,hn];rfl
 have hlt:aZ (gP V.an) (aP x.ev 0)<V.lines.length:=by have:=cM k0;simpa [gP,RV.an]using this
 have ei:cP (λy:gN=>decide (y.name=aP x.ev 0)) V.lines=(aZ (gP V.an) (aP x.ev 0):Int):=ep (f:=gN.name) k0;have sp:dO V.an (aP x.ev 0)=V.lines[aZ (gP V.an) (aP x.ev 0)]:=cV k0;obtain⟨p,hp⟩:∃p,p=aZ (gP V.an) (aP x.ev 0):=⟨_,rfl⟩;rw[<-hp]at ei;have hlt:p<V.lines.length:=by rw[hp];exact hlt
 have sp:dO V.an (aP x.ev 0)=V.lines[p]:=by rw[sp];congr 1;exact hp.symm
 refine o9 (FD @t2 @t3 @t4 @le @lr @bB @aN @aY @aE @QW @gU @Yp @Yi @j0 @f0 @i0 @d0) ?_;refine WF.ce T.c28 (r28 T (oV.ext Xx) w.len _) λg1=>?_
 rw[ei];obtain⟨W2,Rt⟩:∃Z,Z=W++g1:=⟨_,rfl⟩;rw[<-Rt];have Rb:cH B X x V W2 V:=by rw[Rt];exact eV.grow s ⟨g1,rfl⟩
 have ow:=ox.ext Rb.ex;have oV:=Rb.bk.o.ok;obtain⟨lr,le,sb,gm⟩:=cH.fa Rb;have on:=ow.n;rw[Uy]at on;have on1:=ow.n.one;refine Rs (A7 t2 t3 t4 @le @lr @aE @aN) ?_;refine WF.res T.c127 (r127 T (oV.ext Xx) w.len on Si) ?_;rintro ns g2 hns;obtain⟨W3,Ra⟩:∃Z,Z=W2++g2:=⟨_,rfl⟩;rw[<-Ra];have Rh:cH B X x V W3 V:=by rw[Ra];exact eV.grow Rb ⟨g2,rfl⟩
 have ow:=ox.ext Rh.ex;have oV:=Rh.bk.o.ok;obtain⟨lr,le,sb,gm⟩:=cH.fa Rh;rw[<-Ra]at hns;obtain⟨S,hS⟩:∃S,S=zI V.an (aP x.ev 0):=⟨_,rfl⟩;have hfS:(V.an.aj.filter λy=>decide (y.line∈[aP x.ev 0]))=S:=by
  rw[hS,zI];refine List.filter_congr λy _=>?_
  simp
 rw[hfS]at hns;have hSm:∀y∈S,y∈V.an.aj:=λy hy=>by rw[hS,zI]at hy;exact(Zd.1 hy).1
 have hSl:S.length<=64:=by
  have h1:S.length<=V.an.aj.length:=by rw[hS,zI];exact Yu _ _
  have:=w.l2;omega
 rw[ZD]at hns;have ix:aX 3 V.s0 (.i (p:Int))=some (cW V.s0 3 p,.au):=oV.i0.dM hlt;have l2:∀{k:ah},Ext W3 k->ar none (lK V.s0 3 p 2) (λb=>k[b]?)=some (.bool (dO V.an (aP x.ev 0)).acc,.au):=λ{k} e=>by rw[sp];exact oV.i0.pY hlt rfl e
 have l1:∀{k:ah},Ext W3 k->ar none (lK V.s0 3 p 1) (λb=>k[b]?)=some (.i (dO V.an (aP x.ev 0)).want,.au):=λ{k} e=>by rw[sp];exact oV.i0.pY hlt rfl e
 cases h1:(dO V.an (aP x.ev 0)).acc with
 |true=>
  rw[h1]at l2;refine Rs (o8 t2 t3 t4 ix @l2 @lr @aE @gk @sb @gm) ?_;rw[bC,X9 h1];exact C9
 |false=>
 rw[h1]at l2;by_cases h2:(S.length:Int)<(dO V.an (aP x.ev 0)).want
 case pos=>
  have e2:decide ((S.length:Int)<(dO V.an (aP x.ev 0)).want)=true:=XZ h2;refine Rs (Gu t2 t3 t4 ix @l2 @l1 hns.aM @lr @aE @gk e2 @sb @gm) ?_;rw[bC,X5 (by rw[h1];decide),X9 (by rw[<-hS];exact h2)];exact C9
 have e2:decide ((S.length:Int)<(dO V.an (aP x.ev 0)).want)=false:=XU h2;refine Rs (pa t2 t3 t4 ix @l2 @l1 hns.aM @lr @aE @gk e2) ?_;refine WL.inv T.mix (λm ts h'=>∃(k:Nat) (g:ah),k<=S.length/\m=S.length-k/\h' =W3++g/\(∀y∈S.take k,iI V.an y (bH x.ev 0)=true)/\ts.length=250/\slot ts 2=.ptr X.length 0/\slot ts 4=.ptr (X.length+2) 0/\slot ts 6=.i (bH x.ev 0)/\slot ts 9=.i (p:Int)/\slot ts 10=ns/\slot ts 11=.i k) S.length
  ⟨0,[],Om,rfl,by rw[Yo],(λy hy=>by cases hy),Sn,(Sq t2),(Sq t4),Sw,Sw,Sw,iQ⟩ ?_
 clear t2 t3 t4 hlen;rintro _ ts _ ⟨k,g,hk,rfl,rfl,hsf,hlen,t2,t4,t6,t9,t10,t11⟩;obtain⟨W4,RH⟩:∃Z,Z=W3++g:=⟨_,rfl⟩;rw[<-RH];have Sv:cH B X x V W4 V:=by rw[RH];exact eV.grow Rh ⟨g,rfl⟩
 have ow:=ox.ext Sv.ex;have oV:=Sv.bk.o.ok;obtain⟨lr,le,sb,gm⟩:=cH.fa Sv;have e34:Ext W3 W4:=⟨g,RH⟩;have hns:=hns.ext e34;by_cases RT:k<S.length
 ·have e3:decide ((k:Int)<S.length)=true:=XZ Om;have e5:=wrapN (n:=k) Om;have iy:=hns.dM (kk:=.i64) RT;obtain⟨y,hy⟩:∃y,y=S[k]:=⟨_,rfl⟩;have Sx:y∈V.an.aj:=hSm y (by rw[hy];exact Ya _);have lf:∀{kk:ah},Ext W4 kk->ar none (cW ns 1 k) (λb=>kk[b]?)=some (.str y.name,.au):=λ{kk} e=>hns.kS RT (by rw[<-hy];rfl) e
  have Tt:y.name∈mS V.an:=Ym Sx;have hps:=cM Tt;have Sj:aZ (mS V.an) y.name<V.aj.length:=by simpa [mS,RV.an]using hps
  have iz:aX 3 V.s2 (.i ((aZ (mS V.an) y.name:Nat):Int))=some (cW V.s2 3 (aZ (mS V.an) y.name),.au):=oV.i2.dM Sj;obtain⟨u,hu⟩:∃u,u=V.aj[aZ (mS V.an) y.name]:=⟨_,rfl⟩;have hum:u∈V.aj:=by rw[hu];exact Ya _
  have huy:u.1=y:=by
   have a1:qX V.an y.name=y:=ug w.n2.nd Sx;rw[qX,cV (f:=jP.name) (l:=V.an.aj) (d:=DV) Tt]at a1;rw[<-a1,hu];exact IK
  have ly:∀{kk:ah},Ext W4 kk->ar (some 3) (cW V.s2 3 (aZ (mS V.an) y.name)) (λb=>kk[b]?)=some (.agg (bn u),.au):=λ{kk} e=>by rw[hu];exact oV.i2.kR Sj e
  have ou:=oV.e2 u hum;have hul:=(w.yT.sh u hum);refine Rs (Gu t2 t4 t6 t9 t10 t11 hns.aM e3 @lr @fK @aE @iy @lf) ?_;refine WF.ce T.c22 (r22 T (oV.ext Xx) w.len _) λg3=>?_
  have ej:cP (λy':jP×AV=>decide (y'.1.name=y.name)) V.aj=(aZ (mS V.an) y.name:Int):=by
   rw[jW];exact ep (f:=λy:jP×AV=>y.1.name) (by rw[<-jW];exact Tt)
  rw[ej];refine Rs (A8 t2 t4 t6 t9 t10 t11 @iz @ly) ?_;refine WF.ce T.c23 (r23 T (oV.ext Xx) w.len (ou.ext Xx) hul.2 hul.1 _) λg4=>?_
  rw[huy];cases h4:iI V.an y (bH x.ev 0)with
  |false=>
   refine Rs (pa t2 t4 t6 t9 t10 t11 @Yr @lr @aE @sb @gm) ?_;rw[bC,X5 (by rw[h1];decide),X5 (by rw[<-hS];exact h2),X9 (by rw[<-hS];exact ZC.2 ⟨y,by rw[hy];exact Ya _,by rw[h4];rfl⟩)];exact cH.fin (eV.grow Sv (by rw[XV];exact⟨_,rfl⟩)) (λz=>absurd z De)
  |true=>
   refine Rs (A8 t2 t4 t6 t9 t10 t11 @Yk e5) ?_;refine⟨_,Om,k+1,g++g3++g4,Om,rfl,by rw[RH];simp only[XV],?_,rfl⟩;intro y' hy';exact PN
 ·have e3:decide ((k:Int)<S.length)=false:=XU Om;have e4:k=S.length:=Om
  rw[e4,Yz]at hsf;have R9:bC V.an x.ev .accept=0:=by
   rw[bC,X5 (by rw[h1];decide),X5 (by rw[<-hS];exact h2),X5];exact JA
  refine Rs (pa t2 t4 t6 t9 t10 t11 hns.aM e3 @lr @gk ix) ?_;refine WR.BP (B:=B) (x':={V.lines[p]with acc:=true}) (row:=cB) Sv.bk.o.i0 Sv.ex hlt De rfl rfl ?_;intro W5 x5 l5 hff hk5;have s5:cH B X x V W5 {V with lines:=V.lines.set p {V.lines[p]with acc:=true} }:=eV.q0 Sv hff (λi _ hne=>hk5 i hne) x5 Om;obtain⟨lr,_,sb,gm⟩:=cH.fa s5;refine Rs (o8 t2 t4 t6 t9 t10 t11 @lr @aE @sb @gm) ?_;exact Jn
end
structure Gs(X:ah)(x:EV)(U:RV)(h:ah):Prop where
 r:h[X.length]? =some (.b U.row)
 e:h[X.length+1]? =some (.b x.row)
 n:bt h x
theorem Gs.ext{X h k x U}(s:Gs X x U h)(e:Ext h k):Gs X x U k:=⟨e.some s.r,e.some s.e,s.n.ext e⟩
section
variable {P:Program}(T:fI P) {B X W:ah}{ts:TS}{V:RV}{x:EV}
include T
def DP(w:fk V.an)(ox:bt B x)(we:kT x.ev .copy)(nk:sI V.an x.ev .copy)(s:cH B X x V W V)(hlen:ts.length=250)(t2:slot ts 2=.ptr X.length 0)(t3:slot ts 3=.ptr (X.length+1) 0)(t4:slot ts 4=.ptr (X.length+2) 0):
  WC P bT zD [] ts W (FQ [(4,some (some 7)),(5,none)] (rT B X V (bC V.an x.ev .copy) (dz V.an x.ev .copy))):=by
 have ow:=ox.ext s.ex;have oV:=s.bk.o.ok;have QW:x.ev.kind=bA .copy:=cC we.kd;obtain⟨lr,le,sb,gm⟩:=cH.fa s;obtain⟨i0,d0⟩:=bO ow we 0 0 rfl De;obtain⟨i1,d1⟩:=bO ow we 1 1 rfl De;obtain⟨j0,f0,q0⟩:=cZ ow we 0 0 rfl De;unfold zD fn225;simp only[ai.tl];have k0:aP x.ev 0∈jK V.an:=nk.kn 0 1 rfl;have k1:aP x.ev 1∈jK V.an:=nk.kn 1 1 rfl;have S4:V.aj.length<=64:=by have:=w.l2;simpa [RV.an]using this
 have htp:∀y∈V.aj,y.1.aJ.length<2^30:=λy hy=>(w.yT.sh y hy).2
 by_cases h1:aP x.ev 0=aP x.ev 1
 case pos=>
  have e1:decide (aP x.ev 0=aP x.ev 1)=true:=XZ h1;refine o9 (MC t2 t3 t4 @le @lr @bB @aN @aY @aE @QW @gU @Yp @Yi @j0 @f0 @i0 @d0 @i1 @d1 e1 @sb @gm) ?_;rw[bC,X9 h1];exact GA
 have e1:decide (aP x.ev 0=aP x.ev 1)=false:=XU h1;refine o9 (PA t2 t3 t4 @le @lr @bB @aN @aY @aE @QW @gU @Yp @Yi @j0 @f0 @i0 @d0 @i1 @d1 e1) ?_;refine WF.ce T.c84 (r84 T (oV.ext Xx) w.len k0 _) λg1=>?_
 obtain⟨W2,Rt⟩:∃Z,Z=W++g1:=⟨_,rfl⟩;rw[<-Rt];have Rb:cH B X x V W2 V:=by rw[Rt];exact eV.grow s ⟨g1,rfl⟩
 have ow:=ox.ext Rb.ex;have oV:=Rb.bk.o.ok;obtain⟨lr,le,sb,gm⟩:=cH.fa Rb;obtain⟨i0,d0⟩:=bO ow we 0 0 rfl De;obtain⟨i1,d1⟩:=bO ow we 1 1 rfl De;obtain⟨j0,f0,q0⟩:=cZ ow we 0 0 rfl De;cases h2:jA V.an (bH x.ev 0) (aP x.ev 0)with
 |false=>
  refine Rs (A8 t2 t3 t4 @Yr @lr @aE @sb @gm) ?_;rw[bC,X5 h1,X9 (by rw[h2];rfl)];exact I6
 |true=>
 refine Rs (o8 t2 t3 t4 @Yk @le @lr @aE @aN @i1 @d1) ?_;refine WF.ce T.c84 (r84 T (oV.ext Xx) w.len k1 _) λg2=>?_
 obtain⟨W3,Ra⟩:∃Z,Z=W2++g2:=⟨_,rfl⟩;rw[<-Ra];have Rh:cH B X x V W3 V:=by rw[Ra];exact eV.grow Rb ⟨g2,rfl⟩
 have ow:=ox.ext Rh.ex;have oV:=Rh.bk.o.ok;obtain⟨lr,le,sb,gm⟩:=cH.fa Rh;obtain⟨i0,d0⟩:=bO ow we 0 0 rfl De;obtain⟨i1,d1⟩:=bO ow we 1 1 rfl De;obtain⟨j0,f0,q0⟩:=cZ ow we 0 0 rfl De;cases h3:jA V.an (bH x.ev 0) (aP x.ev 1)with
 |false=>
  refine Rs (A8 t2 t3 t4 @Yr @lr @aE @sb @gm) ?_;rw[bC,X5 h1,X5 (by rw[h2];decide),X9 (by rw[h3];rfl)];exact C9
 |true=>
 have R9:bC V.an x.ev .copy=0:=by rw[bC,X5 h1,X5 (by rw[h2];decide),X5 (by rw[h3];decide)]
 refine Rs (A4 t2 t3 t4 @Yk) ?_;obtain⟨a,ha⟩:∃a,a=aP x.ev 0:=⟨_,rfl⟩;obtain⟨z,hz⟩:∃z,z=aP x.ev 1:=⟨_,rfl⟩;refine WL.inv T.mix (λm ts W=>∃(k:Nat) (U:RV),k<=V.aj.length/\m=V.aj.length-k/\cH B X x V W U/\U.s2=V.s2/\U.aj.length=V.aj.length/\
   {U.an with aj:=V.an.aj} =V.an/\(∀i (hi:i<U.aj.length) (hi':i<V.aj.length),(U.aj[i]).1=if i<k then kD a z (V.aj[i]).1 else(V.aj[i]).1)/\
   ts.length=250/\slot ts 2=.ptr X.length 0/\slot ts 3=.ptr (X.length+1) 0/\slot ts 4=.ptr (X.length+2) 0/\slot ts 7=.i k) V.aj.length
  ⟨0,V,Om,rfl,Rh,rfl,rfl,rfl,λi hi hi'=>by rw[X5 Om],Sn,(Sq t2),(Sq t3),(Sq t4),iQ⟩ ?_
 clear t2 t3 t4 hlen i0 i1 d0 d1 j0 f0 oV ow lr le sb gm;rintro _ ts W4 ⟨k,U,hk,rfl,s,Rm,SW,hreg,hU,hlen,t2,t3,t4,t7⟩;have ow:=ox.ext s.ex;have oU:=s.bk.o.ok;obtain⟨lr,le,sb,gm⟩:=cH.fa s;by_cases hlt:k<V.aj.length
 ·have TZ:k<U.aj.length:=Om
  have e3:=fF hlt;have e5:=wrapN (n:=k) Om;have ll:∀(G:Nat->Option ak),Go.Abs.iV .sl G U.s2=some V.aj.length:=λG=>by rw[oU.i2.aM,SW]
  have ix:aX 3 U.s2 (.i (k:Int))=some (cW U.s2 3 k,.au):=oU.i2.dM TZ;have R0:U.aj[k]∈U.aj:=Ya _;have hx1:(U.aj[k]).1=(V.aj[k]).1:=by rw[hU k TZ hlt,X5 Om]
  have hxl:(U.aj[k]).1.aJ.length<2^30:=by rw[hx1];exact htp _ (Ya _)
  have UL:=s.bk.o.e2 _ R0;have next:∀(U2:RV),U2.aj.length=V.aj.length->(∀i (hi:i<U2.aj.length) (hi':i<U.aj.length),(U2.aj[i]).1=if i=k then kD a z (U.aj[i]).1 else(U.aj[i]).1)->
    ∀i (hi:i<U2.aj.length) (hi':i<V.aj.length),(U2.aj[i]).1=if i<k+1 then kD a z (V.aj[i]).1 else(V.aj[i]).1:=by
   intro U2 a3 a5 i hi hi';exact PT
  obtain⟨y,hy⟩:∃y,y=U.aj[k]:=⟨_,rfl⟩;have ly:∀{kk:ah},Ext W4 kk->ar none (lK U.s2 3 k 2) (λb=>kk[b]?)=some (y.2,.au):=λ{kk} e=>oU.i2.pY TZ (by rw[<-hy];rfl) e
  rw[<-hy]at UL hxl;have oy:=UL.a8.one;obtain⟨i0,d0⟩:=bO ow we 0 0 rfl De;obtain⟨i1,d1⟩:=bO ow we 1 1 rfl De;rw[<-ha]at d0;rw[<-hz]at d1;refine Rs (AH t2 t3 t4 t7 @lr @le @fK @ll e3 ix @ly @aN @i0 @d0) ?_;refine WF.ce T.c35 (r35 T (UL.a8.ext Xx) Om a) λg3=>?_
  by_cases c1:a∈y.1.aJ
  case neg=>
   have u1:decide (a∈y.1.aJ)=false:=XU c1;rw[u1];refine Rs (A5 t2 t3 t4 t7 e5) ?_;refine⟨_,Om,k+1,U,Om,rfl,eV.grow s ⟨g3,rfl⟩,Rm,SW,hreg,next U SW (λi hi hi'=>?_),rfl⟩;split
   ·rename_i SO;subst SO;rw[<-hy,kD,X5 (λw=>c1 w.1)]
   ·rfl
  have u1:decide (a∈y.1.aJ)=true:=XZ c1;rw[u1];refine Rs (A8 t2 t3 t4 t7 @le @aN @i1 @d1) ?_;refine WF.ce T.c35 (r35 T (UL.a8.ext Xx) Om z) λg4=>?_
  by_cases c2:z∈y.1.aJ
  ·have u2:decide (z∈y.1.aJ)=true:=XZ c2;rw[u2];refine Rs (A6 t2 t3 t4 t7 @Yk e5) ?_;refine⟨_,Om,k+1,U,Om,rfl,eV.grow s (by rw[XV];exact⟨_,rfl⟩),Rm,SW,hreg,next U SW (λi hi hi'=>?_),rfl⟩;split
   ·rename_i SO;subst SO;rw[<-hy,kD,X5 (λw=>w.2 c2)]
   ·rfl
  have u2:decide (z∈y.1.aJ)=false:=XU c2;rw[u2];refine Rs (A5 t2 t3 t4 t7 @Yr) ?_;obtain⟨W5,Tk⟩:∃Z,Z=W4++g3++g4:=⟨_,rfl⟩;rw[<-Tk];have Ww:Ext W4 W5:=by rw[Tk,XV];exact⟨_,rfl⟩
  have s5:cH B X x V W5 U:=eV.grow s Ww;have S5:Gs X x U W5:=⟨s5.bk.m,cH.Lw s5,ox.ext s5.ex⟩;have hfx5:=s5.bk.o.e2 y (by rw[hy];exact R0);refine oX (Gs X x U) ?_;refine de S5 rfl rfl ?_;refine Rs (A4 t2 t3 t4 t7) ?_;refine kU S5 (v:=U.s2) (λg hg=>?_) ?_
  ·simp only[aQ,aT,ba,bd,reduceAdd,reduceMul,reduceLeDiff,reduceEqDiff,bg,hlen,Yb,Yf,t2,aA hg.r,fK]
  refine Rs (A4 t2 t3 t4 t7) ?_;refine de S5 rfl rfl ?_;refine Rs (A4 t2 t3 t4 t7) ?_;refine de S5 rfl rfl ?_;refine Rs (A4 t2 t3 t4 t7) ?_;have S6:Gs X x U (W5++[ak.b []]):=S5.ext ⟨_,rfl⟩;refine de S6 rfl rfl ?_;refine Rs (A4 t2 t3 t4 t7) ?_;refine de S6 rfl rfl ?_;refine Rs (A4 t2 t3 t4 t7) ?_;obtain⟨n5,hn5⟩:∃n,n=W5.length:=⟨_,rfl⟩;refine WR.qo (N:=n5) (w:=16) bh (Nat.le_of_eq hn5) (hfx5.a8.ext Xx) (by simp only[X2];omega) λt0 g5 ft=>?_
  obtain⟨W6,SD⟩:∃Z,Z=W5++[ak.b []]++g5:=⟨_,rfl⟩;rw[<-SD]at ft ⊢;have e56:Ext W5 W6:=by rw[SD,XV];exact⟨_,rfl⟩
  have S7:Gs X x U W6:=S5.ext e56;have oq:=S7.n;have iq:aX 1 x.sn (.i 1)=_:=(wh oq we (i:=1) De).1;have p0:=ft.a8.one;refine Rs (A4 t2 t3 t4 t7) ?_;refine de S7 rfl rfl ?_;refine Rs (A4 t2 t3 t4 t7) ?_;refine kU S7 (v:=x.sn) (λg hg=>?_) ?_
  ·simp only[aQ,aT,ba,bd,reduceAdd,reduceMul,reduceLeDiff,reduceEqDiff,bg,hlen,Yb,Yf,t3,aA hg.e,aN]
  refine Rs (A4 t2 t3 t4 t7) ?_;refine de S7 rfl rfl ?_;refine Rs (A5 t2 t3 t4 t7 @iq) ?_;refine kU S7 (v:=.str z) (λg hg=>?_) ?_
  ·have h9:=@(wh hg.n we (i:=1) De).2;rw[<-hz]at h9;refine Zs t3 ?_;exact h9 (Ext.refl _)
  refine Rs (A4 t2 t3 t4 t7) ?_;refine de S7 rfl rfl ?_;refine Rs (A4 t2 t3 t4 t7) ?_;refine de (S7.ext ⟨_,rfl⟩) rfl rfl ?_;refine Rs (A4 t2 t3 t4 t7) ?_;rw[hn5]at ft;have s6:cH B X x V W6 U:=eV.grow s5 e56;refine WR.qp (B:=W5) (cs:=y.1.aJ.map ao) ft rfl e56 De (by simp only[X2];omega) ?_;intro W7 t' x7 hff hn7 q7 l7 hk7;have hrow:y.1.aJ.map ao++[[AV.str z]]=(y.1.aJ++[z]).map ao:=by rw[X4];rfl
  rw[hrow]at hff;have k7:∀i,i<W5.length->W7[i]? =W5[i]? :=λi hi=>x7.get hi
  have s7:cH B X x V W7 U:=eV.grow s5 x7;have S8:Gs X x U W7:=S5.ext x7;refine Rs (A4 t2 t3 t4 t7) ?_;refine oT S8 rfl ?_;have hs27:Fr B.length W7 U.s2 3 (U.aj.map bn):=s7.bk.o.i2;have ix:aX 3 U.s2 (.i (k:Int))=some (cW U.s2 3 k,.au):=oU.i2.dM TZ;refine Rs (A6 t2 t3 t4 t7 ix q7) ?_;refine WR.BP (B:=B) (x':=(⟨y.1.name,y.1.line,y.1.aJ++[z]⟩,t')) (row:=bn) hs27 s7.ex TZ De q7 (by rw[<-hy];rfl) ?_;intro W8 x8 l8 hf8 hk8;have ft8:Fr B.length W8 t' 1 ((y.1.aJ++[z]).map ao):=(hff.aB λi hi=>hk8 i λe=>by
   have h1:=(hff.bQ hi).1;have h2:=(s5.bk.o.dU (b:=i) (by rw[<-e];simp[RV.bl])).2;omega).low s5.ex.len
  have s8:cH B X x V W8 {U with aj:=U.aj.set k (⟨y.1.name,y.1.line,y.1.aJ++[z]⟩,t') }:=eV.qS s TZ hf8 ft8 (λj hj=>by have h1:=(hff.bQ hj).1;have:=Ww.len;omega) (λj hj n1 n2=>by
   rw[hk8 j n1,k7 j (by have:=Ww.len;omega)];exact Ww.get hj) x8 (by have:=Ww.len;have:=e56.len;omega)
  refine Rs (A5 t2 t3 t4 t7 e5) ?_;refine⟨_,Om,k+1,_,Om,rfl,s8,Rm,(by simp only[YD];exact SW),hreg,next _ (by simp only[YD];exact SW) (λi hi hi'=>?_),rfl⟩;by_cases SO:i=k
  ·subst SO;simp only[ZT,Yf];rw[<-hy,kD,X9 ⟨c1,c2⟩]
  ·exact z198
 ·have e3:decide ((k:Int)<V.aj.length)=false:=XU Om;have e4:k=V.aj.length:=Om
  have ll:∀(G:Nat->Option ak),Go.Abs.iV .sl G U.s2=some V.aj.length:=λG=>by rw[oU.i2.aM,SW]
  refine Rs (pa t2 t3 t4 t7 @lr @fK @ll e3 @aE @sb @gm) ?_;rw[R9];refine cH.fin s (λ_=>?_);exact z31
def Ci{d}(hd:d=.line\/d=.tape\/d=.gA\/d=.copy\/d=.accept)(o:cK B.length X V)(w:fk V.an)(hx:Ext B X)(ox:bt B x)(we:kT x.ev d)(nk:sI V.an x.ev d):
  dq P 225 [.agg V.row,.agg x.row] X (rT B X V (bC V.an x.ev d) (dz V.an x.ev d)):=by
 refine .of T.mix (aaw T.c225 (Yx some Np)) ?_;obtain⟨ts,QP⟩:∃ts,ts=aU 250 [.agg V.row,.agg x.row]:=⟨_,rfl⟩;have hlen:ts.length=250:=by rw[QP];rfl
 have t0:slot ts 0=.agg V.row:=by rw[QP];rfl
 have t1:slot ts 1=.agg x.row:=by rw[QP];rfl
 show WC P bT (.seq ((fn225).body.hd) zD) [] (aU 250 [.agg V.row,.agg x.row]) X (FQ [(4,some (some 7)),(5,none)] (rT B X V (bC V.an x.ev d) (dz V.an x.ev d)));rw[<-QP];clear QP;have QO:=@aC.box _ _ o.ok;have hex:=@bt.box _ _ (ox.ext hx);have s:cH B X x V (X++[.b V.row]++[.b x.row]++[.b kK]) V:=by
  exact z20
 unfold kK at s;generalize hB:zD=R;unfold fn225;simp only[ai.hd];refine Rs (A4 t0 t1 @QO @hex) ?_;rw[<-hB];rcases hd with rfl|rfl|rfl|rfl|rfl
 ·exact DO T w ox we nk s Sn Sw (by simp only[aQ,aT,ba,bd,reduceAdd,reduceMul,reduceLeDiff,reduceEqDiff,bg,hlen,Yb,Yf];simp) (by simp only[aQ,aT,ba,bd,reduceAdd,reduceMul,reduceLeDiff,reduceEqDiff,bg,hlen,Yb,Yf];simp)
 ·exact DM T w ox we nk s Sn Sw (by simp only[aQ,aT,ba,bd,reduceAdd,reduceMul,reduceLeDiff,reduceEqDiff,bg,hlen,Yb,Yf];simp) (by simp only[aQ,aT,ba,bd,reduceAdd,reduceMul,reduceLeDiff,reduceEqDiff,bg,hlen,Yb,Yf];simp)
 ·exact DN T w ox we nk s Sn Sw (by simp only[aQ,aT,ba,bd,reduceAdd,reduceMul,reduceLeDiff,reduceEqDiff,bg,hlen,Yb,Yf];simp) (by simp only[aQ,aT,ba,bd,reduceAdd,reduceMul,reduceLeDiff,reduceEqDiff,bg,hlen,Yb,Yf];simp)
 ·exact DP T w ox we nk s Sn Sw (by simp only[aQ,aT,ba,bd,reduceAdd,reduceMul,reduceLeDiff,reduceEqDiff,bg,hlen,Yb,Yf];simp) (by simp only[aQ,aT,ba,bd,reduceAdd,reduceMul,reduceLeDiff,reduceEqDiff,bg,hlen,Yb,Yf];simp)
 ·exact zC T w ox we nk s Sn Sw (by simp only[aQ,aT,ba,bd,reduceAdd,reduceMul,reduceLeDiff,reduceEqDiff,bg,hlen,Yb,Yf];simp) (by simp only[aQ,aT,ba,bd,reduceAdd,reduceMul,reduceLeDiff,reduceEqDiff,bg,hlen,Yb,Yf];simp)
end
def eV.La{B W0 W W2 b K U}(s:eV B W0 b K W U)(hk:∀i,i<W.length->W2[i]? =W[i]?)(hl:W.length<=W2.length)(hx:Ext B W2):eV B W0 b K W2 U:=by
 refine⟨⟨s.bk.o.au λi hi=>hk i (s.bk.o.dU hi).2,s.bk.hN,(hk _ s.bk.lt).trans s.bk.m,s.bk.ne⟩,hx,YI s.ln hl,λi hi=>?_,s.kl⟩;rw[hk i (YM (s.kl i hi).1 s.ln)];exact s.kp i hi
structure uL(B W Y:ah)(mb:Nat)(c:List AV)(t:AV)(ins:List (By)):Prop where
 k:∀i,i<W.length->Y[i]? =W[i]?
 b:B.length<=W.length
 l:W.length<=mb
 x:Ext B Y
 m:Y[mb]? =some (.b c)
 f:Fr W.length Y t 1 (ins.map ao)
 n:∀i,sB t=some i->i≠mb
def uL.lt{B W Y mb c t ins}(s:uL B W Y mb c t ins):mb<Y.length:=(XT.1 s.m).1
def uL.grow{B W Y Y2 mb c t ins}(s:uL B W Y mb c t ins)(e:Ext Y Y2):uL B W Y2 mb c t ins:=by
 have h1:=s.lt;have h2:=s.l;exact⟨λi hi=>by rw[e.get Om,s.k i hi],s.b,s.l,s.x.trans e,e.some s.m,s.f.ext e,s.n⟩
theorem uL.set{B W Y mb c t ins}(s:uL B W Y mb c t ins)(c':List AV):uL B W (Y.set mb (.b c')) mb c' t ins:=by
 have h1:=s.lt;have h2:=s.l;have h3:=s.b;exact⟨λi hi=>by rw[Yc Om,s.k i hi],s.b,s.l,s.x.iR Om,Yd h1,s.f.aB λi hi=>Yc (Zk (s.n i hi)),s.n⟩
def uL.rc{B X W Y x V mb c t ins}(s:uL B W Y mb c t ins)(r:cH B X x V W V):cH B X x V Y V:=
 eV.La r s.k (by have:=s.lt;have:=s.l;omega) s.x
def uL.st{B W Y mb c t ins}(s:uL B W Y mb c t ins){i v}(hv:v.one=true)(hi:i+1<=c.length):aW 1 (.ptr mb i) v (λz=>Y[z]?)=some (az,.set mb (.b (c.set i v))):=
 (aL s.m).trans (bY hv hi)
def wu(k:Nat):ai:=(fn226).body.dr k
def ER(k:Nat):ai:=((fn226).body.dr k).hd
def Pa:wu 1=.seq (ER 1) (wu 2):=rfl
def Ib:wu 2=.seq (ER 2) (wu 3):=rfl
def Pb:fn226=⟨96,2,[(4,some (some 7)),(5,none)],.seq (ER 0) (wu 1)⟩:=rfl
section
variable {P:Program}(T:fI P) {B X W Y:ah}{ts:TS}{V:RV}{x:EV}{mb:Nat}
include T
theorem uo(w:fk V.an)(s:cH B X x V W V){y t ins}(hb:uL B W Y mb [.str y.name,.str y.gives,.str y.line,t] t ins)(hy:y.bu=ins)(hlen:ts.length=96)(t2:slot ts 2=.ptr X.length 0)(t4:slot ts 4=.ptr (X.length+2) 0)(t6:slot ts 6=.ptr mb 0):
  WC P bT (wu 3) [] ts Y (FQ [(4,some (some 7)),(5,none)] (rT B X V (if 32<=V.an.aD.length then 5 else 0) {V.an with aD:=V.an.aD++[y] })):=by
 have sY:=hb.rc s;have oV:=sY.bk.o.ok;have lm:=@e9 _ _ _ hb.m;have hml:V.an.aD.length=V.aD.length:=by simp[RV.an]
 have ot:=hb.f.a8.one;obtain⟨lr,le,sb,gm⟩:=cH.fa sY;unfold wu fn226;simp only[ai.j,ai.s,ai.r,ai.dr,ai.tl];by_cases h1:32<=V.aD.length
 case pos=>
  have e1:decide ((32:Int)<=(V.aD.length:Int))=true:=XZ Om;refine Rs (o8 t2 t4 t6 @lr @fS oV.i3.aM e1 @aE @sb @gm) ?_;rw[hml,X9 h1];exact I5
 have e1:decide ((32:Int)<=(V.aD.length:Int))=false:=XU Om;obtain⟨z,hz⟩:∃z:List AV,z=aV (y,t):=⟨_,rfl⟩;have SJ:[AV.str y.name,.str y.gives,.str y.line,t]=z:=by rw[hz];rfl
 refine Rs (A9 t2 t4 t6 @lr @fS oV.i3.aM e1 @lm @ot) ?_;rw[SJ];refine WR.qp (B:=B) (cs:=V.aD.map aV) (sY.bk.o.i3) (by rw[hz];rfl) sY.ex De (by rw[X2];omega) ?_;intro W5 s' x5 hff hn5 q5 l5 hk5;have hrow:V.aD.map aV++[z]=(V.aD++[(y,t)]).map aV:=by rw[X4,hz];rfl
 rw[hrow]at hff;have hlW:W.length<=Y.length:=by have:=hb.lt;have:=hb.l;omega
 have bW:∀i,sB t=some i->sB V.s3≠some i:=λi hi e=>by
  have h1:=(hb.f.bQ hi).1;have h2:=(s.bk.o.dU (b:=i) (by rw[<-e];simp[RV.bl])).2;omega
 have f5:Fr B.length W5 t 1 (y.bu.map ao):=by
  rw[hy];exact(hb.f.aB λi hi=>hk5 i (hb.f.bQ hi).2 (bW i hi)).low hb.b
 have s5:cH B X x V (W5.set X.length (.b (V.row.set 4 s'))) {V with aD:=V.aD++[(y,t)],s3:=s'}:=eV.p3 s hff f5 (λi hi=>.inr (by have:=hn5 i hi;omega)) (λi hi=>⟨(hb.f.bQ hi).1,λe=>by have:=hn5 i e;have:=(hb.f.bQ hi).2;omega⟩) (λi hi hne=>(hk5 i Om hne).trans (hb.k i hi)) x5 Om;have mB:W5[X.length]? =some (.b V.row):=(hk5 _ sY.bk.lt (λz=>sY.bk.ne (by rw[<-z];simp[RV.bl]))).trans sY.bk.m;have Su:aW 1 (.ptr X.length 4) s' (λz=>W5[z]?)=some (az,.set X.length (.b (V.row.set 4 s'))):=(aL mB).trans (bY q5 (by show 4+1<=7;omega));refine Rs (A5 t2 t4 t6 @Su q5) ?_;obtain⟨W6,SD⟩:∃Z,Z=W5.set X.length (.b (V.row.set 4 s')):=⟨_,rfl⟩
 rw[<-SD]at s5 ⊢;obtain⟨lr,le,sb,gm⟩:=cH.fa s5;refine Rs (A7 t2 t4 t6 @lr @aE @sb @gm) ?_;rw[hml,X5 h1];exact cH.fin s5 (λ_=>by simp only[RV.an,X4,YR,ZM])
variable {t:AV}
def An(w:fk V.an)(ox:bt B x)(we:kT x.ev .source)(nk:sI V.an x.ev .source)(s:cH B X x V W V)(hb:uL B W Y mb [.str (aP x.ev 0),.str [],.str [],t] t (x.ev.names.drop 1))(ht:t.one=true)(hlen:ts.length=96)(t2:slot ts 2=.ptr X.length 0)(t3:slot ts 3=.ptr (X.length+1) 0)(t4:slot ts 4=.ptr (X.length+2) 0)(t6:slot ts 6=.ptr mb 0):
  WC P bT (wu 2) [] ts Y (FQ [(4,some (some 7)),(5,none)] (rT B X V (bC V.an x.ev .source) (dz V.an x.ev .source))):=by
 have sY:=hb.rc s;have ow:=ox.ext sY.ex;have oV:=sY.bk.o.ok;have QW:x.ev.kind=bA .source:=cC we.kd;have lm:=@e9 _ _ _ hb.m;obtain⟨lr,le,sb,gm⟩:=cH.fa sY;rw[Ib];generalize hR:wu 3=R;unfold ER fn226;simp only[ai.j,ai.s,ai.r,ai.dr,ai.tl,ai.hd];refine o9 (qt t2 t3 t4 t6 @le @bB @QW @ia @jZ @ji @Yp @Yi) ?_;refine oX (λg=>cH B X x V g V) ?_;refine de sY rfl rfl ?_;refine Rs (A4 t2 t3 t4 t6) ?_;refine kU sY (v:=x.sn) (λg hg=>?_) ?_
 ·simp only[aQ,aT,ba,bd,reduceAdd,reduceMul,reduceLeDiff,reduceEqDiff,bg,hlen,Yb,Yf,t3,cH.le hg (Ext.refl _),aN]
 refine Rs (A4 t2 t3 t4 t6) ?_;have i1:aX 1 x.sn (.i 1)=_:=(wh ow we (i:=1) De).1;refine de sY rfl rfl ?_;refine Rs (A5 t2 t3 t4 t6 @i1) ?_;refine kU sY (v:=.str (aP x.ev 1)) (λg hg=>?_) ?_
 ·have h9:=@(wh (ox.ext (eV.ex hg)) we (i:=1) De).2;refine Zs t3 ?_;exact h9 (Ext.refl _)
 refine Rs (A4 t2 t3 t4 t6) ?_;refine de sY rfl rfl ?_;refine Rs (A4 t2 t3 t4 t6) ?_;have Rk:=hb.set [.str (aP x.ev 0),.str dS,.str [],t];have kV:aW 1 (.ptr mb 1) (.str [115,104,111,116,115]) (λz=>Y[z]?)=some (az,.set mb (.b [.str (aP x.ev 0),.str dS,.str [],t])):=hb.st rfl (by show 1+1<=4;omega);obtain⟨Y1,US⟩:∃Z,Z=Y.set mb (.b [.str (aP x.ev 0),.str dS,.str [],t]):=⟨_,rfl⟩;rw[<-US]at Rk;refine de sY rfl rfl ?_;refine Rs (A5 t2 t3 t4 t6 @kV) ?_;rw[<-US];have S1:=Rk.rc s;refine oT S1 rfl ?_;have Rx:=Rk.set [.str (aP x.ev 0),.str dS,.str (aP x.ev 1),t];have eG:aW 1 (.ptr mb 2) (.str (aP x.ev 1)) (λz=>Y1[z]?)=some (az,.set mb (.b [.str (aP x.ev 0),.str dS,.str (aP x.ev 1),t])):=Rk.st rfl (by show 2+1<=4;omega)
 have T3:=Rx.set [.str (aP x.ev 0),.str dS,.str (aP x.ev 1),.af];have nL:aW 1 (.ptr mb 3) .af (λz=>(Y1.set mb (.b [.str (aP x.ev 0),.str dS,.str (aP x.ev 1),t]))[z]?)=some (az,.set mb (.b [.str (aP x.ev 0),.str dS,.str (aP x.ev 1),.af])):=Rx.st rfl (by show 3+1<=4;omega);have hb4:uL B W _ mb [.str (aP x.ev 0),.str dS,.str (aP x.ev 1),.af] .af []:=⟨T3.k,T3.b,T3.l,T3.x,T3.m,.nil,λi hi=>by cases hi⟩;refine Rs (A6 t2 t3 t4 t6 @eG @nL) ?_;rw[<-hR];exact uo T w s (y:=⟨aP x.ev 0,dS,aP x.ev 1,[]⟩) hb4 rfl Sn (Sq t2) (Sq t4) (Sq t6)
def EP(w:fk V.an)(ox:bt B x)(we:kT x.ev .fY)(nk:sI V.an x.ev .fY)(s:cH B X x V W V)(hb:uL B W Y mb [.str (aP x.ev 0),.str [],.str [],t] t (x.ev.names.drop 1))(ht:t.one=true)(hlen:ts.length=96)(t2:slot ts 2=.ptr X.length 0)(t3:slot ts 3=.ptr (X.length+1) 0)(t4:slot ts 4=.ptr (X.length+2) 0)(t6:slot ts 6=.ptr mb 0):
  WC P bT (wu 2) [] ts Y (FQ [(4,some (some 7)),(5,none)] (rT B X V (bC V.an x.ev .fY) (dz V.an x.ev .fY))):=by
 have sY:=hb.rc s;have ow:=ox.ext sY.ex;have oV:=sY.bk.o.ok;have QW:x.ev.kind=bA .fY:=cC we.kd;have lm:=@e9 _ _ _ hb.m;obtain⟨lr,le,sb,gm⟩:=cH.fa sY;obtain⟨i1,d1⟩:=bO ow we 1 1 rfl De;obtain⟨j1,f1,q1⟩:=cZ ow we 1 1 rfl De;have k1:aP x.ev 1∈hO V.an:=nk.kn 1 3 rfl;rw[Ib];generalize hR:wu 3=R;unfold ER fn226;simp only[ai.j,ai.s,ai.r,ai.dr,ai.tl,ai.hd];refine o9 (C6 t2 t3 t4 t6 @le @lr @aN @aY @aE @bB @QW @ia @jZ @ji @Yp @Yi @j1 @f1) ?_;refine WF.ce T.c20 (r20 T _ _ _) λg1=>?_
 obtain⟨Y1,US⟩:∃Z,Z=Y++g1:=⟨_,rfl⟩;rw[<-US];have hb:=hb.grow (show Ext Y Y1 from⟨g1,US⟩);have sY:=hb.rc s;have ow:=ox.ext sY.ex;have oV:=sY.bk.o.ok;have lm:=@e9 _ _ _ hb.m;obtain⟨lr,le,sb,gm⟩:=cH.fa sY;obtain⟨i1,d1⟩:=bO ow we 1 1 rfl De;obtain⟨j1,f1,q1⟩:=cZ ow we 1 1 rfl De;by_cases h1:bE (bH x.ev 1) 1 4=0
 case neg=>
  have e1:decide (bE (bH x.ev 1) 1 4≠0)=true:=XZ h1;refine Rs (A8 t2 t3 t4 e1 @lr @aE @sb @gm) ?_;rw[bC,X9 h1];exact I5
 have e1:decide (bE (bH x.ev 1) 1 4≠0)=false:=XU (λz=>z h1);refine Rs (qt t2 t3 t4 t6 @le @lr @aN @aY @aE e1 @j1 @f1) ?_;refine WF.ce T.c263 (r263 T _) λg2=>?_
 obtain⟨Y2,Tj⟩:∃Z,Z=Y1++g2:=⟨_,rfl⟩;rw[<-Tj];have hb:=hb.grow (show Ext Y1 Y2 from⟨g2,Tj⟩);have sY:=hb.rc s;have ow:=ox.ext sY.ex;have oV:=sY.bk.o.ok;have lm:=@e9 _ _ _ hb.m;obtain⟨lr,le,sb,gm⟩:=cH.fa sY;obtain⟨i1,d1⟩:=bO ow we 1 1 rfl De;obtain⟨j1,f1,q1⟩:=cZ ow we 1 1 rfl De;refine Rs (pa t2 t3 t4 t6 @le @lr @aN @aY @aE @i1 @d1) ?_;refine WF.ce T.c264 (r264 T (oV.ext Xx) w.len k1) λg3=>?_
 obtain⟨Y3,hY3⟩:∃Z,Z=Y2++g3:=⟨_,rfl⟩;rw[<-hY3];have hb:=hb.grow (show Ext Y2 Y3 from⟨g3,hY3⟩);have sY:=hb.rc s;have ow:=ox.ext sY.ex;have oV:=sY.bk.o.ok;have lm:=@e9 _ _ _ hb.m;obtain⟨lr,le,sb,gm⟩:=cH.fa sY;by_cases h2:(gS V.an (aP x.ev 1)).gives=mP (bH x.ev 1)
 case neg=>
  have e2:decide ((gS V.an (aP x.ev 1)).gives≠mP (bH x.ev 1))=true:=XZ h2;refine Rs (A9 t2 t3 t4 t6 e2 @lr @aE @sb @gm) ?_;rw[bC,X5 (λz=>z h1),X9 h2];exact I5
 have e2:decide ((gS V.an (aP x.ev 1)).gives≠mP (bH x.ev 1))=false:=XU (λz=>z h2);have Rk:=hb.set [.str (aP x.ev 0),.str (jN (bH x.ev 1)),.str [],t];have kV:aW 1 (.ptr mb 1) (.str (jN (bH x.ev 1))) (λz=>Y3[z]?)=some (az,.set mb (.b [.str (aP x.ev 0),.str (jN (bH x.ev 1)),.str [],t])):=hb.st rfl (by show 1+1<=4;omega);refine Rs (A6 t2 t3 t4 t6 e2 @kV) ?_;rw[<-hR];have hc:bC V.an x.ev .fY=if 32<=V.an.aD.length then 5 else 0:=by rw[bC,X5 (λz=>z h1),X5 (λz=>z h2)]
 rw[hc];exact uo T w s (y:=⟨aP x.ev 0,jN (bH x.ev 1),[],x.ev.names.drop 1⟩) Rk rfl Sn (Sq t2) (Sq t4) (Sq t6)
def CH(w:fk V.an)(ox:bt B x)(we:kT x.ev .merge)(nk:sI V.an x.ev .merge)(s:cH B X x V W V)(hb:uL B W Y mb [.str (aP x.ev 0),.str [],.str [],t] t (x.ev.names.drop 1))(ht:t.one=true)(hlen:ts.length=96)(t2:slot ts 2=.ptr X.length 0)(t3:slot ts 3=.ptr (X.length+1) 0)(t4:slot ts 4=.ptr (X.length+2) 0)(t6:slot ts 6=.ptr mb 0):
  WC P bT (wu 2) [] ts Y (FQ [(4,some (some 7)),(5,none)] (rT B X V (bC V.an x.ev .merge) (dz V.an x.ev .merge))):=by
 have sY:=hb.rc s;have ow:=ox.ext sY.ex;have oV:=sY.bk.o.ok;have QW:x.ev.kind=bA .merge:=cC we.kd;have lm:=@e9 _ _ _ hb.m;obtain⟨lr,le,sb,gm⟩:=cH.fa sY;obtain⟨i1,d1⟩:=bO ow we 1 1 rfl De;obtain⟨i2,d2⟩:=bO ow we 2 2 rfl De;have k1:aP x.ev 1∈hO V.an:=nk.kn 1 3 rfl;have k2:aP x.ev 2∈hO V.an:=nk.kn 2 3 rfl;rw[Ib];generalize hR:wu 3=R;unfold ER fn226;simp only[ai.j,ai.s,ai.r,ai.dr,ai.tl,ai.hd];by_cases h1:aP x.ev 1=aP x.ev 2
 case pos=>
  have e1:decide (aP x.ev 1=aP x.ev 2)=true:=XZ h1;refine o9 (Qk @t2 @t3 @t4 @t6 @le @lr @aN @aY @aE @bB @QW @ia @jZ @ji @Yp @Yi @i1 @d1 @i2 @d2 @e1 @sb @gm) ?_;rw[bC,X9 h1];exact I5
 have e1:decide (aP x.ev 1=aP x.ev 2)=false:=XU h1;refine o9 (Ql @t2 @t3 @t4 @t6 @le @lr @aN @aY @aE @bB @QW @ia @jZ @ji @Yp @Yi @i1 @d1 @i2 @d2 @e1) ?_;refine WF.ce T.c264 (r264 T (oV.ext Xx) w.len k1) λg2=>?_
 obtain⟨Y1,US⟩:∃Z,Z=Y++g2:=⟨_,rfl⟩;rw[<-US];have hb:=hb.grow (show Ext Y Y1 from⟨g2,US⟩);have sY:=hb.rc s;have ow:=ox.ext sY.ex;have oV:=sY.bk.o.ok;have lm:=@e9 _ _ _ hb.m;obtain⟨lr,le,sb,gm⟩:=cH.fa sY;have Rk:=hb.set [.str (aP x.ev 0),.str (gS V.an (aP x.ev 1)).gives,.str [],t];have kV:aW 1 (.ptr mb 1) (.str (gS V.an (aP x.ev 1)).gives) (λz=>Y1[z]?)=some (az,.set mb (.b [.str (aP x.ev 0),.str (gS V.an (aP x.ev 1)).gives,.str [],t])):=hb.st rfl (by show 1+1<=4;omega);refine Rs (A5 t2 t3 t4 t6 @kV) ?_;obtain⟨Y2,Tj⟩:∃Z,Z=Y1.set mb (.b [.str (aP x.ev 0),.str (gS V.an (aP x.ev 1)).gives,.str [],t]):=⟨_,rfl⟩
 rw[<-Tj]at Rk ⊢;have hb:=Rk;obtain⟨Y3,hY3⟩:∃Z,Z=Y2++[]:=⟨_,rfl⟩;rw[Yo]at hY3;rw[<-hY3];have hb:=hb.grow (show Ext Y2 Y3 from⟨[],by rw[Yo];exact hY3⟩);have sY:=hb.rc s;have ow:=ox.ext sY.ex;have oV:=sY.bk.o.ok;have lm:=@e9 _ _ _ hb.m;obtain⟨lr,le,sb,gm⟩:=cH.fa sY;obtain⟨i1,d1⟩:=bO ow we 1 1 rfl De;obtain⟨i2,d2⟩:=bO ow we 2 2 rfl De;refine Rs (pa t2 t3 t4 t6 @le @lr @aN @aY @aE @i2 @d2) ?_;refine WF.ce T.c264 (r264 T (oV.ext Xx) w.len k2) λg3=>?_
 obtain⟨Y4,hY4⟩:∃Z,Z=Y3++g3:=⟨_,rfl⟩;rw[<-hY4];have hb:=hb.grow (show Ext Y3 Y4 from⟨g3,hY4⟩);have sY:=hb.rc s;have ow:=ox.ext sY.ex;have oV:=sY.bk.o.ok;have lm:=@e9 _ _ _ hb.m;obtain⟨lr,le,sb,gm⟩:=cH.fa sY;by_cases h2:(gS V.an (aP x.ev 1)).gives=(gS V.an (aP x.ev 2)).gives
 case neg=>
  have e2:decide ((gS V.an (aP x.ev 2)).gives≠(gS V.an (aP x.ev 1)).gives)=true:=XZ (λz=>h2 z.symm);refine Rs (o8 t2 t3 t4 t6 @lm e2 @lr @aE @sb @gm) ?_;rw[bC,X5 h1,X9 h2];exact I5
 have e2:decide ((gS V.an (aP x.ev 2)).gives≠(gS V.an (aP x.ev 1)).gives)=false:=XU (λz=>z h2.symm);refine Rs (A6 t2 t3 t4 t6 @lm e2) ?_;rw[<-hR];have hc:bC V.an x.ev .merge=if 32<=V.an.aD.length then 5 else 0:=by rw[bC,X5 h1,X5 (λz=>z h2)]
 rw[hc];exact uo T w s (y:=⟨aP x.ev 0,(gS V.an (aP x.ev 1)).gives,[],x.ev.names.drop 1⟩) hb rfl Sn (Sq t2) (Sq t4) (Sq t6)
omit T in
theorem FU(o:cK B.length X V)(hx:Ext B X):cH B X x V (X++[.b V.row]++[.b x.row]++[.b kK]) V:=by
 exact z20
def CG{d}(hd:d=.source\/d=.fY\/d=.merge)(w:fk V.an)(ox:bt B x)(we:kT x.ev d)(nk:sI V.an x.ev d)(s:cH B X x V W V)(hlen:ts.length=96)(t2:slot ts 2=.ptr X.length 0)(t3:slot ts 3=.ptr (X.length+1) 0)(t4:slot ts 4=.ptr (X.length+2) 0):
  WC P bT (wu 1) [] ts W (FQ [(4,some (some 7)),(5,none)] (rT B X V (bC V.an x.ev d) (dz V.an x.ev d))):=by
 have ow:=ox.ext s.ex;have hn1:1<=x.ev.names.length:=by rw[we.nl];rcases hd with rfl|rfl|rfl<;>decide
 have hn3:x.ev.names.length<=3:=by rw[we.nl];rcases hd with rfl|rfl|rfl<;>decide
 have Ub:0<(bM d).length:=by rw[<-we.nl];exact hn1
 obtain⟨i0,d0⟩:=bO ow we 0 0 rfl Ub;obtain⟨lr,le,sb,gm⟩:=cH.fa s;obtain⟨s',es',QQ⟩:=ow.n.FG (lo:=some (.i 1)) (hi:=none) (mA (k:=1) hn1);have et:List.take (x.ev.names.length-1) (List.drop 1 x.ev.names)=x.ev.names.drop 1:=YE Si;rw[et]at QQ;rw[Pa];generalize hR:wu 2=R;unfold ER fn226;simp only[ai.j,ai.s,ai.r,ai.dr,ai.tl,ai.hd];refine Rs (A8 t2 t3 t4 @le @aN @i0 @d0 @es') ?_;refine WR.qo (N:=W.length) (w:=16) bh (X8 _) (QQ.ext Xx) (by simp only[X2,Z9];omega) λt g f=>?_
 have ot:=f.a8.one;obtain⟨Y,hY⟩:∃Z,Z=W++[ak.b []]++g:=⟨_,rfl⟩;rw[<-hY]at f ⊢;have eY:Ext W Y:=by rw[hY,XV];exact⟨_,rfl⟩
 refine Rs (A4 t2 t3 t4 @ot) ?_;have hb:uL B W (Y++[ak.b [AV.str (aP x.ev 0),.str [],.str [],t]]) Y.length [AV.str (aP x.ev 0),.str [],.str [],t] t (x.ev.names.drop 1):=by
  refine⟨λi hi=>?_,s.ex.len,eY.len,s.ex.trans (eY.trans ⟨_,rfl⟩),bh,f.app _,λi hi e=>?_⟩
  ·rw[XW (by have:=eY.len;omega),eY.get hi]
  ·have:=(f.bQ hi).2;omega
 rw[<-hR];rcases hd with rfl|rfl|rfl
 ·exact An T w ox we nk s hb ot Sn (Sq t2) (Sq t3) (Sq t4) Sw
 ·exact EP T w ox we nk s hb ot Sn (Sq t2) (Sq t3) (Sq t4) Sw
 ·exact CH T w ox we nk s hb ot Sn (Sq t2) (Sq t3) (Sq t4) Sw
def HG{d}(hd:d=.source\/d=.fY\/d=.merge)(o:cK B.length X V)(w:fk V.an)(hx:Ext B X)(ox:bt B x)(we:kT x.ev d)(nk:sI V.an x.ev d):
  dq P 226 [.agg V.row,.agg x.row] X (rT B X V (bC V.an x.ev d) (dz V.an x.ev d)):=by
 refine .of T.mix (aaw T.c226 (Yx some Pb)) ?_;obtain⟨ts,QP⟩:∃ts,ts=aU 96 [.agg V.row,.agg x.row]:=⟨_,rfl⟩;have hlen:ts.length=96:=by rw[QP];rfl
 have t0:slot ts 0=.agg V.row:=by rw[QP];rfl
 have t1:slot ts 1=.agg x.row:=by rw[QP];rfl
 show WC P bT (.seq (ER 0) (wu 1)) [] (aU 96 [.agg V.row,.agg x.row]) X (FQ [(4,some (some 7)),(5,none)] (rT B X V (bC V.an x.ev d) (dz V.an x.ev d)));rw[<-QP];clear QP;have QO:=@aC.box _ _ o.ok;have hex:=@bt.box _ _ (ox.ext hx);have s:cH B X x V (X++[.b V.row]++[.b x.row]++[.b kK]) V:=FU o hx;unfold kK at s;generalize hR:wu 1=R;unfold ER fn226;simp only[ai.dr,ai.hd];refine Rs (A4 t0 t1 @QO @hex) ?_;rw[<-hR];exact CG T hd w ox we nk s Sn Sw (by simp only[aQ,aT,ba,bd,reduceAdd,reduceMul,reduceLeDiff,reduceEqDiff,bg,hlen,Yb,Yf];simp) (by simp only[aQ,aT,ba,bd,reduceAdd,reduceMul,reduceLeDiff,reduceEqDiff,bg,hlen,Yb,Yf];simp)
end
def Aj(k:Nat):ai:=(fn227).body.dr k
def O1(k:Nat):ai:=((fn227).body.dr k).hd
def O0:fn227=⟨223,2,[(4,some (some 7)),(5,none)],.seq (O1 0) (Aj 1)⟩:=rfl
structure Ps(V:RV)(n:By)(p:Nat)(J:jv×AV):Prop where
 ps:p=aZ (fM V.an) n
 lt:p<V.aG.length
 g:V.aG[p]? =some J
 e:J.1=eS V.an n
 m:J∈V.aG
 i:cP (λy:jv×AV=>decide (y.1.name=n)) V.aG=(p:Int)
def Oc{V n}(hn:n∈fM V.an):∃p J,Ps V n p J:=by
 have hlt:aZ (fM V.an) n<V.aG.length:=by have:=cM hn;simpa [fM,RV.an]using this
 refine⟨_,V.aG[aZ (fM V.an) n],rfl,hlt,XY hlt,?_,Ya _,?_⟩
 ·rw[eS,cV (f:=jv.name) (l:=V.an.aG) (d:=tU) hn];exact IK
 ·rw[eF];exact ep (f:=λy:jv×AV=>y.1.name) (by rw[<-eF];exact hn)
theorem Ps.at{V n p J}(j:Ps V n p J):V.aG[p]'j.lt=J:=by
 have:=j.g;rw[XY j.lt]at this;exact YU this
section
variable {P:Program}(T:fI P) {B X W:ah}{ts:TS}{V:RV}{x:EV}
include T
def Ia(w:fk V.an)(ox:bt B x)(we:kT x.ev .rel)(nk:sI V.an x.ev .rel)(s:cH B X x V W V)(hlen:ts.length=223)(t2:slot ts 2=.ptr X.length 0)(t3:slot ts 3=.ptr (X.length+1) 0)(t4:slot ts 4=.ptr (X.length+2) 0):
  WC P bT (Aj 1) [] ts W (FQ [(4,some (some 7)),(5,none)] (rT B X V (bC V.an x.ev .rel) (dz V.an x.ev .rel))):=by
 have ow:=ox.ext s.ex;have oV:=s.bk.o.ok;have QW:x.ev.kind=bA .rel:=cC we.kd;obtain⟨lr,le,sb,gm⟩:=cH.fa s;obtain⟨i0,d0⟩:=bO ow we 0 0 rfl De;unfold Aj fn227;simp only[ai.j,ai.s,ai.r,ai.dr,ai.tl];have k0:aP x.ev 0∈jg V.an:=nk.kn 0 5 rfl;have hlt:aZ (jg V.an) (aP x.ev 0)<V.aO.length:=by have:=cM k0;simpa [jg,RV.an]using this
 have ei:cP (λy:nE=>decide (y.name=aP x.ev 0)) V.aO=(aZ (jg V.an) (aP x.ev 0):Int):=ep (f:=nE.name) k0;have sp:gX V.an (aP x.ev 0)=V.aO[aZ (jg V.an) (aP x.ev 0)]:=cV k0;obtain⟨p,hp⟩:∃p,p=aZ (jg V.an) (aP x.ev 0):=⟨_,rfl⟩;rw[<-hp]at ei;have hlt:p<V.aO.length:=by rw[hp];exact hlt
 have sp:gX V.an (aP x.ev 0)=V.aO[p]:=by rw[sp];congr 1;exact hp.symm
 refine o9 (C8 @t2 @t3 @t4 @le @lr @bB @aN @aY @aE @QW @gU @Yp @Yi @i0 @d0) ?_;refine WF.ce T.c57 (r57 T (oV.ext Xx) w.len _) λg1=>?_
 rw[ei];obtain⟨W2,Rt⟩:∃Z,Z=W++g1:=⟨_,rfl⟩;rw[<-Rt];have Rb:cH B X x V W2 V:=by rw[Rt];exact eV.grow s ⟨g1,rfl⟩
 have ow:=ox.ext Rb.ex;have oV:=Rb.bk.o.ok;obtain⟨lr,le,sb,gm⟩:=cH.fa Rb;have ix:aX 4 V.s5 (.i (p:Int))=some (cW V.s5 4 p,.au):=oV.i5.dM hlt;have l3:∀{k:ah},Ext W2 k->ar none (lK V.s5 4 p 3) (λb=>k[b]?)=some (.bool (gX V.an (aP x.ev 0)).rel,.au):=λ{k} e=>by rw[sp];exact oV.i5.pY hlt rfl e
 cases h1:(gX V.an (aP x.ev 0)).rel with
 |true=>
  rw[h1]at l3;refine Rs (o8 t2 t3 t4 ix @l3 @lr @aE @gW @sb @gm) ?_;rw[bC,X9 h1];exact I6
 |false=>
  rw[h1]at l3;have R9:bC V.an x.ev .rel=0:=by rw[bC,X5 (by rw[h1];decide)]
  refine Rs (A7 t2 t3 t4 ix @l3 @lr @gW) ?_;refine WR.BP (B:=B) (x':={V.aO[p]with rel:=true}) (row:=dm) Rb.bk.o.i5 Rb.ex hlt De rfl rfl ?_;intro W5 x5 l5 hff hk5;have s5:cH B X x V W5 {V with aO:=V.aO.set p {V.aO[p]with rel:=true} }:=eV.q5 Rb hff (λi _ hne=>hk5 i hne) x5 Om;obtain⟨lr,_,sb,gm⟩:=cH.fa s5;refine Rs (A7 t2 t3 t4 @lr @aE @sb @gm) ?_;exact Jn
def Eu(w:fk V.an)(ox:bt B x)(we:kT x.ev .gB)(nk:sI V.an x.ev .gB)(s:cH B X x V W V)(hlen:ts.length=223)(t2:slot ts 2=.ptr X.length 0)(t3:slot ts 3=.ptr (X.length+1) 0)(t4:slot ts 4=.ptr (X.length+2) 0):
  WC P bT (Aj 1) [] ts W (FQ [(4,some (some 7)),(5,none)] (rT B X V (bC V.an x.ev .gB) (dz V.an x.ev .gB))):=by
 have ow:=ox.ext s.ex;have oV:=s.bk.o.ok;have QW:x.ev.kind=bA .gB:=cC we.kd;obtain⟨lr,le,sb,gm⟩:=cH.fa s;obtain⟨i0,d0⟩:=bO ow we 0 0 rfl De;obtain⟨i1,d1⟩:=bO ow we 1 1 rfl De;unfold Aj fn227;simp only[ai.j,ai.s,ai.r,ai.dr,ai.tl];have k1:aP x.ev 1∈fM V.an:=nk.kn 1 4 rfl;obtain⟨p,J,jx⟩:=Oc k1;have ix:aX 3 V.s4 (.i (p:Int))=some (cW V.s4 3 p,.au):=oV.i4.dM jx.lt;refine o9 (AG t2 t3 t4 @le @lr @bB @aN @aY @fy @aE @QW @gU @Yp @Yi @i1 @d1) ?_;refine WF.ce T.c56 (r56 T (oV.ext Xx) w.len _) λg1=>?_
 rw[jx.i];obtain⟨W2,Rt⟩:∃Z,Z=W++g1:=⟨_,rfl⟩;rw[<-Rt];have Rb:cH B X x V W2 V:=by rw[Rt];exact eV.grow s ⟨g1,rfl⟩
 have ow:=ox.ext Rb.ex;have oV:=Rb.bk.o.ok;obtain⟨lr,le,sb,gm⟩:=cH.fa Rb;obtain⟨i0,d0⟩:=bO ow we 0 0 rfl De;obtain⟨i1,d1⟩:=bO ow we 1 1 rfl De;have ld:∀{k:ah},Ext W2 k->ar (some 3) (cW V.s4 3 p) (λb=>k[b]?)=some (.agg (bK J),.au):=λ{k} e=>by rw[<-jx.at];exact oV.i4.kR jx.lt e
 have oJ:=oV.e4 J jx.m;have oJ1:=oJ.one;have hJ:=w.jb J.1 (Ym jx.m);unfold bK at ld;refine Rs (A6 t2 t3 t4 ix @ld @oJ1) ?_;obtain⟨jb,hjb⟩:∃n,n=W2.length:=⟨_,rfl⟩;rw[<-hjb];obtain⟨W3,Ra⟩:∃Z,Z=W2++[ak.b [AV.str J.1.name,.str J.1.mod,J.2]]:=⟨_,rfl⟩;rw[<-Ra];have Rh:cH B X x V W3 V:=by rw[Ra];exact eV.grow Rb ⟨[ak.b [AV.str J.1.name,.str J.1.mod,J.2]],rfl⟩
 have ow:=ox.ext Rh.ex;have oV:=Rh.bk.o.ok;obtain⟨lr,le,sb,gm⟩:=cH.fa Rh;obtain⟨i0,d0⟩:=bO ow we 0 0 rfl De;obtain⟨i1,d1⟩:=bO ow we 1 1 rfl De;have mj:W3[jb]? =some (.b [AV.str J.1.name,.str J.1.mod,J.2]):=by rw[Ra,hjb];exact bh
 have lj:=@e9 _ _ _ mj;have oJ:=oV.e4 J jx.m;refine Rs (pa t2 t3 t4 @le @lr @bB @aN @aY @aE @i1 @d1) ?_;refine WF.ce T.c265 (r265 T (oV.ext Xx) w.len _) λg2=>?_
 obtain⟨W4,RH⟩:∃Z,Z=W3++g2:=⟨_,rfl⟩;rw[<-RH];have Sv:cH B X x V W4 V:=by rw[RH];exact eV.grow Rh ⟨g2,rfl⟩
 have ow:=ox.ext Sv.ex;have oV:=Sv.bk.o.ok;obtain⟨lr,le,sb,gm⟩:=cH.fa Sv;obtain⟨i0,d0⟩:=bO ow we 0 0 rfl De;obtain⟨i1,d1⟩:=bO ow we 1 1 rfl De;have mj:=(show Ext W3 W4 from⟨g2,RH⟩).some mj;have lj:=@e9 _ _ _ mj;have oJ:=oV.e4 J jx.m;cases h1:qd V.an (aP x.ev 1)with
 |true=>
  refine Rs (A7 t2 t3 t4 @lr @aE @sb @gm) ?_;rw[bC,X9 h1];exact z145
 |false=>
 refine Rs (A5 t2 t3 t4 @lj @oJ1) ?_;refine WF.res T.c60 (r60 T (x:=J) (oJ.ext Xx) Om) ?_;rintro vl g3 RE;obtain⟨W5,Tk⟩:∃Z,Z=W4++g3:=⟨_,rfl⟩;rw[<-Tk];have sW5:cH B X x V W5 V:=by rw[Tk];exact eV.grow Sv ⟨g3,rfl⟩
 have ow:=ox.ext sW5.ex;have oV:=sW5.bk.o.ok;obtain⟨lr,le,sb,gm⟩:=cH.fa sW5;obtain⟨i0,d0⟩:=bO ow we 0 0 rfl De;obtain⟨i1,d1⟩:=bO ow we 1 1 rfl De;rw[<-Tk]at RE;have mj:=(show Ext W4 W5 from⟨g3,Tk⟩).some mj;have lj:=@e9 _ _ _ mj;have oJ:=oV.e4 J jx.m;rw[jx.e]at RE;by_cases h2:cJ (eS V.an (aP x.ev 1)).bp 0=[]
 case neg=>
  have e2:decide ((0:Int)<((cJ (eS V.an (aP x.ev 1)).bp 0).length:Int))=true:=XZ (by have:=ZR.2 h2;omega);refine Rs (A9 t2 t3 t4 RE.aM e2 @lr @aE @sb @gm) ?_;rw[bC,X5 (by rw[h1];decide),X9 h2];exact cH.fin sW5 (λz=>absurd z De)
 have e2:decide ((0:Int)<((cJ (eS V.an (aP x.ev 1)).bp 0).length:Int))=false:=XU (by rw[h2];decide);by_cases h3:16<=V.aO.length
 case pos=>
  have e3:decide ((16:Int)<=(V.aO.length:Int))=true:=XZ Om;refine Rs (qt t2 t3 t4 RE.aM e2 @lr @gW oV.i5.aM e3 @aE @sb @gm) ?_;rw[bC,X5 (by rw[h1];decide),X5 (λz=>z h2),X9 (show 16<=V.an.aO.length from h3)];exact cH.fin sW5 (λz=>absurd z De)
 have e3:decide ((16:Int)<=(V.aO.length:Int))=false:=XU Om;have R9:bC V.an x.ev .gB=0:=by rw[bC,X5 (by rw[h1];decide),X5 (λz=>z h2),X5 (show ¬16<=V.an.aO.length from h3)]
 refine Rs (C6 t2 t3 t4 @le @lr @bB @aN @aY RE.aM e2 @gW oV.i5.aM e3 @i0 @d0 @i1 @d1 @lj) ?_;refine WF.ce T.c31 (r31 T (oJ.ext Xx) Om hJ.2.2.2) λg4=>?_
 rw[jx.e];obtain⟨W6,SD⟩:∃Z,Z=W5++g4:=⟨_,rfl⟩;rw[<-SD];have Vl:cH B X x V W6 V:=by rw[SD];exact eV.grow sW5 ⟨g4,rfl⟩
 have ow:=ox.ext Vl.ex;have oV:=Vl.bk.o.ok;obtain⟨lr,le,sb,gm⟩:=cH.fa Vl;obtain⟨y,hy⟩:∃y:nE,y=⟨aP x.ev 0,aP x.ev 1,ga (eS V.an (aP x.ev 1)).bp,false⟩:=⟨_,rfl⟩;obtain⟨z,hz⟩:∃z:List AV,z=dm y:=⟨_,rfl⟩;have SJ:[AV.str (aP x.ev 0),.str (aP x.ev 1),.i (ga (eS V.an (aP x.ev 1)).bp),.bool false]=z:=by rw[hz,hy];rfl
 refine Rs (A3 t2 t3 t4) ?_;rw[SJ];refine WR.qp (B:=B) (cs:=V.aO.map dm) (Vl.bk.o.i5) (by rw[hz];rfl) Vl.ex De (by rw[X2];omega) ?_;intro W7 s' x5 hff hn5 q5 l5 hk5;have hrow:V.aO.map dm++[z]=(V.aO++[y]).map dm:=by rw[X4,hz];rfl
 rw[hrow]at hff;have s5:cH B X x V (W7.set X.length (.b (V.row.set 6 s'))) {V with aO:=V.aO++[y],s5:=s'}:=eV.p5 Vl hff (λi hi=>.inr (aan (hn5 i hi))) hk5 x5 l5;have mB:W7[X.length]? =some (.b V.row):=(hk5 _ Vl.bk.lt (λz=>Vl.bk.ne (by rw[<-z];simp[RV.bl]))).trans Vl.bk.m;have Su:aW 1 (.ptr X.length 6) s' (λz=>W7[z]?)=some (az,.set X.length (.b (V.row.set 6 s'))):=(aL mB).trans (bY q5 (by show 6+1<=7;omega));refine Rs (A5 t2 t3 t4 @Su q5) ?_;obtain⟨W8,hW8⟩:∃Z,Z=W7.set X.length (.b (V.row.set 6 s')):=⟨_,rfl⟩;rw[<-hW8]at s5 ⊢;obtain⟨lr,_,sb,gm⟩:=cH.fa s5;refine Rs (A7 t2 t3 t4 @lr @aE @sb @gm) ?_
 rw[R9];exact cH.fin s5 (λ_=>by rw[hy];rfl)
def Ew(w:fk V.an)(ox:bt B x)(we:kT x.ev .fail)(nk:sI V.an x.ev .fail)(s:cH B X x V W V)(hlen:ts.length=223)(t2:slot ts 2=.ptr X.length 0)(t3:slot ts 3=.ptr (X.length+1) 0)(t4:slot ts 4=.ptr (X.length+2) 0):
  WC P bT (Aj 1) [] ts W (FQ [(4,some (some 7)),(5,none)] (rT B X V (bC V.an x.ev .fail) (dz V.an x.ev .fail))):=by
 have ow:=ox.ext s.ex;have oV:=s.bk.o.ok;have QW:x.ev.kind=bA .fail:=cC we.kd;obtain⟨lr,le,sb,gm⟩:=cH.fa s;obtain⟨i0,d0⟩:=bO ow we 0 0 rfl De;obtain⟨j1,f1,q1⟩:=cZ ow we 1 1 rfl De;unfold Aj fn227;simp only[ai.j,ai.s,ai.r,ai.dr,ai.tl];have k0:aP x.ev 0∈fM V.an:=nk.kn 0 4 rfl;obtain⟨p,J,jx⟩:=Oc k0;have ix:aX 3 V.s4 (.i (p:Int))=some (cW V.s4 3 p,.au):=oV.i4.dM jx.lt;refine o9 (C8 t2 t3 t4 @le @lr @bB @aN @aY @aE @QW @gU @Yp @Yi @i0 @d0) ?_;refine WF.ce T.c56 (r56 T (oV.ext Xx) w.len _) λg1=>?_
 rw[jx.i];obtain⟨W2,Rt⟩:∃Z,Z=W++g1:=⟨_,rfl⟩;rw[<-Rt];have Rb:cH B X x V W2 V:=by rw[Rt];exact eV.grow s ⟨g1,rfl⟩
 have ow:=ox.ext Rb.ex;have oV:=Rb.bk.o.ok;obtain⟨lr,le,sb,gm⟩:=cH.fa Rb;obtain⟨i0,d0⟩:=bO ow we 0 0 rfl De;obtain⟨j1,f1,q1⟩:=cZ ow we 1 1 rfl De;refine Rs (pa t2 t3 t4 @le @lr @bB @aN @aY @aE @i0 @d0) ?_;refine WF.ce T.c265 (r265 T (oV.ext Xx) w.len _) λg2=>?_
 obtain⟨W3,Ra⟩:∃Z,Z=W2++g2:=⟨_,rfl⟩;rw[<-Ra];have Rh:cH B X x V W3 V:=by rw[Ra];exact eV.grow Rb ⟨g2,rfl⟩
 have ow:=ox.ext Rh.ex;have oV:=Rh.bk.o.ok;obtain⟨lr,le,sb,gm⟩:=cH.fa Rh;obtain⟨i0,d0⟩:=bO ow we 0 0 rfl De;obtain⟨j1,f1,q1⟩:=cZ ow we 1 1 rfl De;have oJ:=oV.e4 J jx.m;have l2:∀{k:ah},Ext W3 k->ar none (lK V.s4 3 p 2) (λb=>k[b]?)=some (J.2,.au):=λ{k} e=>oV.i4.pY jx.lt (by rw[jx.at];rfl) e
 cases h1:qd V.an (aP x.ev 0)with
 |true=>
  refine Rs (A7 t2 t3 t4 @lr @aE @sb @gm) ?_;have hc:bC V.an x.ev .fail=23:=by
   exact z130
  rw[hc];exact C9
 |false=>
 by_cases h2:(J.1.bp.length:Int)<=bH x.ev 1
 case pos=>
  have e2:decide ((J.1.bp.length:Int)<=bH x.ev 1)=true:=XZ h2;refine Rs (C6 t2 t3 t4 @le @lr @bB @aN @aY @fy @aE @j1 @f1 ix @l2 oJ.aM e2 @sb @gm) ?_;have hc:bC V.an x.ev .fail=3:=by
   exact JS
  rw[hc];exact C9
 have e2:decide ((J.1.bp.length:Int)<=bH x.ev 1)=false:=XU h2;have hct:jO V.an x.ev=0:=by rw[jO,X5 (by rw[h1];decide),<-jx.e,X5 h2]
 have hsl:(bH x.ev 1).toNat<J.1.bp.length:=Om
 have VT:bH x.ev 1=((bH x.ev 1).toNat:Int):=Om
 have iy:aX 1 J.2 (.i (bH x.ev 1))=some (cW J.2 1 (bH x.ev 1).toNat,.au):=by
  rw[VT];exact oJ.dM hsl
 have hsu:fJ V.an x.ev=J.1.bp[(bH x.ev 1).toNat]:=by
  exact Jx
 have lv:∀{k:ah},Ext W3 k->ar none (cW J.2 1 (bH x.ev 1).toNat) (λb=>k[b]?)=some (.i (fJ V.an x.ev),.au):=λ{k} e=>by rw[hsu];exact oJ.kS hsl rfl e
 have UO:cW J.2 1 (bH x.ev 1).toNat=lK J.2 1 (bH x.ev 1).toNat 0:=rfl;by_cases h3:fJ V.an x.ev<0
 case pos=>
  have e3:decide (fJ V.an x.ev<0)=true:=XZ h3;exact P7
 have e3:decide (fJ V.an x.ev<0)=false:=XU h3;have R9:bC V.an x.ev .fail=0:=by rw[bC,X5 (λz=>z hct),X5 h3]
 repeat (first|simp (config:={maxSteps:=1000000}) only[aQ,aT,ba,bd,reduceAdd,reduceMul,reduceLeDiff,reduceEqDiff,bg,hlen,Yb,Yf,t2,t3,t4,le,lr,bB,aN,aY,aE,QW,gU,reduceCtorEq,Yp,Yi,fy,j1,f1,ix,l2,oJ.aM,e2,iy,lv,e3]|simp (config:={maxSteps:=1000000}) (disch:=first|(simp only[XS,XX,X1]<;>omega)|rfl|omega|fail) only[eo,aQ,aT,ba,bd,reduceAdd,reduceMul,reduceLeDiff,reduceEqDiff,bg,hlen,Yb,Yf,t2,t3,t4,le,lr,bB,aN,aY,aE,QW,gU,reduceCtorEq,Yp,Yi,fy,j1,f1,ix,l2,oJ.aM,e2,iy,lv,e3])
 rw[UO];have hfJ:Fr B.length W3 J.2 1 (J.1.bp.map aK):=Rh.bk.o.e4 J jx.m;refine WR.BP (B:=B) (x':=(-1:Int)) (row:=aK) (L:=J.1.bp) hfJ Rh.ex hsl De rfl rfl ?_;intro W5 x5 l5 hff hk5;have s5:cH B X x V W5 {V with aG:=V.aG.set p ({J.1 with bp:=J.1.bp.set (bH x.ev 1).toNat (-1:Int) },J.2) }:=by
  have XB:(V.aG[p]'jx.lt).2=J.2:=by rw[jx.at]
  have:=eV.qJ Rh (W2:=W5) jx.lt (y:={J.1 with bp:=J.1.bp.set (bH x.ev 1).toNat (-1:Int) }) (by rw[jx.at];exact⟨rfl,rfl⟩) (by rw[XB];exact hff) (λi _ hne=>hk5 i (by rw[<-XB];exact hne)) x5 Om;rw[XB]at this;exact this
 obtain⟨lr,_,sb,gm⟩:=cH.fa s5;refine Rs (A7 t2 t3 t4 @lr @aE @sb @gm) ?_;rw[R9];refine cH.fin s5 (λ_=>?_);have e:mT V.an x.ev (-1:Int)=(V.aG.set p ({J.1 with bp:=J.1.bp.set (bH x.ev 1).toNat (-1:Int) },J.2)).map Prod.fst:=by
  rw[mT,<-jx.ps,<-jx.e,Z1];rfl
 rw[dz,e];rfl
def Et(w:fk V.an)(ox:bt B x)(we:kT x.ev .fX)(nk:sI V.an x.ev .fX)(s:cH B X x V W V)(hlen:ts.length=223)(t2:slot ts 2=.ptr X.length 0)(t3:slot ts 3=.ptr (X.length+1) 0)(t4:slot ts 4=.ptr (X.length+2) 0):
  WC P bT (Aj 1) [] ts W (FQ [(4,some (some 7)),(5,none)] (rT B X V (bC V.an x.ev .fX) (dz V.an x.ev .fX))):=by
 have ow:=ox.ext s.ex;have oV:=s.bk.o.ok;have QW:x.ev.kind=bA .fX:=cC we.kd;obtain⟨lr,le,sb,gm⟩:=cH.fa s;obtain⟨i0,d0⟩:=bO ow we 0 0 rfl De;obtain⟨j1,f1,q1⟩:=cZ ow we 1 1 rfl De;obtain⟨j2,f2,q2⟩:=cZ ow we 2 2 rfl De;unfold Aj fn227;simp only[ai.j,ai.s,ai.r,ai.dr,ai.tl];have k0:aP x.ev 0∈fM V.an:=nk.kn 0 4 rfl;obtain⟨p,J,jx⟩:=Oc k0;have ix:aX 3 V.s4 (.i (p:Int))=some (cW V.s4 3 p,.au):=oV.i4.dM jx.lt;refine o9 (C8 t2 t3 t4 @le @lr @bB @aN @aY @aE @QW @gU @Yp @Yi @i0 @d0) ?_;refine WF.ce T.c56 (r56 T (oV.ext Xx) w.len _) λg1=>?_
 rw[jx.i];obtain⟨W2,Rt⟩:∃Z,Z=W++g1:=⟨_,rfl⟩;rw[<-Rt];have Rb:cH B X x V W2 V:=by rw[Rt];exact eV.grow s ⟨g1,rfl⟩
 have ow:=ox.ext Rb.ex;have oV:=Rb.bk.o.ok;obtain⟨lr,le,sb,gm⟩:=cH.fa Rb;obtain⟨i0,d0⟩:=bO ow we 0 0 rfl De;obtain⟨j1,f1,q1⟩:=cZ ow we 1 1 rfl De;obtain⟨j2,f2,q2⟩:=cZ ow we 2 2 rfl De;refine Rs (pa t2 t3 t4 @le @lr @bB @aN @aY @aE @i0 @d0) ?_;refine WF.ce T.c265 (r265 T (oV.ext Xx) w.len _) λg2=>?_
 obtain⟨W3,Ra⟩:∃Z,Z=W2++g2:=⟨_,rfl⟩;rw[<-Ra];have Rh:cH B X x V W3 V:=by rw[Ra];exact eV.grow Rb ⟨g2,rfl⟩
 have ow:=ox.ext Rh.ex;have oV:=Rh.bk.o.ok;obtain⟨lr,le,sb,gm⟩:=cH.fa Rh;obtain⟨i0,d0⟩:=bO ow we 0 0 rfl De;obtain⟨j1,f1,q1⟩:=cZ ow we 1 1 rfl De;obtain⟨j2,f2,q2⟩:=cZ ow we 2 2 rfl De;have oJ:=oV.e4 J jx.m;have l2:∀{k:ah},Ext W3 k->ar none (lK V.s4 3 p 2) (λb=>k[b]?)=some (J.2,.au):=λ{k} e=>oV.i4.pY jx.lt (by rw[jx.at];rfl) e
 cases h1:qd V.an (aP x.ev 0)with
 |true=>
  refine Rs (A7 t2 t3 t4 @lr @aE @sb @gm) ?_;have hc:bC V.an x.ev .fX=23:=by
   exact z130
  rw[hc];exact C9
 |false=>
 by_cases h2:(J.1.bp.length:Int)<=bH x.ev 1
 case pos=>
  have e2:decide ((J.1.bp.length:Int)<=bH x.ev 1)=true:=XZ h2;refine Rs (C6 t2 t3 t4 @le @lr @bB @aN @aY @fy @aE @j1 @f1 ix @l2 oJ.aM e2 @sb @gm) ?_;have hc:bC V.an x.ev .fX=3:=by
   exact JS
  rw[hc];exact C9
 have e2:decide ((J.1.bp.length:Int)<=bH x.ev 1)=false:=XU h2;have hct:jO V.an x.ev=0:=by rw[jO,X5 (by rw[h1];decide),<-jx.e,X5 h2]
 have hsl:(bH x.ev 1).toNat<J.1.bp.length:=Om
 have VT:bH x.ev 1=((bH x.ev 1).toNat:Int):=Om
 have iy:aX 1 J.2 (.i (bH x.ev 1))=some (cW J.2 1 (bH x.ev 1).toNat,.au):=by
  rw[VT];exact oJ.dM hsl
 have hsu:fJ V.an x.ev=J.1.bp[(bH x.ev 1).toNat]:=by
  exact Jx
 have lv:∀{k:ah},Ext W3 k->ar none (cW J.2 1 (bH x.ev 1).toNat) (λb=>k[b]?)=some (.i (fJ V.an x.ev),.au):=λ{k} e=>by rw[hsu];exact oJ.kS hsl rfl e
 have UO:cW J.2 1 (bH x.ev 1).toNat=lK J.2 1 (bH x.ev 1).toNat 0:=rfl;by_cases h3:0<=fJ V.an x.ev
 case pos=>
  have e3:decide (0<=fJ V.an x.ev)=true:=XZ h3;exact P7
 have e3:decide (0<=fJ V.an x.ev)=false:=XU h3;have R9:bC V.an x.ev .fX=0:=by rw[bC,X5 (λz=>z hct),X5 h3]
 repeat (first|simp (config:={maxSteps:=1000000}) only[aQ,aT,ba,bd,reduceAdd,reduceMul,reduceLeDiff,reduceEqDiff,bg,hlen,Yb,Yf,t2,t3,t4,le,lr,bB,aN,aY,aE,QW,gU,reduceCtorEq,Yp,Yi,fy,j1,f1,j2,f2,ix,l2,oJ.aM,e2,iy,lv,e3]|simp (config:={maxSteps:=1000000}) (disch:=first|(simp only[XS,XX,X1]<;>omega)|rfl|omega|fail) only[eo,aQ,aT,ba,bd,reduceAdd,reduceMul,reduceLeDiff,reduceEqDiff,bg,hlen,Yb,Yf,t2,t3,t4,le,lr,bB,aN,aY,aE,QW,gU,reduceCtorEq,Yp,Yi,fy,j1,f1,j2,f2,ix,l2,oJ.aM,e2,iy,lv,e3])
 rw[UO];have hfJ:Fr B.length W3 J.2 1 (J.1.bp.map aK):=Rh.bk.o.e4 J jx.m;refine WR.BP (B:=B) (x':=(bH x.ev 2)) (row:=aK) (L:=J.1.bp) hfJ Rh.ex hsl De rfl rfl ?_;intro W5 x5 l5 hff hk5;have s5:cH B X x V W5 {V with aG:=V.aG.set p ({J.1 with bp:=J.1.bp.set (bH x.ev 1).toNat (bH x.ev 2) },J.2) }:=by
  have XB:(V.aG[p]'jx.lt).2=J.2:=by rw[jx.at]
  have:=eV.qJ Rh (W2:=W5) jx.lt (y:={J.1 with bp:=J.1.bp.set (bH x.ev 1).toNat (bH x.ev 2) }) (by rw[jx.at];exact⟨rfl,rfl⟩) (by rw[XB];exact hff) (λi _ hne=>hk5 i (by rw[<-XB];exact hne)) x5 Om;rw[XB]at this;exact this
 obtain⟨lr,_,sb,gm⟩:=cH.fa s5;refine Rs (A7 t2 t3 t4 @lr @aE @sb @gm) ?_;rw[R9];refine cH.fin s5 (λ_=>?_);have e:mT V.an x.ev (bH x.ev 2)=(V.aG.set p ({J.1 with bp:=J.1.bp.set (bH x.ev 1).toNat (bH x.ev 2) },J.2)).map Prod.fst:=by
  rw[mT,<-jx.ps,<-jx.e,Z1];rfl
 rw[dz,e];rfl
end
structure QM(W Y:ah)(jb:Nat)(c:List AV)(t:AV)(k:Nat):Prop where
 l:W.length<=jb
 x:Ext W Y
 m:Y[jb]? =some (.b (c++[t]))
 f:Fr W.length Y t 1 ((List.replicate k (-1:Int)).map aK)
 n:sB t≠some jb
section
variable {P:Program}(T:fI P) {B X W:ah}{ts:TS}{V:RV}{x:EV}
include T
def H9(w:fk V.an)(ox:bt B x)(we:kT x.ev .run)(nk:sI V.an x.ev .run)(s:cH B X x V W V)(hlen:ts.length=223)(t2:slot ts 2=.ptr X.length 0)(t3:slot ts 3=.ptr (X.length+1) 0)(t4:slot ts 4=.ptr (X.length+2) 0):
  WC P bT (Aj 1) [] ts W (FQ [(4,some (some 7)),(5,none)] (rT B X V (bC V.an x.ev .run) (dz V.an x.ev .run))):=by
 have ow:=ox.ext s.ex;have oV:=s.bk.o.ok;have QW:x.ev.kind=bA .run:=cC we.kd;obtain⟨lr,le,sb,gm⟩:=cH.fa s;obtain⟨i0,d0⟩:=bO ow we 0 0 rfl De;obtain⟨i1,d1⟩:=bO ow we 1 1 rfl De;obtain⟨j1,f1,q1⟩:=cZ ow we 1 1 rfl De;unfold Aj fn227;simp only[ai.j,ai.s,ai.r,ai.dr,ai.tl];have k1:aP x.ev 1∈hO V.an:=nk.kn 1 3 rfl;refine o9 (C8 t2 t3 t4 @le @lr @bB @aN @aY @aE @QW @gU @Yp @Yi @i1 @d1) ?_;refine WF.res T.c59 (r59 T (oV.ext Xx) w _) ?_;rintro ns g1 hns;obtain⟨W2,Rt⟩:∃Z,Z=W++g1:=⟨_,rfl⟩;rw[<-Rt];have Rb:cH B X x V W2 V:=by rw[Rt];exact eV.grow s ⟨g1,rfl⟩
 have ow:=ox.ext Rb.ex;have oV:=Rb.bk.o.ok;obtain⟨lr,le,sb,gm⟩:=cH.fa Rb;rw[<-Rt]at hns;obtain⟨S,hS⟩:∃S,S=fq V.an (aP x.ev 1):=⟨_,rfl⟩;rw[<-hS]at hns;have hSm:∀y∈S,y∈V.an.lines:=λy hy=>by rw[hS,fq]at hy;exact(Zd.1 hy).1
 have hSl:S.length<=16:=by
  have h1:S.length<=V.an.lines.length:=by rw[hS,fq];exact Yu _ _
  have:=w.l0;omega
 rw[ZD]at hns;refine Rs (A3 t2 t3 t4) ?_;refine WL.inv T.mix (λm ts h'=>∃(k:Nat) (g:ah),k<=S.length/\m=S.length-k/\h' =W2++g/\(∀y∈S.take k,y.acc=true)/\ts.length=223/\slot ts 2=.ptr X.length 0/\slot ts 3=.ptr (X.length+1) 0/\slot ts 4=.ptr (X.length+2) 0/\slot ts 6=ns/\slot ts 7=.i k) S.length
  ⟨0,[],Om,rfl,by rw[Yo],(λy hy=>by cases hy),Sn,(Sq t2),(Sq t3),(Sq t4),Sw,iQ⟩ ?_
 clear t2 t3 t4 hlen;rintro _ ts _ ⟨k,g,hk,rfl,rfl,hsf,hlen,t2,t3,t4,t6,t7⟩;obtain⟨W3,Ra⟩:∃Z,Z=W2++g:=⟨_,rfl⟩;rw[<-Ra];have Rh:cH B X x V W3 V:=by rw[Ra];exact eV.grow Rb ⟨g,rfl⟩
 have ow:=ox.ext Rh.ex;have oV:=Rh.bk.o.ok;obtain⟨lr,le,sb,gm⟩:=cH.fa Rh;have e23:Ext W2 W3:=⟨g,Ra⟩;have hns:=hns.ext e23;by_cases RT:k<S.length
 ·have e3:decide ((k:Int)<S.length)=true:=XZ Om;have e5:=wrapN (n:=k) Om;have iy:=hns.dM (kk:=.i64) RT;obtain⟨y,hy⟩:∃y,y=S[k]:=⟨_,rfl⟩;have Sx:y∈V.an.lines:=hSm y (by rw[hy];exact Ya _);have lf:∀{kk:ah},Ext W3 kk->ar none (cW ns 1 k) (λb=>kk[b]?)=some (.str y.name,.au):=λ{kk} e=>hns.kS RT (by rw[<-hy];rfl) e
  have Tt:y.name∈gP V.an:=Ym Sx;have hps:=cM Tt;have Sj:aZ (gP V.an) y.name<V.lines.length:=by simpa [gP,RV.an]using hps
  have iz:aX 3 V.s0 (.i ((aZ (gP V.an) y.name:Nat):Int))=some (cW V.s0 3 (aZ (gP V.an) y.name),.au):=oV.i0.dM Sj;have huy:V.lines[aZ (gP V.an) y.name]=y:=by
   have a1:dO V.an y.name=y:=ug w.n0.nd Sx;rw[dO,cV (f:=gN.name) (l:=V.an.lines) (d:=BY) Tt]at a1;exact a1
  have ly:∀{kk:ah},Ext W3 kk->ar none (lK V.s0 3 (aZ (gP V.an) y.name) 2) (λb=>kk[b]?)=some (.bool y.acc,.au):=λ{kk} e=>oV.i0.pY Sj (by rw[huy];rfl) e
  refine Rs (qt t2 t3 t4 t6 t7 hns.aM e3 @lr @gk @aE @iy @lf) ?_;refine WF.ce T.c28 (r28 T (oV.ext Xx) w.len _) λg3=>?_
  have ej:cP (λy':gN=>decide (y'.name=y.name)) V.lines=(aZ (gP V.an) y.name:Int):=ep (f:=gN.name) Tt;rw[ej];cases h4:y.acc with
  |false=>
   rw[h4]at ly;refine Rs (qt t2 t3 t4 t6 t7 @iz @ly @Yr @lr @aE @sb @gm) ?_;rw[bC,X9 (by rw[<-hS];exact ZC.2 ⟨y,by rw[hy];exact Ya _,by rw[h4];rfl⟩)];exact cH.fin (eV.grow Rh ⟨g3,rfl⟩) (λz=>absurd z De)
  |true=>
   rw[h4]at ly;refine Rs (A9 t2 t3 t4 t6 t7 @iz @ly @Yk e5) ?_;refine⟨_,Om,k+1,g++g3,Om,rfl,by rw[Ra];simp only[XV],?_,rfl⟩;intro y' hy';exact PN
 have e3:decide ((k:Int)<S.length)=false:=XU Om;have e4:k=S.length:=Om
 rw[e4,Yz]at hsf;have hne:¬(fq V.an (aP x.ev 1)).any (λx=>!x.acc)=true:=by
  exact JA
 obtain⟨i0,d0⟩:=bO ow we 0 0 rfl De;obtain⟨i1,d1⟩:=bO ow we 1 1 rfl De;obtain⟨j1,f1,q1⟩:=cZ ow we 1 1 rfl De;refine Rs (AH t2 t3 t4 @le @lr @bB @aN @aY t6 t7 hns.aM e3 @j1 @f1) ?_;refine WF.ce T.c20 (r20 T _ _ _) λg4=>?_
 obtain⟨W4,RH⟩:∃Z,Z=W3++g4:=⟨_,rfl⟩;rw[<-RH];have Sv:cH B X x V W4 V:=by rw[RH];exact eV.grow Rh ⟨g4,rfl⟩
 have ow:=ox.ext Sv.ex;have oV:=Sv.bk.o.ok;obtain⟨lr,le,sb,gm⟩:=cH.fa Sv;obtain⟨i0,d0⟩:=bO ow we 0 0 rfl De;obtain⟨i1,d1⟩:=bO ow we 1 1 rfl De;obtain⟨j1,f1,q1⟩:=cZ ow we 1 1 rfl De;by_cases h1:bE (bH x.ev 1) 1 32=0
 case neg=>
  have e1:decide (bE (bH x.ev 1) 1 32≠0)=true:=XZ h1;refine Rs (A8 t2 t3 t4 e1 @lr @aE @sb @gm) ?_;rw[bC,X5 hne,X9 h1];exact z145
 have e1:decide (bE (bH x.ev 1) 1 32≠0)=false:=XU (λz=>z h1);have Ta:V.an.aG.length=V.aG.length:=by simp[RV.an]
 by_cases h2:16<=V.aG.length
 case pos=>
  have e2:decide ((16:Int)<=(V.aG.length:Int))=true:=XZ Om;refine Rs (pa t2 t3 t4 e1 @lr @fy oV.i4.aM e2 @aE @sb @gm) ?_;rw[bC,X5 hne,X5 (λz=>z h1),X9 (by rw[Ta];exact h2)];exact z145
 have e2:decide ((16:Int)<=(V.aG.length:Int))=false:=XU Om;have R9:bC V.an x.ev .run=0:=by rw[bC,X5 hne,X5 (λz=>z h1),X5 (by rw[Ta];exact h2)]
 have hr:=iw (λz=>z h1);obtain⟨n,hn⟩:∃n:Nat,n=(bH x.ev 1).toNat:=⟨_,rfl⟩;have hnv:bH x.ev 1=(n:Int):=Om
 have hn32:n<=32:=Om
 obtain⟨jb,hjb⟩:∃n,n=W4.length:=⟨_,rfl⟩;refine Rs (AG t2 t3 t4 @le @lr @bB @aN @aY e1 @fy oV.i4.aM e2 @i0 @d0 @i1 @d1) ?_;rw[<-hjb];refine WL.inv T.mix (λm ts Y=>∃(k:Nat) (t:AV),k<=n/\m=n-k/\QM W4 Y jb [AV.str (aP x.ev 0),.str (aP x.ev 1)] t k/\ts.length=223/\slot ts 2=.ptr X.length 0/\slot ts 3=.ptr (X.length+1) 0/\slot ts 4=.ptr (X.length+2) 0/\slot ts 8=.ptr jb 0/\slot ts 9=.i k) n
  ⟨0,.af,Om,rfl,⟨Om,⟨_,rfl⟩,by rw[hjb];exact bh,.nil,by simp[sB]⟩,Sn,(Sq t2),(Sq t3),(Sq t4),Sw,iQ⟩ ?_
 clear t2 t3 t4 t6 t7 hlen;rintro _ ts Y ⟨k',t,hk',rfl,hb,hlen,t2,t3,t4,t8,t9⟩;have sY:cH B X x V Y V:=eV.grow Sv hb.x;have ow:=ox.ext sY.ex;have oV:=sY.bk.o.ok;obtain⟨lr,le,sb,gm⟩:=cH.fa sY;obtain⟨j1,f1,q1⟩:=cZ ow we 1 1 rfl De;have lj:=@e9 _ _ _ hb.m;have ot:=hb.f.a8.one;have XA:=(XT.1 hb.m).1;by_cases hlt3:k'<n
 ·have e6:decide ((k':Int)<bH x.ev 1)=true:=XZ Om;have e7:IntKind.i64.wrap ((k':Int)+1)=((k'+1:Nat):Int):=wrapN Om;refine Rs (AH t2 t3 t4 @le @lr @bB @aN @aY t8 t9 @j1 @f1 e6 @lj) ?_;refine WR.qp (B:=W4) (cs:=(List.replicate k' (-1:Int)).map aK) hb.f rfl hb.x De (by simp only[X2,Y6];omega) ?_;intro W5 s' x5 hff hn5 q5 l5 hk5;have hrow:(List.replicate k' (-1:Int)).map aK++[[AV.i (-1)]]=(List.replicate (k'+1) (-1:Int)).map aK:=by rw[List.replicate_succ',X4];rfl
  rw[hrow]at hff;have m5:W5[jb]? =some (.b [AV.str (aP x.ev 0),.str (aP x.ev 1),t]):=(hk5 jb XA hb.n).trans hb.m;have Su:aW 1 (.ptr jb 2) s' (λz=>W5[z]?)=some (az,.set jb (.b [AV.str (aP x.ev 0),.str (aP x.ev 1),s'])):=(aL m5).trans (bY q5 (by show 2+1<=3;omega));have hs'j:∀i,sB s' =some i->i≠jb:=λi hi=>by have:=hn5 i hi;omega
  refine Rs (A8 t2 t3 t4 t8 t9 @Su q5 e7) ?_;refine⟨_,Om,k'+1,s',Om,rfl,⟨hb.l,x5.iR hb.l,Yd Om,hff.aB λi hi=>Yc (Zk (hs'j i hi)),λe=>hs'j _ e rfl⟩,rfl⟩
 ·have e6:decide ((k':Int)<bH x.ev 1)=false:=XU Om;have ekn:k' =n:=Om
  obtain⟨y,hy⟩:∃y:jv,y=⟨aP x.ev 0,aP x.ev 1,List.replicate n (-1)⟩:=⟨_,rfl⟩;obtain⟨z,hz⟩:∃z:List AV,z=bK (y,t):=⟨_,rfl⟩;have SJ:[AV.str (aP x.ev 0),.str (aP x.ev 1),t]=z:=by rw[hz,hy];rfl
  have hbf:=hb.f;rw[ekn]at hbf;refine Rs (AG t2 t3 t4 @le @lr @bB @aN @aY t8 t9 @j1 @f1 e6 @fy @lj @ot) ?_;rw[SJ];refine WR.qp (B:=B) (cs:=V.aG.map bK) (sY.bk.o.i4) (by rw[hz];rfl) sY.ex De (by rw[X2];omega) ?_;intro W5 s' x5 hff hn5 q5 l5 hk5;have hrow:V.aG.map bK++[z]=(V.aG++[(y,t)]).map bK:=by rw[X4,hz];rfl
  rw[hrow]at hff;have hlW:W4.length<=Y.length:=hb.x.len;have bW:∀i,sB t=some i->sB V.s4≠some i:=λi hi e=>by
   have h1:=(hbf.bQ hi).1;have h2:=(Sv.bk.o.dU (b:=i) (by rw[<-e];simp[RV.bl])).2;omega
  have f5:Fr B.length W5 t 1 (y.bp.map aK):=by
   rw[hy];exact(hbf.aB λi hi=>hk5 i (hbf.bQ hi).2 (bW i hi)).low Sv.ex.len
  have s5:cH B X x V (W5.set X.length (.b (V.row.set 5 s'))) {V with aG:=V.aG++[(y,t)],s4:=s'}:=eV.p4 Sv hff f5 (λi hi=>.inr (by have:=hn5 i hi;omega)) (λi hi=>⟨(hbf.bQ hi).1,λe=>by have:=hn5 i e;have:=(hbf.bQ hi).2;omega⟩) (λi hi hne=>(hk5 i Om hne).trans (hb.x.get hi)) x5 Om;have mB:W5[X.length]? =some (.b V.row):=(hk5 _ sY.bk.lt (λz=>sY.bk.ne (by rw[<-z];simp[RV.bl]))).trans sY.bk.m;have Su:aW 1 (.ptr X.length 5) s' (λz=>W5[z]?)=some (az,.set X.length (.b (V.row.set 5 s'))):=(aL mB).trans (bY q5 (by show 5+1<=7;omega));refine Rs (A7 t2 t3 t4 t8 t9 @Su q5) ?_;obtain⟨W6,SD⟩:∃Z,Z=W5.set X.length (.b (V.row.set 5 s')):=⟨_,rfl⟩
  rw[<-SD]at s5 ⊢;obtain⟨lr,_,sb,gm⟩:=cH.fa s5;refine Rs (A9 t2 t3 t4 t8 t9 @lr @aE @sb @gm) ?_;rw[R9];exact cH.fin s5 (λ_=>by simp only[RV.an,X4,YR,ZM,dz,hy,hn])
def Ch{d}(hd:d=.run\/d=.fX\/d=.fail\/d=.gB\/d=.rel)(o:cK B.length X V)(w:fk V.an)(hx:Ext B X)(ox:bt B x)(we:kT x.ev d)(nk:sI V.an x.ev d):
  dq P 227 [.agg V.row,.agg x.row] X (rT B X V (bC V.an x.ev d) (dz V.an x.ev d)):=by
 refine .of T.mix (aaw T.c227 (Yx some O0)) ?_;obtain⟨ts,QP⟩:∃ts,ts=aU 223 [.agg V.row,.agg x.row]:=⟨_,rfl⟩;have hlen:ts.length=223:=by rw[QP];rfl
 have t0:slot ts 0=.agg V.row:=by rw[QP];rfl
 have t1:slot ts 1=.agg x.row:=by rw[QP];rfl
 show WC P bT (.seq (O1 0) (Aj 1)) [] (aU 223 [.agg V.row,.agg x.row]) X (FQ [(4,some (some 7)),(5,none)] (rT B X V (bC V.an x.ev d) (dz V.an x.ev d)));rw[<-QP];clear QP;have QO:=@aC.box _ _ o.ok;have hex:=@bt.box _ _ (ox.ext hx);have s:cH B X x V (X++[.b V.row]++[.b x.row]++[.b kK]) V:=FU o hx;unfold kK at s;generalize hR:Aj 1=R;unfold O1 fn227;simp only[ai.dr,ai.hd];refine Rs (A4 t0 t1 @QO @hex) ?_;rw[<-hR];rcases hd with rfl|rfl|rfl|rfl|rfl
 ·exact H9 T w ox we nk s Sn Sw (by simp only[aQ,aT,ba,bd,reduceAdd,reduceMul,reduceLeDiff,reduceEqDiff,bg,hlen,Yb,Yf];simp) (by simp only[aQ,aT,ba,bd,reduceAdd,reduceMul,reduceLeDiff,reduceEqDiff,bg,hlen,Yb,Yf];simp)
 ·exact Et T w ox we nk s Sn Sw (by simp only[aQ,aT,ba,bd,reduceAdd,reduceMul,reduceLeDiff,reduceEqDiff,bg,hlen,Yb,Yf];simp) (by simp only[aQ,aT,ba,bd,reduceAdd,reduceMul,reduceLeDiff,reduceEqDiff,bg,hlen,Yb,Yf];simp)
 ·exact Ew T w ox we nk s Sn Sw (by simp only[aQ,aT,ba,bd,reduceAdd,reduceMul,reduceLeDiff,reduceEqDiff,bg,hlen,Yb,Yf];simp) (by simp only[aQ,aT,ba,bd,reduceAdd,reduceMul,reduceLeDiff,reduceEqDiff,bg,hlen,Yb,Yf];simp)
 ·exact Eu T w ox we nk s Sn Sw (by simp only[aQ,aT,ba,bd,reduceAdd,reduceMul,reduceLeDiff,reduceEqDiff,bg,hlen,Yb,Yf];simp) (by simp only[aQ,aT,ba,bd,reduceAdd,reduceMul,reduceLeDiff,reduceEqDiff,bg,hlen,Yb,Yf];simp)
 ·exact Ia T w ox we nk s Sn Sw (by simp only[aQ,aT,ba,bd,reduceAdd,reduceMul,reduceLeDiff,reduceEqDiff,bg,hlen,Yb,Yf];simp) (by simp only[aQ,aT,ba,bd,reduceAdd,reduceMul,reduceLeDiff,reduceEqDiff,bg,hlen,Yb,Yf];simp)
end
def uv(k:Nat):ai:=(fn129).body.dr k
def CU(k:Nat):ai:=((fn129).body.dr k).hd
def Pk:fn129=⟨63,2,[(4,some (some 7)),(5,none)],.seq (CU 0) (uv 1)⟩:=rfl
def L7:uv 1=.seq (CU 1) (uv 2):=rfl
def Pj:uv 2=.seq (CU 2) (uv 3):=rfl
def Ph:uv 3=.seq (CU 3) (uv 4):=rfl
def Pg:uv 4=.seq (CU 4) (uv 5):=rfl
def I3(h:ah)(c:Int)(R':gx):AV->ah->Prop:=λv k=>Ext h k/\∃V':RV,v=.dN [.agg V'.row,.i c]/\aC k V'/\(c=0->V'.an=R'/\∀i,some i∈V'.bl->h.length<=i)
def aC.IS{h:ah}{V:RV}(o:aC h V){W:ah}{b:Nat}(hz:W[b]? =some (.b kK)):aW 7 (.ptr b 0) (.agg V.row) (λz=>W[z]?)=some (az,.set b (.b V.row)):=by
 have h1:=@aL 7 b 0 (.agg V.row) (λz=>W[z]?) _ hz;have st:=@aC.st _ _ o;unfold kK at h1;rw[st]at h1;exact h1
def aC.Qs{h:ah}{V U:RV}(o:aC h V){W:ah}{b:Nat}(hz:W[b]? =some (.b U.row)):aW 7 (.ptr b 0) (.agg V.row) (λz=>W[z]?)=some (az,.set b (.b V.row)):=by
 have h1:=@aL 7 b 0 (.agg V.row) (λz=>W[z]?) _ hz;rw[h1];exact o.st
def n9{W:ah}{b:Nat}{V:RV}(hb:b<W.length):ar (some 7) (.ptr b 0) (λz=>(W.set b (.b V.row))[z]?)=some (.agg V.row,.au):=by
 rw[aA (Yd hb)];rfl
section
variable {P:Program}(T:fI P) {h K:ah}{ts:TS}{V U:RV}{x:EV}
include T
def Is{d:Kd}{ob:Nat}{c:Int}{R':gx}(we:kT x.ev d)(hd:d≠.fp)(ox:bt h x)(hx:Ext h K)(hob:h.length+2<ob)(mo:K[ob]? =some (.b U.row))(me:K[h.length+1]? =some (.b x.row))(mr:K[h.length+2]? =some (.b kK))
  (oU:aC K U) (hU:∀i,some i∈U.bl->h.length+2<i/\i≠ob) (hc:c=0->{U.an with tick:=bH x.ev 0} =R') (hlen:ts.length=63) (t3:slot ts 3=.ptr (h.length+1) 0) (t4:slot ts 4=.ptr (h.length+2) 0) (t7:slot ts 7=.ptr ob 0) (t8:slot ts 8=.i c):
  WC P bT (uv 5) [] ts K (FQ [(4,some (some 7)),(5,none)] (I3 h c R')):=by
 have:=T.mix;have hv0:0<cF d:=by cases d<;>first|exact absurd rfl hd|decide
 have ow:=ox.ext hx;obtain⟨j0,f0,_⟩:=cZ ow we 0 0 rfl hv0;have le:=@e9 _ _ _ me;obtain⟨V2,hV2⟩:∃V2:RV,V2={U with tick:=bH x.ev 0}:=⟨_,rfl⟩;have hrow:U.row.set 0 (.i (bH x.ev 0))=V2.row:=by rw[hV2];rfl
 have sbo:aW 1 (.ptr ob 0) (.i (bH x.ev 0)) (λz=>K[z]?)=some (az,.set ob (.b V2.row)):=by
  rw[<-hrow];exact(aL mo).trans (bY rfl (by show 0+1<=7;omega))
 unfold uv fn129;simp only[ai.j,ai.s,ai.r,ai.dr,ai.tl];refine Rs (A9 t3 t4 t7 t8 @le @aY @j0 @f0 @sbo) ?_;have hbo:=(XT.1 mo).1;have hbr:=(XT.1 mr).1;obtain⟨K1,Ui⟩:∃Z,Z=K.set ob (.b V2.row):=⟨_,rfl⟩;rw[<-Ui];have mo1:K1[ob]? =some (.b V2.row):=by rw[Ui];exact Yd hbo
 have mr1:K1[h.length+2]? =some (.b kK):=by rw[Ui,Yc Om];exact mr
 have l1:K1.length=K.length:=by rw[Ui,YD]
 have lo:=@e9 _ _ _ mo1;have oV:aC K V2:=by rw[hV2];exact⟨oU.i0,oU.i1,oU.i2,oU.i3,oU.i4,oU.i5,oU.e2,oU.e3,oU.e4⟩
 have sb:=oV.IS mr1;have gm:=n9 (W:=K1) (b:=h.length+2) (V:=V2) Om;refine Rs (A8 t3 t4 t7 t8 @lo @aE @sb @gm) ?_;refine⟨?_,V2,rfl,oV.au λi hi=>?_,λz=>⟨by rw[<-hc z,hV2];rfl,λi hi=>?_⟩⟩
 ·rw[Ui];exact(hx.iR Om).iR Om
 ·have:some i∈U.bl:=by rw[hV2]at hi;exact hi
  have:=hU i this;rw[Yc Om,Ui,Yc Om]
 ·have:some i∈U.bl:=by rw[hV2]at hi;exact hi
  have:=hU i this;omega
def L5{d:Kd}{B X:ah}{ob:Nat}(we:kT x.ev d)(hd:d≠.fp)(nk:sI U.an x.ev d)(w:fk U.an)(ox:bt h x)(hB:Ext h B)(hx:Ext B X)(hob:ob<X.length)(hbo:B.length<=ob)(hBl:h.length+3<=B.length)(mo:X[ob]? =some (.b U.row))(me:B[h.length+1]? =some (.b x.row))(mr:B[h.length+2]? =some (.b kK))
  (o:cK B.length X U) (hU:some ob∉U.bl) (hlen:ts.length=63) (t3:slot ts 3=.ptr (h.length+1) 0) (t4:slot ts 4=.ptr (h.length+2) 0) (t7:slot ts 7=.ptr ob 0):
  WC P bT (uv 4) [] ts X (FQ [(4,some (some 7)),(5,none)] (I3 h (bC U.an x.ev d) (sg U.an x.ev d))):=by
 have QW:x.ev.kind=bA d:=cC we.kd;have le:∀{k n a},Ext X k->ar n (.ptr (h.length+1) a) (λz=>k[z]?)=dJ n a (.b x.row):=λ{_ _ _} e=>aA ((hx.trans e).some me)
 have lo:=@e9 _ _ _ mo;have oB:=ox.ext hB;rw[Pg];generalize hR:uv 5=R;unfold CU fn129;simp only[ai.j,ai.s,ai.r,ai.dr,ai.tl,ai.hd];have fin:∀{v:AV}{k:ah},rT B X U (bC U.an x.ev d) (dz U.an x.ev d) v k->∃V2:RV,v=.dN [.agg V2.row,.i (bC U.an x.ev d)]/\aW 7 (.ptr ob 0) (.agg V2.row) (λz=>k[z]?)=some (az,.set ob (.b V2.row))/\
   (∀ts':TS,ts'.length=63->slot ts' 3=.ptr (h.length+1) 0->slot ts' 4=.ptr (h.length+2) 0->slot ts' 7=.ptr ob 0->slot ts' 8=.i (bC U.an x.ev d)->WC P bT R [] ts' (k.set ob (.b V2.row)) (FQ [(4,some (some 7)),(5,none)] (I3 h (bC U.an x.ev d) (sg U.an x.ev d)))):=by
  rintro v k ⟨x1,hl,hfr,V2,rfl,o2,hc,hlo⟩;have mo2:k[ob]? =some (.b U.row):=(hfr ob hob hU).trans mo;have hV2:∀i,some i∈V2.bl->B.length<=i/\i≠ob:=λi hi=>⟨(o2.dU hi).1,λe=>by
   subst e;rcases hlo _ hi with z|z
   ·exact hU z
   ·omega⟩
  refine⟨V2,rfl,o2.ok.Qs mo2,λts' Q1 u3 u4 u7 u8=>?_⟩;rw[<-hR];refine Is T we hd ox ((hB.trans x1).iR Om) Om (Yd (XT.1 mo2).1) ?_ ?_ (o2.ok.au λi hi=>?_) (λi hi=>?_) (λz=>?_) Q1 u3 u4 u7 u8
  ·rw[Yc Om];exact x1.some me
  ·rw[Yc Om];exact x1.some mr
  ·rw[Yc (Zk (hV2 i hi).2)]
  ·have:=hV2 i hi;exact⟨Om,this.2⟩
  ·rw[hc z];rfl
 cases d with
 |fp=>exact absurd rfl hd
 |line=>
  refine o9 (qt t3 t4 t7 @le @lo @bB @cA @aE @QW @gU @Yp @Yi) ?_;refine WF.gen T.c225 (Ci T (d:=.line) De o w hx oB we nk) ?_;intro v k hv;exact z3
 |tape=>
  refine o9 (qt t3 t4 t7 @le @lo @bB @cA @aE @QW @gU @Yp @Yi) ?_;refine WF.gen T.c225 (Ci T (d:=.tape) De o w hx oB we nk) ?_;intro v k hv;exact z3
 |gA=>
  refine o9 (qt t3 t4 t7 @le @lo @bB @cA @aE @QW @gU @Yp @Yi) ?_;refine WF.gen T.c225 (Ci T (d:=.gA) De o w hx oB we nk) ?_;intro v k hv;exact z3
 |copy=>
  refine o9 (qt t3 t4 t7 @le @lo @bB @cA @aE @QW @gU @Yp @Yi) ?_;refine WF.gen T.c225 (Ci T (d:=.copy) De o w hx oB we nk) ?_;intro v k hv;exact z3
 |accept=>
  refine o9 (qt t3 t4 t7 @le @lo @bB @cA @aE @QW @gU @Yp @Yi) ?_;refine WF.gen T.c225 (Ci T (d:=.accept) De o w hx oB we nk) ?_;intro v k hv;exact z3
 |source=>
  refine o9 (qt t3 t4 t7 @le @lo @bB @cA @aE @QW @gU @Yp @Yi) ?_;refine WF.gen T.c226 (HG T (d:=.source) De o w hx oB we nk) ?_;intro v k hv;exact z3
 |fY=>
  refine o9 (qt t3 t4 t7 @le @lo @bB @cA @aE @QW @gU @Yp @Yi) ?_;refine WF.gen T.c226 (HG T (d:=.fY) De o w hx oB we nk) ?_;intro v k hv;exact z3
 |merge=>
  refine o9 (qt t3 t4 t7 @le @lo @bB @cA @aE @QW @gU @Yp @Yi) ?_;refine WF.gen T.c226 (HG T (d:=.merge) De o w hx oB we nk) ?_;intro v k hv;exact z3
 |run=>
  refine o9 (qt t3 t4 t7 @le @lo @bB @cA @aE @QW @gU @Yp @Yi) ?_;refine WF.gen T.c227 (Ch T (d:=.run) De o w hx oB we nk) ?_;intro v k hv;exact z3
 |fX=>
  refine o9 (qt t3 t4 t7 @le @lo @bB @cA @aE @QW @gU @Yp @Yi) ?_;refine WF.gen T.c227 (Ch T (d:=.fX) De o w hx oB we nk) ?_;intro v k hv;exact z3
 |fail=>
  refine o9 (qt t3 t4 t7 @le @lo @bB @cA @aE @QW @gU @Yp @Yi) ?_;refine WF.gen T.c227 (Ch T (d:=.fail) De o w hx oB we nk) ?_;intro v k hv;exact z3
 |gB=>
  refine o9 (qt t3 t4 t7 @le @lo @bB @cA @aE @QW @gU @Yp @Yi) ?_;refine WF.gen T.c227 (Ch T (d:=.gB) De o w hx oB we nk) ?_;intro v k hv;exact z3
 |rel=>
  refine o9 (qt t3 t4 t7 @le @lo @bB @cA @aE @QW @gU @Yp @Yi) ?_;refine WF.gen T.c227 (Ch T (d:=.rel) De o w hx oB we nk) ?_;intro v k hv;exact z3
def Ir{d:Kd}{H:ah}(hH:H=h++[ak.b V.row]++[.b x.row]++[.b kK])(o:aC h V)(w:fk V.an)(ox:bt h x)(we:kT x.ev d)(hd:d≠.fp)(hlen:ts.length=63)(t2:slot ts 2=.ptr h.length 0)(t3:slot ts 3=.ptr (h.length+1) 0)(t4:slot ts 4=.ptr (h.length+2) 0):
  WC P bT (uv 1) [] ts H (FQ [(4,some (some 7)),(5,none)] (I3 h (jr V.an x.ev d) (sg V.an x.ev d))):=by
 have hv0:0<cF d:=by cases d<;>first|exact absurd rfl hd|decide
 have Rq:Ext h H:=by rw[hH];exact Xx
 have Uj:H.length=h.length+3:=by rw[hH];simp
 have mV:H[h.length]? =some (.b V.row):=by rw[hH];simp
 have me:H[h.length+1]? =some (.b x.row):=by rw[hH];simp
 have mr:H[h.length+2]? =some (.b kK):=by rw[hH];simp
 clear hH;have ow:=ox.ext Rq;have oW:=o.ext Rq;obtain⟨j0,f0,_⟩:=cZ ow we 0 0 rfl hv0;have lr:=@e9 _ _ _ mV;have le:=@e9 _ _ _ me;have sb:∀{k},Ext H k->aW 7 (.ptr (h.length+2) 0) (.agg V.row) (λz=>k[z]?)=some (az,.set (h.length+2) (.b V.row)):=λ{_} e=>(o.ext (Rq.trans e)).IS (e.some mr)
 have gm:∀{k},Ext H k->ar (some 7) (.ptr (h.length+2) 0) (λz=>(k.set (h.length+2) (.b V.row))[z]?)=some (.agg V.row,.au):=λ{_} e=>n9 (by have:=e.len;omega)
 have XP:∀{k:ah}{c:Int},Ext H k->jr V.an x.ev d=c->c≠0->I3 h (jr V.an x.ev d) (sg V.an x.ev d) (.dN [.agg V.row,.i c]) (k.set (h.length+2) (.b V.row)):=by
  intro k c e hc h0;refine⟨(Rq.trans e).iR Om,V,by rw[hc],?_,λz=>absurd (hc.symm.trans z) h0⟩;exact o.sub λb c' mu tl hb=>by
   have hlt:=(XT.1 hb).1;rw[Yc Om];exact(Rq.trans e).some hb
 by_cases h1:bH x.ev 0<V.an.tick
 ·have e1:decide (bH x.ev 0<V.tick)=true:=XZ h1;rw[L7];generalize hR:uv 2=R;unfold CU fn129;simp only[ai.j,ai.s,ai.r,ai.dr,ai.tl,ai.hd];refine Rs (Gu t2 t3 t4 @le @lr @aY @sV @aE @j0 @f0 e1 @sb @gm) ?_;exact XP (.refl _) (by rw[jr,X9 h1]) De
 have e1:decide (bH x.ev 0<V.tick)=false:=XU h1;rw[L7,Pj];generalize hR:uv 3=R;unfold CU fn129;simp only[ai.j,ai.s,ai.r,ai.dr,ai.tl,ai.hd];refine Rs (qt t2 t3 t4 @le @lr @aY @cA @sV @aE @j0 @f0 e1) ?_;refine WF.ce T.c223 (r223 T (d:=d) (oW.ext Xx) w.len (ow.ext Xx) we) λg1=>?_
 by_cases h2:kX d V.an x.ev=0
 case neg=>
  have e2:decide (kX d V.an x.ev≠0)=true:=XZ h2;refine Rs (A8 t2 t3 t4 e2 @lr @aE @sb @gm) ?_;have ef:=XP (k:=H++g1) (c:=kX d V.an x.ev) ⟨g1,rfl⟩ (by rw[jr,X5 h1,X9 h2]) h2;rw[List.set_append_left _ _ Om]at ef;exact ef
 have e2:decide (kX d V.an x.ev≠0)=false:=XU (λz=>z h2);have hes:jr V.an x.ev d=bC V.an x.ev d:=by rw[jr,X5 h1,X5 (λz=>z h2)]
 rw[hes];refine Rs (A4 t2 t3 t4 e2) ?_;rw[<-hR];obtain⟨B,hB⟩:∃B,B=H++g1:=⟨_,rfl⟩;rw[<-hB];have eB:Ext H B:=⟨g1,hB⟩;have lr:∀{k n a},Ext B k->ar n (.ptr h.length a) (λz=>k[z]?)=dJ n a (.b V.row):=λ{_ _ _} e=>aA (e.some (eB.some mV))
 clear sb gm XP le f0 j0 e1 e2;rw[Ph];generalize hR:uv 4=R;unfold CU fn129;simp only[ai.j,ai.s,ai.r,ai.dr,ai.tl,ai.hd];refine Rs (A5 t2 t3 t4 @lr @aE) ?_;refine WF.res T.c224 (r224 T (oW.ext eB) w) ?_;rintro _ g2 ⟨U,hU,rfl,own⟩;have QO:=@aC.box _ _ own.ok;have st:=@aC.st _ _ own.ok;refine Rs (A5 t2 t3 t4 @QO @st) ?_;obtain⟨X0,hX0⟩:∃Z,Z=B++g2:=⟨_,rfl⟩;rw[<-hX0]at own ⊢;have e0:Ext B X0:=⟨g2,hX0⟩;rw[<-hR,<-hU];refine L5 T (ob:=X0.length) we hd (by rw[hU];exact yJ h2) (by rw[hU];exact w) ox (Rq.trans eB) (e0.trans ⟨_,rfl⟩) Si e0.len (by have:=eB.len;omega) bh (eB.some me) (eB.some mr) (own.app _) (λhi=>?_) Sn (Sq t3) (Sq t4) Sw
 have:=(own.dU hi).2;omega
def r129{d}(o:aC h V)(w:fk V.an)(ox:bt h x)(we:kT x.ev d)(hd:d≠.fp):ay P 129 [.agg V.row,.agg x.row] h (λv k=>∃V':RV,v=.dN [.agg V'.row,.i (jr V.an x.ev d)]/\aC k V'/\(jr V.an x.ev d=0->V'.an=sg V.an x.ev d/\∀i,some i∈V'.bl->h.length<=i)):=by
 refine .of T.mix (aaw T.c129 (Yx some Pk)) ?_;obtain⟨ts,QP⟩:∃ts,ts=aU 63 [.agg V.row,.agg x.row]:=⟨_,rfl⟩;have hlen:ts.length=63:=by rw[QP];rfl
 have t0:slot ts 0=.agg V.row:=by rw[QP];rfl
 have t1:slot ts 1=.agg x.row:=by rw[QP];rfl
 show WC P bT (.seq (CU 0) (uv 1)) [] (aU 63 [.agg V.row,.agg x.row]) h (FQ [(4,some (some 7)),(5,none)] (I3 h (jr V.an x.ev d) (sg V.an x.ev d)));rw[<-QP];clear QP;have QO:=@aC.box _ _ o;have hex:=@bt.box _ _ ox;generalize hR:uv 1=R;unfold CU fn129;simp only[ai.dr,ai.hd];refine Rs (A4 t0 t1 @QO @hex) ?_;rw[<-hR];exact Ir T rfl o w ox we hd Sn Sw (by simp only[aQ,aT,ba,bd,reduceAdd,reduceMul,reduceLeDiff,reduceEqDiff,bg,hlen,Yb,Yf];simp) (by simp only[aQ,aT,ba,bd,reduceAdd,reduceMul,reduceLeDiff,reduceEqDiff,bg,hlen,Yb,Yf];simp)
end
end Go.Abs
