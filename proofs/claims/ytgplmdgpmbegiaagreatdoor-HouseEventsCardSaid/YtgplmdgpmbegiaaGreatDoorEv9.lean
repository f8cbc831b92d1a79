/- A part of the proof that HouseEvents holds. No condition. -/
import Derived.Test.YtgplmdgpmbegiaaGreatDoorEv8
import Derived.Test.YtgplmdgpmbegiaaGreatDoorEv7
import Derived.Laws.Externs
import Derived.Shelf.Strconv.Itoa3
import Derived.Shelf.Strconv.Atoi
import Derived.Lib.AtoiErrMem
import Derived.Test.YtgplmdgpmbegiaaGreatDoorEv1
import Derived.Test.YtgplmdgpmbegiaaGreatDoorEv2
import Derived.Test.YtgplmdgpmbegiaaGreatDoorEv5
import Derived.Test.YtgplmdgpmbegiaaGreatDoorEv6
import Derived.ChangeArms
import Derived.Deep.Slices
import Derived.WideShapes
import Derived.ChangeShapes
import Derived.ChangeMaps5
import Derived.OpenShut
import Derived.Carry
import Derived.ChangeSame
import Derived.RowKit
import Derived.ProofKit
import Derived.LaidMore
import Derived.Lay
import Derived.SevenTiedAt
import Derived.Stop.Joined
import Derived.Test.YtgplmdgpmbegiaaGreatDoorRows
import Derived.Test.YtgplmdgpmbegiaaGreatDoorTie
import Derived.Test.YtgplmdgpmbegiaaGreatDoorCards
import Derived.Test.YtgplmdgpmbegiaaGreatDoorEv0
set_option maxHeartbeats 4000000
set_option linter.all false
open Nat (reduceAdd reduceMul reduceLeDiff reduceEqDiff)
namespace Go.Abs
theorem tE{c}:∀{s},(fq c s).2.2=true->s=(fq c s).1++c:: (fq c s).2.1
 |[],h=>by cases h
 |x::r,h=>by
  rw[fq]at h ⊢;split
  ·rename_i e;rw[e];rfl
  ·rename_i e;rw[Za e]at h;exact Zv (x::·) (tE (s:=r) h)
set_option maxRecDepth 10000
attribute [local irreducible] WP WC WE WB WR WF WL WG fR WQ
section
variable {P:Program}(T:fA P) {h:ah}
include T
def r37(X:C4 P)(Z:qq P)(w:Pw h)(s:By)(hsl:s.length<=2^37):aA P 37 [.str s] h (λv k=>∃(L':List EV) (s':AV),L'.map EV.ev=(lz s).1/\v=.dL [s',.i (lz s).2.1,.i (lz s).2.2]/\Fr h.length k s' 5 (L'.map EV.row)/\∀x∈L',AX h.length k s' x):=by
 refine .kr 55 T.mix T.c37 ?_;intro ts hlen t0;unfold fn37 gA;by_cases h6:1000000<s.length
 ·have d1:decide ((1000000:Int)<s.length)=true:=Y5 Om;refine Rs (A2 t0 @d1) ?_;exact⟨[],.af,by rw[lz,Zh h6];rfl,by rw[lz,Zh h6],.nil,λx hx=>(by cases hx)⟩
 have d1:decide ((1000000:Int)<s.length)=false:=YW Om;have hrs:lz s=ra (s.length+1) s [] 0:=Za h6;refine Rs (A2 t0 @d1) ?_;refine WL.inv T.mix (λn ts h'=>∃(a f:Nat) (out:AV) (L':List EV) (g:ah),a<=s.length/\n=s.length-a/\h' =h++g/\L'.length<=a/\lz s=ra (f+1) (s.drop a) (L'.map EV.ev) a/\s.length-a<=f/\Fr h.length (h++g) out 5 (L'.map EV.row)/\(∀x∈L',AX h.length (h++g) out x)/\
   ts.length=55/\slot ts 0=.str s/\slot ts 5=out/\slot ts 6=.i a) s.length
  ⟨0,s.length,.af,[],[],Om,rfl,Si,Zc _,hrs,Om,.nil,(λx hx=>by cases hx),Sn,(Sq t0),Sw,fV⟩ ?_
 rintro _ ts _ ⟨a,f,out,L',g,ha,rfl,rfl,hLa,R9,hf,hfr,hin,hlen,t0,t5,t6⟩;by_cases hlt:a<s.length
 ·have e3:decide ((a:Int)<s.length)=true:=Y5 Om;have hne:s.drop a≠[]:=λe=>by have:=Zv List.length e;rw[abb]at this;simp at this;omega
  obtain⟨f',rfl⟩:∃f',f=f'+1:=⟨f-1,Om⟩;rw[ra,Za hne]at R9;have hdl:(s.drop a).length=s.length-a:=abb;have hcl:=rI (c:=10) (s:=s.drop a)
  repeat (first|simp (config:={maxSteps:=1000000}) only[aO,aQ,aY,aZ,reduceAdd,reduceMul,reduceLeDiff,reduceEqDiff,ba,hlen,Zi,Zk,t0,t5,t6,e3,ku (show a<=s.length by omega)]|simp (config:={maxSteps:=1000000}) (disch:=first|(simp only[YT,YX,Y6]<;>omega)|rfl|omega|fail) only[dP,aO,aQ,aY,aZ,reduceAdd,reduceMul,reduceLeDiff,reduceEqDiff,ba,hlen,Zi,Zk,t0,t5,t6,e3,ku (show a<=s.length by omega)])
  refine WF.ce T.c98 (r98 T X (s.drop a) 10 Om) λg1=>?_
  have U6:=tE (c:=10) (s:=s.drop a);generalize (fq 10 (s.drop a)).1=ln at R9 hcl U6 ⊢;generalize (fq 10 (s.drop a)).2.1=rest at R9 hcl U6 ⊢;cases hwh:(fq 10 (s.drop a)).2.2 with
  |false=>
   rw[hwh]at R9;refine Rs (A4 t0 t5 t6 @Zz) ?_;rw[R9];exact⟨L',_,rfl,rfl,hfr.app g1,λx hx=>(hin x hx).app g1⟩
  |true=>
  rw[hwh]at R9;have U6:=U6 hwh;have T3:(s.drop a).length=ln.length+(rest.length+1):=by rw[U6];simp
  have SM:rest=s.drop (a+ln.length+1):=by
   have:(s.drop a).drop (ln.length+1)=rest:=by rw[U6,<-aat];simp
   rw[<-this,aat];congr 1
  have w1:IntKind.i64.wrap (((L'.map EV.row).length:Int)+1)=(L'.length:Int)+1:=by rw[Y7];exact bz Om Om
  have w1':IntKind.i64.wrap ((L'.length:Int)+1)=(L'.length:Int)+1:=bz Om Om;refine Rs (A7 t0 t5 t6 @Zw hfr.aW.aH @w1 @w1') ?_;refine WF.res T.c99 (r99 T X Z (w.ext Xx) ln Om _) ?_;rintro _ g2 ⟨x,hx,rfl,fn,fv⟩;have hml:(L'.map EV.ev).length=L'.length:=Y7 _;have R9:lz s=if(fQ ln ((L'.length:Int)+1)).2≠0 then(L'.map EV.ev,(a:Int),(fQ ln ((L'.length:Int)+1)).2)else ra (f'+1) rest (L'.map EV.ev++[(fQ ln ((L'.length:Int)+1)).1]) (a+ln.length+1):=by rw[R9,hml];rfl
  rw[<-hx]at R9;generalize (fQ ln ((L'.length:Int)+1)).2=er at R9 ⊢;have ox:bh (h++g++g1++g2) x:=⟨fn.aW,fv.aW⟩;have st:∀{b':Nat}{a0 a1 a2 a3 a4:AV},km 5 0 (.agg x.row) b' (.b [a0,a1,a2,a3,a4])=some (ay,.set b' (.b x.row)):=λ{_ _ _ _ _ _}=>ox.st
  by_cases he:er=0
  case neg=>
   have d2:decide (er≠0)=true:=Y5 he;rw[Zh he]at R9;refine Rs (A5 t0 t5 t6 @st @d2) ?_;rw[R9];exact⟨L',_,rfl,rfl,((hfr.app g1).app g2).app _,λx hx=>(((hin x hx).app g1).app g2).app _⟩
  have d2:decide (er≠0)=false:=YW (λz=>z he);rw[Za (λz=>z he)]at R9;have ox2:bh (h++g++g1++g2++[ak.b x.row]) x:=ox.ext ⟨_,rfl⟩;have bs:=@bh.Di _ _ ox2;refine Rs (A7 t0 t5 t6 @st @d2 @bR @bs) ?_;refine WR.ff (h0:=h) (cs:=L'.map EV.row) (ys:=[x.row]) ((((hfr.app _).app _).app _).app _) (Fr.push (N:=0) (ZA _) [x.row] (by intro y hy;rw[Zj]at hy;rw[hy];rfl)).aW De Si (by simp only[Y7,YX,Y6];omega) Xx ?_;intro g' RJ hff hkp;have hrow:L'.map EV.row++[x.row]=(L'++[x]).map EV.row:=by rw[Y9];rfl
  rw[hrow]at hff;rw[hrow];obtain⟨sn,Sr⟩:∃sn,sn=AV.slice (h++g++g1++g2++[ak.b x.row]++[ak.cells x.row true true]).length 0 ((L'++[x]).map EV.row).length 5:=⟨_,rfl⟩;rw[<-Sr]at hff ⊢;have Um:∀i,sB sn=some i->(h++g++g1++g2).length+2=i:=λi hi=>by rw[Sr]at hi;cases hi;simp only[YT,Zt]<;>omega
  have hout:∀b,sB out=some b->b<(h++g).length:=λb hb=>(hfr.bP hb).2
  have kp:∀i,i<(h++g++g1++g2).length->sB out≠some i->(h++g')[i]? =(h++g++g1++g2)[i]? :=λi hi hne=>by
   rw[hkp i (by simp only[YT,Zt]at hi ⊢;omega) (λb0 o n e he zz=>hne (by rw[he,zz];rfl)),YV (h++g++g1++g2),YY hi]
  have w2:IntKind.i64.wrap ((ln.length:Int)+1)=((ln.length+1:Nat):Int):=wrapN Om;have w3:IntKind.i64.wrap ((a:Int)+((ln.length+1:Nat):Int))=((a+ln.length+1:Nat):Int):=by rw[bz Om Om];omega
  refine Rs (A5 t0 t5 t6 @w2 @w3) ?_;refine⟨s.length-(a+ln.length+1),Om,a+ln.length+1,f',sn,L'++[x],g',Om,rfl,rfl,by simp;omega,?_,Om,hff,λy hy=>?_,rfl,rfl⟩
  ·rw[R9,SM,Y9];rfl
  ·have lg:∀{i},i<(h++g).length->i<(h++g++g1++g2).length:=λ{i} hi=>by simp only[YT]at hi ⊢;omega
   rcases Y8.1 hy with hy|hy
   ·have oy:=hin y hy;have ln:=λj (hj:sB y.sn=some j)=>(oy.n.bP hj).2
    have lv:=λj (hj:sB y.sv=some j)=>(oy.v.bP hj).2
    refine⟨((oy.n.app g1).app g2).aD λj hj=>kp j (lg (ln j hj)) (oy.dn j hj),((oy.v.app g1).app g2).aD λj hj=>kp j (lg (lv j hj)) (oy.dv j hj),λj hj e=>?_,λj hj e=>?_⟩
    ·have h1:=lg (ln j hj);have h2:=Um j e;omega
    ·have h1:=lg (lv j hj);have h2:=Um j e;omega
   ·rw[Zj]at hy;subst hy;have ln:=λj (hj:sB y.sn=some j)=>fn.bP hj
    have lv:=λj (hj:sB y.sv=some j)=>fv.bP hj
    have en:(h++g++g1).length=(h++g).length+g1.length:=YT;exact Qz
 ·have e3:decide ((a:Int)<s.length)=false:=YW Om;have e4:a=s.length:=Om
  have hnil:s.drop a=[]:=List.drop_eq_nil_of_le Om;rw[ra,Zh hnil]at R9;refine Rs (A4 t0 t5 t6 e3) ?_;rw[R9];exact⟨L',_,rfl,rfl,hfr,hin⟩
end
def qF:Nat->Nat
 | 0=>198
 | 1=>126
 | 2=>200
 | 3=>201
 | 4=>202
 | 5=>203
 |_=>204
def jt(q:Nat×Bool×Nat):AV:=.agg [.bool q.2.1,.i (q.2.2:Nat),.func (.func (qF q.1)) [] []]
def BV:List (AV×AV):=[(.str [108,101,102,116],jt (0,true,4)),(.str [102,114,111,109],jt (1,true,5)),(.str [108,105,110,101,115],jt (2,true,3)),(.str [117,110,115,97,102,101],jt (3,false,2)),(.str [116,97,112,101,115],jt (4,true,2)),(.str [114,101,108,101,97,115,101,100],jt (5,false,5)),(.str [119,97,110,116],jt (6,true,0))]
def H5(k:By):jo .s (.str k) BV=some ((kV k).map jt):=by
 unfold kV BV;by_cases h0:k=[108,101,102,116]
 ·subst h0;rfl
 have b0:(k==[108,101,102,116])=false:=by simp[h0]
 by_cases h1:k=[102,114,111,109]
 ·subst h1;rfl
 have b1:(k==[102,114,111,109])=false:=by simp[h1]
 by_cases h2:k=[108,105,110,101,115]
 ·subst h2;rfl
 have b2:(k==[108,105,110,101,115])=false:=by simp[h2]
 by_cases h3:k=[117,110,115,97,102,101]
 ·subst h3;rfl
 have b3:(k==[117,110,115,97,102,101])=false:=by simp[h3]
 by_cases h4:k=[116,97,112,101,115]
 ·subst h4;rfl
 have b4:(k==[116,97,112,101,115])=false:=by simp[h4]
 by_cases h5:k=[114,101,108,101,97,115,101,100]
 ·subst h5;rfl
 have b5:(k==[114,101,108,101,97,115,101,100])=false:=by simp[h5]
 by_cases h6:k=[119,97,110,116]
 ·subst h6;rfl
 have b6:(k==[119,97,110,116])=false:=by simp[h6]
 simp only[jo,cT,b0,b1,b2,b3,b4,b5,b6,Za h0,Za h1,Za h2,Za h3,Za h4,Za h5,Za h6];rfl
def B9{h:ah}{r:Nat}(hb:h[r]? =some (.bj BV)){z:AV}{ok:Bool}{k:By}:iw .s z ok (.map r) (.str k) (λb=>h[b]?)=lC z ok ((kV k).map jt):=rq hb (H5 k)
theorem ru:∀{l}{i:Nat},∀y∈cU l i,(i:Int)<=y/\y<(i:Int)+l.length
 |[],i,y,h=>by simp[cU]at h
 |x::r,i,y,h=>by
  rw[cU]at h;have key:y∈cU r (i+1)->(i:Int)<=y/\y<(i:Int)+(x::r).length:=λh=>by
   have:=ru y h;rw[YX];omega
  split at h
  ·rcases ZG.1 h with rfl|h
   ·rw[YX];omega
   ·exact key h
  ·exact key h
section
variable {P:Program}(T:fA P) {h:ah}
include T
theorem rv{h ks ts Q g es a l z ps k v es'}(ha:a+1<=ts.length)(h1:(a=1)=False)(t1:slot ts 1=.map h.length)
  (hv:rK (eV z (ps.map λp=>(p.1,p.2.1,val ts p.2.2)))=some v) (hu:pg .s (.str k) v es=some es')
  (K:∀ts',ts'.length=ts.length->slot ts' 1=slot ts 1->WP P bJ l ks ts' (h++[.bj es']++g) Q):
  WP P bJ (.o a (.build z ps):: .x (.fO .s (.t 1) (.c (.str k)) (.t a))::l) ks ts (h++[.bj es]++g) Q:=by
 have e1:ub .s (.map h.length) (.str k) v (λb=>(h++[ak.bj es]++g)[b]?)=some (ay,.set h.length (.bj es')):=ua qp hu;unfold bK.o bK.x;rw[rT,hv,uA,uF];have e2:val (put ts (some a) v) (.t 1)=.map h.length:=by
  simp only[pT,uS,ba,h1,t1]
 have e3:val (put ts (some a) v) (.t a)=v:=by simp only[pT,uS,ba,ha]
 rw[jk,e2,e3,yA,e1,rS,BW,pT];have e4:(h++[ak.bj es]++g).set h.length (.bj es')=h++[.bj es']++g:=yK;rw[e4];exact K _ (by simp only[ba]) (by simp only[ba,h1])
def r109:aA P 109 [] h (λv h'=>v=.map h.length/\h' =h++[.bj BV]):=by
 refine .of T.mix T.c109 ?_;obtain⟨ts,RD⟩:∃ts,ts=aV 10 []:=⟨_,rfl⟩;have hlen:ts.length=10:=by rw[RD];rfl
 unfold fn109;show WC P bJ _ [] (aV 10 []) h _;rw[<-RD];clear RD;have m0:slot ((ts.set 0 AV.db).set 1 (.map h.length)) 1=.map h.length:=by simp only[ba,hlen,reduceAdd,reduceLeDiff]
 have l0:((ts.set 0 AV.db).set 1 (.map h.length)).length=10:=by simp only[ba,hlen]
 dsimp only[ai.j,ai.s,ai.r];rw[rV,rW,LA T,uH,rV,rW,LB T];rw[<-Zr (h++[ak.bj []])];generalize (ts.set 0 AV.db).set 1 (.map h.length)=ts0 at *;clear hlen;refine rv T (v:=jt (0,true,4)) (es':=[(.str [108,101,102,116],jt (0,true,4))]) (by rw[l0];decide) (aar De) m0 rfl rfl ?_;intro Ts lx mx;have l1:=lx.trans l0;have m1:=mx.trans m0;clear lx mx l0 m0;refine rv T (v:=jt (1,true,5)) (es':=[(.str [108,101,102,116],jt (0,true,4)),(.str [102,114,111,109],jt (1,true,5))]) (by rw[l1];decide) (aar De) m1 rfl rfl ?_;intro U1 lx mx;have l2:=lx.trans l1;have m2:=mx.trans m1;clear lx mx l1 m1
 refine rv T (v:=jt (2,true,3)) (es':=[(.str [108,101,102,116],jt (0,true,4)),(.str [102,114,111,109],jt (1,true,5)),(.str [108,105,110,101,115],jt (2,true,3))]) (by rw[l2];decide) (aar De) m2 rfl rfl ?_;intro ts3 lx mx;have l3:=lx.trans l2;have m3:=mx.trans m2;clear lx mx l2 m2;refine rv T (v:=jt (3,false,2)) (es':=[(.str [108,101,102,116],jt (0,true,4)),(.str [102,114,111,109],jt (1,true,5)),(.str [108,105,110,101,115],jt (2,true,3)),(.str [117,110,115,97,102,101],jt (3,false,2))]) (by rw[l3];decide) (aar De) m3 rfl rfl ?_;intro ts4 lx mx;have l4:=lx.trans l3;have m4:=mx.trans m3;clear lx mx l3 m3
 refine rv T (v:=jt (4,true,2)) (es':=[(.str [108,101,102,116],jt (0,true,4)),(.str [102,114,111,109],jt (1,true,5)),(.str [108,105,110,101,115],jt (2,true,3)),(.str [117,110,115,97,102,101],jt (3,false,2)),(.str [116,97,112,101,115],jt (4,true,2))]) (by rw[l4];decide) (aar De) m4 rfl rfl ?_;intro ts5 lx mx;have l5:=lx.trans l4;have m5:=mx.trans m4;clear lx mx l4 m4;refine rv T (v:=jt (5,false,5)) (es':=[(.str [108,101,102,116],jt (0,true,4)),(.str [102,114,111,109],jt (1,true,5)),(.str [108,105,110,101,115],jt (2,true,3)),(.str [117,110,115,97,102,101],jt (3,false,2)),(.str [116,97,112,101,115],jt (4,true,2)),(.str [114,101,108,101,97,115,101,100],jt (5,false,5))]) (by rw[l5];decide) (aar De) m5 rfl rfl ?_
 intro ts6 lx mx;have l6:=lx.trans l5;have m6:=mx.trans m5;clear lx mx l5 m5;refine rv T (v:=jt (6,true,0)) (es':=[(.str [108,101,102,116],jt (0,true,4)),(.str [102,114,111,109],jt (1,true,5)),(.str [108,105,110,101,115],jt (2,true,3)),(.str [117,110,115,97,102,101],jt (3,false,2)),(.str [116,97,112,101,115],jt (4,true,2)),(.str [114,101,108,101,97,115,101,100],jt (5,false,5)),(.str [119,97,110,116],jt (6,true,0))]) (by rw[l6];decide) (aar De) m6 rfl rfl ?_;intro ts7 lx mx;have l7:=lx.trans l6;have m7:=mx.trans m6;clear lx mx l6 m6;have hlen:=l7;rw[Zr];refine Rs @m7 ?_;rfl
section
variable {V:RV}(o:aB h V) (w:ee V.an)
include o w
def r198(Z:qq P)(pw:Pw h){n}(hn:n∈iO V.an):aA P 198 [.agg V.row,.str n] h (λv k=>aK k v 1 ((kK V.an n 0).map aq)):=by
 refine .eF 10 T.mix T.c198 ?_;intro ts hlen t0 t1;unfold fn198 gA;have Rz:=@aB.box _ _ o;have l:=w.len;refine Rs (A4 t0 t1 @Rz @aG) ?_;refine WF.res T.c124 (r124 T (o.ext Xx) l hn) ?_;rintro _ g1 ⟨x,hx,UL,rfl⟩;have hj:=w.jb x.1 (Zu hx);refine Rs (A2 t0 t1) ?_;refine WF.res T.c125 (r125 T ((o.e4 x hx).ext Xx) Om (λs hs=>(hj.2.2.2 s hs).1)) ?_;intro v g2 hv;have T3:=j6 (l:=x.1.bt) (i:=0);refine Rs (A2 t0 t1) ?_;refine WF.res T.c199 (r199 T hv Om jH (λy hy k ek=>by
  have:=ru y hy;exact yy T Z Om Om (pw.ext (Ext.trans Xx ek)))) ?_
 intro v3 g3 hv3;have hr:=hv3.aW;refine Rs t0 ?_;rw[UL]at hr;exact hr
def r200(n:By):aA P 200 [.agg V.row,.str n] h (λv k=>aK k v 1 ((kK V.an n 2).map aq)):=by
 refine .eF 9 T.mix T.c200 ?_;intro ts hlen t0 t1;unfold fn200 gA;have Rz:=@aB.box _ _ o;have l:=w.len;have hin:∀x∈V.aC,x.1.bo.length<2^30:=λx hx=>by have:=(w.md x.1 (Zu hx)).2.1;omega
 refine Rs (A4 t0 t1 @Rz @aG) ?_;refine WF.res T.c122 (r122 T (o.ext Xx) l hin _) ?_;rintro v3 g3 h3;have hsl:(iT V.an n).length<2^30:=by
  have h1:(iT V.an n).length<=V.an.lines.length:=by unfold iT;exact ZM _ _
  have:=w.l0;omega
 refine Rs (A2 t0 t1) ?_;refine WF.res T.c121 (r121 T h3 Om (λx=>x.name) (λx _ k _=>bH.of (a:=[]) (c:=[]) T.c123 (r123 T x))) ?_;intro v4 g4 h4;have hr:=h4.aW;refine Rs t0 ?_;exact hr
def r201(n:By):aA P 201 [.agg V.row,.str n] h (λv k=>aK k v 1 ((kK V.an n 3).map aq)):=by
 refine .eF 9 T.mix T.c201 ?_;intro ts hlen t0 t1;unfold fn201 gA;have Rz:=@aB.box _ _ o;have l:=w.len;refine Rs (A5 t0 t1 @Rz @aG @kR) ?_;refine WF.res T.c80 (r80 T (o.ext Xx) l w.xZ _) ?_;intro v4 g4 h4;refine Rs t0 ?_;exact h4
def r202{n}(hn:n∈mT V.an):aA P 202 [.agg V.row,.str n] h (λv k=>aK k v 1 ((kK V.an n 4).map aq)):=by
 refine .eF 9 T.mix T.c202 ?_;intro ts hlen t0 t1;unfold fn202 gA;have Rz:=@aB.box _ _ o;have l:=w.len;refine Rs (A4 t0 t1 @Rz @aG) ?_;refine WF.res T.c77 (r77 T (o.ext Xx) l hn) ?_;rintro _ g1 ⟨x,hx,UL,rfl⟩;have hr:=(o.e2 x hx);unfold aU;refine Rs (A2 t0 t1) ?_;rw[UL]at hr;exact hr.ext Xx
end
end
def zH{l x}:sf (l++[x])=sf l++(if x.rel then [x.name,jH x.lI]else []):=by
 unfold sf;simp only[Y9,aaH,ZX,aaC,Z1,aaV,Zr]
theorem qZ:∀{l},(sf l).length<=2*l.length
 |[]=>by simp[sf]
 |x::r=>by
  have:=qZ (l:=r);unfold sf at this ⊢;rw[ZX,Z1,YT,YX];split
  ·simp only[YX,Y6];omega
  ·simp only[Y6];omega
section
variable {P:Program}(T:fA P) {h:ah}
include T
section
variable {V:RV}(o:aB h V) (w:ee V.an)
include o w
def r203(Z:qq P)(pw:Pw h)(n:By):aA P 203 [.agg V.row,.str n] h (λv k=>aK k v 1 ((kK V.an n 5).map aq)):=by
 refine .eF 27 T.mix T.c203 ?_;intro ts hlen t0 t1;unfold fn203 gA;have Rz:=@aB.box _ _ o;have l5:V.aI.length<=16:=w.l5;refine Rs (A5 t0 t1 @Rz @fy o.i5.aH) ?_;refine WL.inv T.mix (λn ts h'=>∃(k:Nat) (out:AV) (g:ah),k<=V.aI.length/\n=V.aI.length-k/\h' =h++g/\Fr h.length (h++g) out 1 ((sf (V.aI.take k)).map aq)/\
   ts.length=27/\slot ts 5=out/\slot ts 9=V.s5/\slot ts 10=.i V.aI.length/\slot ts 11=.i k) V.aI.length
  ⟨0,.af,_,Om,rfl,rfl,.nil,Sn,(Sq t1),Sw,(Sq t0),fV⟩ ?_
 rintro _ ts _ ⟨k,out,g,hk,rfl,rfl,hfr,hlen,t5,t9,t10,t11⟩;by_cases hlt:k<V.aI.length
 ·have e3:=dM hlt;have e5:=wrapN (n:=k) Om;have ix:=o.i5.c8 (kk:=.i64) hlt;have ld:∀{k'},Ext (h++g) k'->ao (some 4) (cI V.s5 4 k) (λb=>k'[b]?)=some (.agg (cw V.aI[k]),.ar):=λ{k'} e=>o.i5.gS hlt (Ext.trans Xx e)
  obtain⟨x,hx⟩:∃x,x=V.aI[k]:=⟨_,rfl⟩;have Tx:x∈V.aI:=by rw[hx];exact Zb _
  have hpc:=w.pc x Tx;have RX:V.aI.take (k+1)=V.aI.take k++[x]:=by rw[hx,ZJ,YZ hlt];rfl
  have Tj:=qZ (l:=V.aI.take k);have htl:(V.aI.take k).length<=16:=by rw[ZQ];omega
  have Sr:=zH (l:=V.aI.take k) (x:=x);rw[<-hx]at ld;unfold cw at ld;cases hrel:x.rel with
  |false=>
   rw[hrel]at ld Sr;rw[Za Si,Zr,<-RX]at Sr;rw[<-Sr]at hfr;refine Rs (A8 t5 t9 t10 t11 e3 e5 ix @ld) ?_;exact⟨V.aI.length-(k+1),Om,k+1,out,_,Om,rfl,YV _ _ _,by rw[<-YV];exact hfr.app _,rfl,rfl⟩
  |true=>
   rw[hrel]at ld Sr;rw[Zh rfl,<-RX]at Sr;refine Rs (A7 t5 t9 t10 t11 e3 ix @ld) ?_;refine WF.ce T.c113 (Z.itoa Om Om (pw.ext Xx)) λg1=>?_
   rw[gC hpc.2.1];refine Rs (A4 t5 t9 t10 t11) ?_;refine WR.E8 (h0:=h) (cs:=(sf (V.aI.take k)).map aq) (ys:=([x.name,jH x.lI] :List (By)).map aq) (((hfr.app _).app _).app _) (Fr.push (N:=0) (ZA _) (([x.name,jH x.lI] :List (By)).map aq) (by simp[aq])).aW De (by simp;omega) Xx ?_;intro s' g' hff hkp hle;rw[<-Y9,<-Sr]at hff;refine Rs (A5 t5 t9 t10 t11 e5) ?_;exact⟨V.aI.length-(k+1),Om,k+1,s',g',Om,rfl,rfl,hff,rfl,rfl⟩
 ·have e3:=eC hlt;have e4:k=V.aI.length:=Om
  refine Rs (A5 t5 t9 t10 t11 e3) ?_;rw[e4,ZD]at hfr;exact hfr.aW
def r204(Z:qq P)(pw:Pw h){n}(hn:n∈gJ V.an):aA P 204 [.agg V.row,.str n] h (λv k=>aK k v 1 ((kK V.an n 6).map aq)):=by
 refine .eF 22 T.mix T.c204 ?_;intro ts hlen t0 t1;unfold fn204 gA;have Rz:=@aB.box _ _ o;have l:=w.len;have Vo:=w.ln _ (iC (f:=gZ.name) (l:=V.an.lines) (n:=n) (d:=B4) hn);have T3:(V.aj.filter λx=>decide (x.1.line=n)).length<=V.aj.length:=ZM _ _;have hl2:=l.l2;have hof:(zO V.an n).length=(V.aj.filter λx=>decide (x.1.line=n)).length:=by
  unfold zO;simp only[RV.an,aa1,Y7];rfl
 refine Rs (A4 t0 t1 @Rz @aG) ?_;refine WF.ce T.c205 (r205 T (o.ext Xx) l hn) λg1=>?_
 have UY:kK V.an n 6=[jH (zO V.an n).length,jH (dN V.an n).want,if(dN V.an n).acc then [97,99,99,101,112,116,101,100]else [111,112,101,110]]:=rfl;have Vo:1<=(dN V.an n).want/\(dN V.an n).want<=64:=Vo;generalize dN V.an n=y at UY Vo ⊢;unfold bG;rw[hof]at UY;cases TR:y.acc with
 |true=>
  rw[TR]at UY;refine Rs (A4 t0 t1 @aG @TR) ?_;refine WF.res T.c206 (r206 T (o.ext Xx) l n) ?_;intro v2 g2 h2;refine Rs (A3 t0 t1 h2.aH) ?_;refine WF.ce T.c113 (Z.itoa Om Om (pw.ext Xx)) λg3=>?_
  rw[gC Om];refine Rs (A2 t0 t1) ?_;refine WF.ce T.c113 (Z.itoa Om Om (pw.ext Xx)) λg4=>?_
  rw[gC Om];refine Rs (A2 t0 t1) ?_;rw[UY];exact(Fr.push (es:=1) (N:=0) (ZA _) (([jH ((V.aj.filter λx=>decide (x.1.line=n)).length:Nat),jH y.want,[97,99,99,101,112,116,101,100]] :List (By)).map aq) (by simp[aq])).aW
 |false=>
  rw[TR]at UY;refine Rs (A4 t0 t1 @aG @TR) ?_;refine WF.res T.c206 (r206 T (o.ext Xx) l n) ?_;intro v2 g2 h2;refine Rs (A3 t0 t1 h2.aH) ?_;refine WF.ce T.c113 (Z.itoa Om Om (pw.ext Xx)) λg3=>?_
  rw[gC Om];refine Rs (A2 t0 t1) ?_;refine WF.ce T.c113 (Z.itoa Om Om (pw.ext Xx)) λg4=>?_
  rw[gC Om];refine Rs (A2 t0 t1) ?_;rw[UY];exact(Fr.push (es:=1) (N:=0) (ZA _) (([jH ((V.aj.filter λx=>decide (x.1.line=n)).length:Nat),jH y.want,[111,112,101,110]] :List (By)).map aq) (by simp[aq])).aW
end
end
def vF{n}(h:ez n=true):n.length<=24:=by
 cases n with
 |nil=>cases h
 |cons c r=>
  unfold ez at h;simp only[ZE,ZO]at h;rw[YX];omega
def tZ{l}(h:pP l){n}(hn:n∈l):n.length<=24:=vF (h.nm n hn)
theorem pC{c}:∀{l},(∀x∈l,x.length<=64)->(jn c l).length<=65*l.length
 |[],_=>ZA _
 |x::r,h=>by
  have ih:=pC (c:=c) (l:=r) λy hy=>h y (ZH _ hy)
  have hx:=h x Si;by_cases hr:r=[]
  ·subst hr;simp only[jn,YX,Y6];omega
  ·rw[ni hr,YT,YX,YX];omega
theorem tf:∀{l m:List (By)},l.Nodup->(∀x∈l,x∈m)->l.length<=m.length
 |[],_,_,_=>ZA _
 |x::r,m,hd,hs=>by
  rw[abx]at hd;have hm:=hs x Si;have:=tf (l:=r) (m:=m.erase x) hd.2 λy hy=>(List.mem_erase_of_ne (λe=>hd.1 (by rw[<-e];exact hy))).2 (hs y (ZH _ hy))
  rw[List.length_erase_of_mem hm]at this;have:=List.length_pos_of_mem hm;rw[YX];omega
def IH{R:dJ}(w:ee R){n k:By}{q:Nat×Bool×Nat}(hq:kV k=some q)(hn:q.2.1=true->dX R q.2.2 n=true):(∀x∈kK R n q.1,x.length<=64)/\(kK R n q.1).length<=64:=by
 have dl:∀{y:Int},0<=y->y<99999999->(jH y).length<=64:=λ{y} h0 h1=>by have:=l9 (k:=7) (u:=y.toNat) Om;rw[kI];omega
 unfold kV at hq
 repeat' split at hq
 all_goals cases hq
 ·have hm:n∈iO R:=aak (hn rfl);have hj:=w.jb _ (iC (f:=kY.name) (l:=R.aF) (n:=n) (d:=zP) hm);have T3:=j6 (l:=(gB R n).bt) (i:=0);have hj:(gB R n).bt.length<=32:=hj.2.2.1;refine⟨λx hx=>?_,?_⟩
  ·obtain⟨y,hy,rfl⟩:=ZB.1 hx;have:=ru y hy;exact Dk
  ·show((cU _ _).map jH).length<=64;rw[Y7];omega
 ·refine⟨λx hx=>?_,?_⟩
  ·exact J6
  ·show(sZ R n).length<=64;unfold sZ;exact z175
 ·refine⟨λx hx=>?_,?_⟩
  ·obtain⟨y,hy,rfl⟩:=ZB.1 hx;have:=tZ w.n0 (Zu (f:=gZ.name) (aag.1 hy).1);omega
  ·show((iT R n).map gZ.name).length<=64;unfold iT;rw[Y7];have:=ZM (λl:gZ=>decide (l.name∈(mF R n).map gY.line)) R.lines;have:=w.l0;omega
 ·refine⟨λx hx=>?_,?_⟩
  ·exact J6
  ·show(ko R R.tick).length<=64;unfold ko;exact z175
 ·have hm:n∈mT R:=aak (hn rfl);have hs:=w.sh _ (iC (f:=jR.name) (l:=R.aj) (n:=n) (d:=DZ) hm);refine⟨λx hx=>?_,?_⟩
  ·have:=tZ w.n1 (hs.2.2.2 x hx);omega
  ·have:=tf hs.2.2.1 hs.2.2.2;have h1:(jL R).length<=16:=by unfold jL;rw[Y7];exact w.l1
   exact ZR this Om
 ·refine⟨λx hx=>?_,?_⟩
  ·obtain⟨l,hl,hx⟩:=List.mem_flatten.1 hx;obtain⟨p,hp,rfl⟩:=ZB.1 hl;have hpc:=w.pc p hp;split at hx
   ·simp only[ZG,Z0,aay]at hx;rcases hx with rfl|rfl
    ·have:=tZ w.n5 (Zu (f:=qm.name) hp);omega
    ·exact dl hpc.2.1 Om
   ·cases hx
  ·have:=qZ (l:=R.aI);have:=w.l5;show(sf R.aI).length<=64;omega
 ·have hm:n∈gJ R:=aak (hn rfl);have hw:=w.ln _ (iC (f:=gZ.name) (l:=R.lines) (n:=n) (d:=B4) hm);have hw:1<=(dN R n).want/\(dN R n).want<=64:=hw;have ho:(zO R n).length<=64:=ZR (ZM _ _) w.l2;refine⟨λx hx=>?_,by show(3:Nat)<=64;omega⟩;have hx:x∈[jH (zO R n).length,jH (dN R n).want,if(dN R n).acc then [97,99,99,101,112,116,101,100]else [111,112,101,110]]:=hx;simp only[ZG,Z0,aay]at hx;rcases hx with rfl|rfl|rfl
  ·exact Dk
  ·exact Dk
  ·split<;>decide
section
variable {P:Program}(T:fA P) {h:ah}
include T
def QX{V}(o:aB h V)(w:ee V.an)(Z:qq P)(pw:Pw h){n k q}(hq:kV k=some q)(hn:q.2.1=true->dX V.an q.2.2 n=true):
  bH P (.func (.func (qF q.1)) [] []) [.agg V.row,.str n] h (λv k'=>aK k' v 1 ((kK V.an n q.1).map aq)):=by
 unfold kV at hq
 repeat' split at hq
 all_goals cases hq
 ·exact bH.of (a:=[]) (c:=[]) T.c198 (r198 T o w Z pw (aak (hn rfl)))
 ·exact bH.of (a:=[]) (c:=[]) T.c126 (r126 T o w (aak (hn rfl)))
 ·exact bH.of (a:=[]) (c:=[]) T.c200 (r200 T o w n)
 ·exact bH.of (a:=[]) (c:=[]) T.c201 (r201 T o w n)
 ·exact bH.of (a:=[]) (c:=[]) T.c202 (r202 T o w (aak (hn rfl)))
 ·exact bH.of (a:=[]) (c:=[]) T.c203 (r203 T o w Z pw n)
 ·exact bH.of (a:=[]) (c:=[]) T.c204 (r204 T o w Z pw (aak (hn rfl)))
end
def CZ(k:Nat):ai:=(fn110).body.dr k
def Fa(k:Nat):ai:=(CZ k).hd
def PR:fn110=⟨69,2,[(4,none),(5,none)],.seq (Fa 0) (.seq (Fa 1) (.seq (Fa 2) (.seq (Fa 3) (.seq (Fa 4) (CZ 5)))))⟩:=rfl
def PQ:CZ 5=.seq (Fa 5) (.seq (Fa 6) (CZ 7)):=rfl
def NZ{k q}(hq:kV k=some q):q.2.2<6:=by
 unfold kV at hq
 repeat' split at hq
 all_goals cases hq
 all_goals decide
section
variable {P:Program}(T:fA P) {h W:ah}{ts:TS}
include T
def Gy{VN n k i wt b6 b8 nm}(oV:aB W VN)(wV:ee VN.an)(Z:qq P)(pw:Pw W)(hq:kV k=some (i,nm,wt))(hn:nm=true->dX VN.an wt n=true)
  (m6:W[b6]? =some (.b [.bool nm,.i (wt:Nat),.func (.func (qF i)) [] []])) (m8:W[b8]? =some (.b VN.row)) (hlen:ts.length=69) (t6:slot ts 6=.ptr b6 0) (t7:slot ts 7=.str n) (t8:slot ts 8=.ptr b8 0) (he:Ext h W):
  WC P bJ (CZ 7) [] ts W (FQ [(4,none),(5,none)] λv k=>Ext h k/\v=.dL [.str (yp (kK VN.an n i)),.i 0]):=by
 have l6:∀{k:ah}{n':Option Nat}{a:Nat},Ext W k->ao n' (.ptr b6 a) (λz=>k[z]?)=dC n' a (.b [.bool nm,.i (wt:Nat),.func (.func (qF i)) [] []]):=λe=>az (e.some m6)
 have l8:∀{k:ah}{n':Option Nat}{a:Nat},Ext W k->ao n' (.ptr b8 a) (λz=>k[z]?)=dC n' a (.b VN.row):=λe=>az (e.some m8)
 have Wq:=IH wV hq hn;have Yn:=QX T oV wV Z pw hq hn;unfold CZ fn110 gA;simp only[ai.j,ai.s,ai.r,ai.dr,ai.tl,ai.hd];refine Rs (A6 t6 t7 t8 @l6 @l8 @aG) ?_;refine WF.val Yn ?_;intro v g hv;have Wq:(∀x∈kK VN.an n i,x.length<=64)/\(kK VN.an n i).length<=64:=Wq;have hv:aK (W++g) v 1 ((kK VN.an n i).map aq):=hv;generalize kK VN.an n i=L at Wq hv ⊢;by_cases hL:L=[]
 ·have d0:decide ((L.length:Int)=0)=true:=Y5 (by rw[hL];rfl);refine Rs (A5 t6 t7 t8 hv.aH @d0) ?_;exact⟨he.trans Xx,by rw[yp,Zh hL]⟩
 ·have Xl:0<L.length:=aaU.2 hL;have d0:decide ((L.length:Int)=0)=false:=YW Om;have hj:=pC (c:=32) Wq.1;refine Rs (A5 t6 t7 t8 hv.aH @d0) ?_;refine WF.ce T.c114 (Z.join hv ⟨by rw[ry];omega,Om⟩) λg2=>?_
  refine Rs t6 ?_;exact⟨he.trans Xx,by rw[yp,Za hL,ry]⟩
def Gx{V b n k i wt b6 nm}(o:yv h b V)(w:kN V.bV)(hl:V.cC.length<=1000)(Z:qq P)(pw:Pw h)(hq:kV k=some (i,nm,wt))(he:Ext h W)
  (m6:W[b6]? =some (.b [.bool nm,.i (wt:Nat),.func (.func (qF i)) [] []])) (hlen:ts.length=69) (t0:slot ts 0=.ptr b 0) (t6:slot ts 6=.ptr b6 0) (t7:slot ts 7=.str n) {R}
  (hR:R=if nm=true/\dX V.bV.now wt n=false then([],10)else(yp (kK V.bV.now n i),0)):
  WC P bJ (CZ 5) [] ts W (FQ [(4,none),(5,none)] λv k=>Ext h k/\v=.dL [.str R.1,.i R.2]):=by
 have l6:∀{k:ah}{n':Option Nat}{a:Nat},Ext W k->ao n' (.ptr b6 a) (λz=>k[z]?)=dC n' a (.b [.bool nm,.i (wt:Nat),.func (.func (qF i)) [] []]):=λe=>az (e.some m6)
 have hwt:wt<6:=NZ hq;obtain⟨RR,SG⟩:∃RR,RR=CZ 7:=⟨_,rfl⟩;have o2:=o.ext he;have oV:=o2.now;have wV:ee V.now.an:=by rw[V.jD];exact w.now
 rw[<-V.jD]at hR;have st:=λ{b':Nat}{a0 a1 a2 a3 a4 a5 a6:AV}=>@aB.st _ _ oV b' a0 a1 a2 a3 a4 a5 a6 false
 rw[PQ,<-SG];unfold Fa CZ fn110 gA;simp only[ai.j,ai.s,ai.r,ai.dr,ai.tl,ai.hd];refine Rs (A3 t0 t6 t7) ?_;refine WF.ce T.c79 (r79 T o2 hl) λg1=>?_
 cases nm with
 |false=>
  rw[Za Si]at hR;refine Rs (A6 t0 t6 t7 @st @l6 @aG) ?_;rw[hR,SG];exact Gy T (VN:=V.now) (b6:=b6) (b8:=(W++g1).length) (oV.ext Xx) wV Z (pw.ext (he.trans Xx)) hq (λe=>by cases e) (Ext.some Xx m6) (by rw[Zd (Zc _),Z6];rfl) (Sq t0) (Sq t6) (Sq t7) (Sq t0) (he.trans Xx)
 |true=>
  refine Rs (A6 t0 t6 t7 @st @l6 @aG) ?_;refine WF.ce T.c86 (r86 T (oV.ext Xx) wV.len hwt n) λg2=>?_
  cases hhs:dX V.now.an wt n with
  |false=>
   rw[Zh ⟨rfl,hhs⟩]at hR;refine Rs (A5 t0 t6 t7 @hhs @Zz) ?_;exact⟨he.trans Xx,by rw[hR]⟩
  |true=>
   rw[Za (by rw[hhs];simp)]at hR;refine Rs (A5 t0 t6 t7 @hhs @Zw) ?_;rw[hR,SG];exact Gy T (VN:=V.now) (b6:=b6) (b8:=(W++g1).length) (oV.ext Xx) wV Z (pw.ext (he.trans Xx)) hq (λ_=>hhs) (Ext.some Xx m6) (Ext.some (h:=W++g1++[ak.b V.now.row]) Xx (by rw[Zd (Zc _),Z6];rfl)) (Sq t0) (Sq t6) (Sq t7) (Sq t0) (he.trans Xx)
end
def Az:((false:Bool)==false)=true:=rfl
def Aw:((true:Bool)==true)=true:=rfl
def Ax:((true:Bool)==false)=false:=rfl
def Ay:((false:Bool)==true)=false:=rfl
section
variable {P:Program}(T:fA P) {h:ah}
include T
def r110{V b}(o:yv h b V)(w:kN V.bV)(hl:V.cC.length<=1000)(Z:qq P)(pw:Pw h){s ws}(hs:aK h s 1 (ws.map aq))(hne:0<ws.length)(hwl:ws.length<2^62){q}(hq:kV (ws.headD [])=some q):
  aA P 110 [.ptr b 0,s] h (λv _=>v=.dL [.str (nB V.bV.now ws q).1,.i (nB V.bV.now ws q).2]):=by
 refine .of T.mix (abn T.c110 (Zv some PR)) ?_;obtain⟨ts,RD⟩:∃ts,ts=aV 69 [.ptr b 0,s]:=⟨_,rfl⟩;have hlen:ts.length=69:=by rw[RD];rfl
 have t0:slot ts 0=.ptr b 0:=by rw[RD];rfl
 have t1:slot ts 1=s:=by rw[RD];rfl
 obtain⟨RR,SG⟩:∃RR,RR=CZ 5:=⟨_,rfl⟩;obtain⟨i,nm,wt⟩:=q;show WC P bJ _ [] (aV 69 [.ptr b 0,s]) h (FQ _ (λv k=>Ext h k/\v=.dL [.str (nB V.bV.now ws (i,nm,wt)).1,.i (nB V.bV.now ws (i,nm,wt)).2]));rw[<-RD,<-SG];clear RD;have Yk:ws[0]=ws.headD []:=by cases ws with|nil=>simp at hne|cons a r=>rfl
 have qx:=hs.qx (kk:=.i64) hne;have ld0:∀{k:ah},Ext h k->ao none (cI s 1 0) (λb=>k[b]?)=some (.str (ws.headD []),.ar):=λ{k} e=>by rw[<-Yk];exact hs.kS (i:=0) hne rfl e
 unfold Fa CZ fn110 gA;simp only[ai.j,ai.s,ai.r,ai.dr,ai.tl,ai.hd];refine Rs (A2 t0 t1) ?_;refine WF.res T.c109 (r109 T) ?_;rintro _ g1 ⟨rfl,hg⟩;have hg:g1=[.bj BV]:=aaN hg;subst hg;have lk:∀{z:AV},iw .s z false (.map h.length) (.str (ws.headD [])) (λb=>(h++[ak.bj BV])[b]?)=lC z false ((kV (ws.headD [])).map jt):=B9 (by rw[Zd (Zc _),Z6];rfl);rw[hq]at lk;have Sh:∀{z:AV},_=some (AV.agg [.bool nm,.i (wt:Nat),.func (.func (qF i)) [] []],iI.ar):=@lk;have m6:∀{k:ah},Ext (h++[ak.bj BV]++[ak.b [.bool nm,.i (wt:Nat),.func (.func (qF i)) [] []]]) k->k[(h++[ak.bj BV]).length]? =some (ak.b [.bool nm,.i (wt:Nat),.func (.func (qF i)) [] []]):=λe=>e.some (by rw[Zd (Zc _),Z6];rfl)
 have hsyn:∀{x:By×Int},x=([],25)->nB V.bV.now ws (i,nm,wt)=([],25)->∀{k:ah},Ext h k->(Ext h k/\AV.dL [.str [],.i 25]=.dL [.str (nB V.bV.now ws (i,nm,wt)).1,.i (nB V.bV.now ws (i,nm,wt)).2]):=λ_ he k e=>⟨e,by rw[he]⟩
 cases nm with
 |false=>
  have Tc:nB V.bV.now ws (i,false,wt)=if ws.length≠1 then([],25)else(yp (kK V.bV.now [] i),0):=by
   unfold nB;simp
  by_cases e1:ws.length=1
  ·have d1:decide ((ws.length:Int)≠1)=false:=YW (λz=>z Om);have d2:decide ((ws.length:Int)=2)=false:=YW Om;refine Rs (GH t0 t1 @qx @ld0 @bW @Sh @iG @Az @Aw @Ax @Ay hs.aH @d1 @d2 @Zz @Zw) ?_;rw[SG];exact Gx T (n:=[]) o w hl Z pw hq Xx (m6 Xx) (Sq t0) (Sq t0) (Sq t0) (Sq t0) (by rw[Tc,Za (by simpa using e1),Za Si])
  ·have d1:decide ((ws.length:Int)≠1)=true:=Y5 Om;rw[Zh e1]at Tc;by_cases e2:ws.length=2
   ·have d2:decide ((ws.length:Int)=2)=true:=Y5 Om;have d3:decide (([] :By)≠[])=false:=rfl;refine Rs (Jo t0 t1 @qx @ld0 @bW @Sh @iG @Az @Aw @Ax @Ay hs.aH @d1 @d2 @d3 @Zz @Zw) ?_;rw[Tc]
   ·have d2:decide ((ws.length:Int)=2)=false:=YW Om;refine Rs (GH t0 t1 @qx @ld0 @bW @Sh @iG @Az @Aw @Ax @Ay hs.aH @d1 @d2 @Zz @Zw) ?_;rw[Tc]
 |true=>
  by_cases e2:ws.length=2
  ·have d2:decide ((ws.length:Int)=2)=true:=Y5 Om;have hw1:ws[1]=ws.getD 1 []:=by rw[ZK,YZ Om];rfl
   have ix1:bf 1 s (.i 1)=some (cI s 1 1,.ar):=hs.c8 (kk:=.i64) (i:=1) Om;have Wz:∀{k:ah},Ext h k->ao none (cI s 1 1) (λb=>k[b]?)=some (.str (ws.getD 1 []),.ar):=λ{k} e=>by rw[<-hw1];exact hs.kS (i:=1) Om rfl e
   have Tc:nB V.bV.now ws (i,true,wt)=if ws.getD 1 []=[]then([],25)else if dX V.bV.now wt (ws.getD 1 [])=false then([],10)else(yp (kK V.bV.now (ws.getD 1 []) i),0):=by
    unfold nB;simp only[e2,and_true,Zk,abz,ne_eq,Bool.true_eq_false,false_and,aay,aaP]
   generalize ws.getD 1 []=n at Wz Tc;by_cases hn:n=[]
   ·have d3:decide (n≠[])=false:=YW (λz=>z hn);rw[Zh hn]at Tc;refine Rs (GG t0 t1 @qx @ld0 @ix1 @Wz @bW @Sh @iG @Az @Aw @Ax @Ay hs.aH @d2 @d3 @Zz @Zw) ?_;rw[Tc]
   ·have d3:decide (n≠[])=true:=Y5 hn;rw[Za hn]at Tc;refine Rs (GG t0 t1 @qx @ld0 @ix1 @Wz @bW @Sh @iG @Az @Aw @Ax @Ay hs.aH @d2 @d3 @Zz @Zw) ?_;rw[SG];exact Gx T (n:=n) o w hl Z pw hq Xx (m6 Xx) (Sq t0) (Sq t0) (Sq t0) (Sq t0) (by rw[Tc];simp)
  ·have d2:decide ((ws.length:Int)=2)=false:=YW Om;have Tc:nB V.bV.now ws (i,true,wt)=([],25):=by
    unfold nB;simp[e2]
   refine Rs (AY t0 t1 @qx @ld0 @bW @Sh @iG @Az @Aw @Ax @Ay hs.aH @d2 @Zz @Zw) ?_;rw[Tc]
end
def mC(B h0:ah)(b:Nat)(V:HV)(R:iH×By×Int)(v:AV)(k:ah):Prop:=∃g' V',k=B++g'/\v=.dL [.str R.2.1,.i R.2.2]/\cH B.length (B++g') b V'/\V'.bV=R.1/\
 (∀i,i<h0.length->some i∉V.ex b->(B++g')[i]? =h0[i]?)/\∀j,some j∈V'.ex b->some j∈V.ex b\/h0.length<=j
def mC.same{B W k b V m c}(o:cH B.length W b V)(e:Ext B W)(e2:Ext W k){R}(hR:R=(V.bV,m,c)):mC B W b V R (.dL [.str m,.i c]) k:=by
 obtain⟨z,rfl⟩:=e;obtain⟨y,rfl⟩:=e2;exact⟨z++y,V,by rw[YV],by rw[hR],by rw[<-YV];exact o.app y,by rw[hR],λi hi _=>by rw[<-YV,YY hi],λj hj=>.inl hj⟩
def mC.low{B h0 W k b V R v}(s:mC B W b V R v k)(e:Ext h0 W):mC B h0 b V R v k:=by
 obtain⟨g',V',h1,h2,h3,h4,h5,h6⟩:=s;obtain⟨z,rfl⟩:=e;refine⟨g',V',h1,h2,h3,h4,λi hi hn=>?_,λj hj=>?_⟩
 ·rw[h5 i (by rw[YT];omega) hn,YY hi]
 ·rcases h6 j hj with h|h
  ·exact .inl h
  ·exact .inr (by rw[YT]at h;omega)
def qY(H:iH)(ws:List (By)):iH×By×Int:=
 if(eQ ws).2=false then(H,[],25)else
 if 1000<=H.dm.length then(H,[],5)else
 if eS H { (eQ ws).1 with num:=(H.dm.length:Int)+1}≠0 then(H,[],eS H { (eQ ws).1 with num:=(H.dm.length:Int)+1})
 else(kM H { (eQ ws).1 with num:=(H.dm.length:Int)+1},[100,111,110,101,32]++jH ((H.dm.length:Int)+1),0)
def Cw{H s}:An H s=if 4096<s.length then(H,[],26)else if s=[]then(H,[],25)else
  match kV ((bL 32 s).headD [])with
  |some q=>(H,nB H.now (bL 32 s) q)
  |none=>
   match gO ((bL 32 s).headD [])with
   |none=>(H,[],13)
   |some _=>qY H (bL 32 s):=by
 unfold An;by_cases h1:4096<s.length
 ·rw[Zh h1,Zh h1]
 rw[Za h1,Za h1];by_cases h2:s=[]
 ·rw[Zh h2,Zh h2]
 rw[Za h2,Za h2];cases kV ((bL 32 s).headD [])with
 |some q=>rfl
 |none=>
  cases gO ((bL 32 s).headD [])with
  |none=>rfl
  |some d=>
   simp only;unfold qY;cases (eQ (bL 32 s)).2<;>rfl
def Jg(k:Nat):ai:=(fn43).body.dr k
def Ir(k:Nat):ai:=(Jg k).hd
def PA:fn43=⟨97,2,[(4,none),(5,none)],.seq (Ir 0) (.seq (Ir 1) (.seq (Ir 2) (.seq (Ir 3) (.seq (Ir 4) (.seq (Ir 5) (Jg 6))))))⟩:=rfl
section
variable {P:Program}(T:fA P) {B W:ah}{ts:TS}
include T
def Mu{V b x}(he:Ext B W)(o:cH B.length W b V)(w:kN V.bV)(hl:V.dm.length<1000)(ox:bh W x)(hxl:x.ev.names.length<=2^40/\x.ev.cB.length<=2^40)(gl:Gl B):
  dh P 112 [.ptr b 0,.agg x.row] W (λv k=>Jn B W b V x.ev v k):=by
 obtain⟨g,rfl⟩:=he;exact LW T o w hl ox hxl gl
def Pz{V b}(he:Ext B W)(o:cH B.length W b V)(w:kN V.bV)(hl:V.dm.length<=1000)(gl:Gl B)(pw:Pw B)(Z:qq P){sv ws}(hs:aK W sv 1 (ws.map aq))(hwl:∀x∈ws,x.length<=2^40)
  (hlen:ts.length=97) (t0:slot ts 0=.ptr b 0) (t7:slot ts 7=sv):WC P bJ (Jg 6) [] ts W (FQ [(4,none),(5,none)] λv k=>mC B W b V (qY V.bV ws) v k):=by
 have Tj:=vv ws;have Vf:V.bV.dm.length=V.dm.length:=by simp[HV.bV]
 have lb:=@dG _ _ _ o.hb;have UH:=o.rd.ie.aH;unfold Jg fn43;simp only[ai.j,ai.s,ai.r,ai.dr,ai.tl,ai.hd];refine Rs (A2 t0 t7) ?_;refine WF.res T.c111 (r111 T Z hs hwl) ?_;rintro _ g1 ⟨x,hx,rfl,fn,fv⟩;have ox:bh (W++g1) x:=⟨fn.aW,fv.aW⟩;obtain⟨x',RI⟩:∃x':EV,x' =⟨{x.ev with num:=(V.dm.length:Int)+1},x.sn,x.sv⟩:=⟨_,rfl⟩;have hrow:x'.row=x.row.set 0 (.i ((V.dm.length:Int)+1)):=by rw[RI];rfl
 have Tw:x'.ev.num=(V.dm.length:Int)+1:=by rw[RI]
 have hev:({ (eQ ws).1 with num:=(V.bV.dm.length:Int)+1}:eD)=x'.ev:=by rw[RI,hx,Vf]
 have Xq:bh (W++g1) x':=by rw[RI];exact⟨ox.n,ox.v⟩
 have RH:qY V.bV ws=if(eQ ws).2=false then(V.bV,[],25)else if 1000<=V.dm.length then(V.bV,[],5)else if eS V.bV x'.ev≠0 then(V.bV,[],eS V.bV x'.ev)else(kM V.bV x'.ev,[100,111,110,101,32]++jH ((V.dm.length:Int)+1),0):=by
  unfold qY;rw[hev,Vf]
 have st:∀{b':Nat}{a0 a1 a2 a3 a4:AV},km 5 0 (.agg x.row) b' (.b [a0,a1,a2,a3,a4])=some (ay,.set b' (.b x.row)):=λ{_ _ _ _ _ _}=>ox.st
 have kr:∀{b':Nat},km 1 0 (.i ((V.dm.length:Int)+1)) b' (.b x.row)=some (ay,.set b' (.b x'.row)):=λ{b'}=>by
  rw[hrow];exact bO rfl (by show 0+1<=5;omega)
 have hpost:qY V.bV ws=qY V.bV ws:=rfl;generalize hfm:(eQ ws).2=fm at RH ⊢;cases fm with
 |false=>
  refine Rs (A4 t0 t7 @st @Zz) ?_;refine WF.ce T.c85 (r85 T _ _) λg2=>?_
  refine Rs (A4 t0 t7 @lb @UH) ?_;refine WF.ce T.c85 (r85 T _ _) λg3=>?_
  refine Rs (A2 t0 t7) ?_;refine WF.ce T.c74 (r74 T (cj [_,_]) Si) λg4=>?_
  have e0:∀c,aS [bX true 25,bX c 5]=25:=λc=>by cases c<;>rfl
  have d0:decide ((25:Int)≠0)=true:=rfl;refine Rs (A3 t0 e0 @d0) ?_;exact mC.same o he Xx (by rw[RH];rfl)
 |true=>
  rw[Za Si]at RH;refine Rs (A4 t0 t7 @st @Zw) ?_;refine WF.ce T.c85 (r85 T _ _) λg2=>?_
  refine Rs (A4 t0 t7 @lb @UH) ?_;refine WF.ce T.c85 (r85 T _ _) λg3=>?_
  refine Rs (A2 t0 t7) ?_;refine WF.ce T.c74 (r74 T (cj [_,_]) Si) λg4=>?_
  by_cases hk:1000<=V.dm.length
  ·have dk:decide ((1000:Int)<=(V.dm.length:Int))=true:=Y5 Om;have e0:aS [bX false 25,bX true 5]=5:=rfl;have d0:decide ((5:Int)≠0)=true:=rfl;rw[Zh hk]at RH;refine Rs (A4 t0 @dk e0 @d0) ?_;exact mC.same o he Xx RH
  ·have dk:decide ((1000:Int)<=(V.dm.length:Int))=false:=YW Om;have e0:aS [bX false 25,bX false 5]=0:=rfl;have d0:decide ((0:Int)≠0)=false:=rfl;rw[Za hk]at RH;have w1:IntKind.i64.wrap ((V.dm.length:Int)+1)=(V.dm.length:Int)+1:=bz Om Om;refine Rs (A9 t0 @dk e0 @d0 @lb @UH @w1 @kr @bR) ?_;obtain⟨Y,hY⟩:∃Y,Y=W++g1++[ak.b x'.row]++g2++g3++[ak.cells [.i (bX false 25),.i (bX false 5)] true true]++g4:=⟨_,rfl⟩;rw[<-hY];have Wo:Ext W Y:=by rw[hY];exact Xx
   have oY:cH B.length Y b V:=by obtain⟨z,hz⟩:=Wo;rw[hz];exact o.app z
   have oxY:bh Y x':=by rw[hY];exact Xq.ext Xx
   have m12:Y[(W++g1).length]? =some (.b x'.row):=by rw[hY];exact Ext.some (h:=W++g1++[ak.b x'.row]) Xx (by rw[Zd (Zc _),Z6];rfl)
   refine WF.gen T.c112 (Mu T (he.trans Wo) oY w Om oxY ⟨by rw[RI];show x.ev.names.length<=_;rw[hx];omega,by rw[RI];show x.ev.cB.length<=_;rw[hx];omega⟩ gl) ?_;rintro _ _ ⟨g',V',rfl,rfl,Ye,Xj,hkp,hexn⟩;have hYl:W.length<=Y.length:=by obtain⟨z,hz⟩:=Wo;rw[hz,YT];omega
   have hkW:∀i,i<W.length->some i∉V.ex b->(B++g')[i]? =W[i]? :=λi hi hn=>by
    rw[hkp i Om hn];obtain⟨z,hz⟩:=Wo;rw[hz,YY hi]
   have hexW:∀j,some j∈V'.ex b->some j∈V.ex b\/W.length<=j:=λj hj=>(hexn j hj).imp id λh=>by omega
   by_cases TQ:eS V.bV x'.ev=0
   ·have d:decide (eS V.bV x'.ev≠0)=false:=YW (λz=>z TQ);rw[Zh TQ]at Xj;rw[Za (λz=>z TQ)]at RH;have m12':(B++g')[(W++g1).length]? =some (.b x'.row):=by
     rw[hkp _ (YU.1 m12).1 (λhj=>by have:=o.Cs hj;simp only[YT]at this;omega)];exact m12
    have l12:ao none (.ptr (W++g1).length 0) (λz=>(B++g')[z]?)=some (.i ((V.dm.length:Int)+1),.ar):=by rw[az m12',<-Tw];rfl
    refine Rs (A3 t0 @d @l12) ?_;refine WF.ce T.c113 (Z.itoa Om Om (pw.ext ⟨_,rfl⟩)) λg5=>?_
    have hdl:=l9 (k:=7) (u:=((V.dm.length:Int)+1).toNat) Om;rw[gC Om];have hdl:(jH ((V.dm.length:Int)+1)).length<=8:=by rw[kI];exact hdl
    have hbc:([100,111,110,101,32] :By).length+(jH ((V.dm.length:Int)+1)).length<2^62:=by
     simp only[YX,Y6];omega
    have bc:=jJ hbc;refine Rs (A2 t0 @bc) ?_;exact⟨g'++g5,V',by rw[YV],by rw[RH],by rw[<-YV];exact Ye.app g5,by rw[RH,Xj],λi hi hn=>by
     rw[<-YV,<-hkW i hi hn];have hil:i<(B++g').length:=by
      have e:=hkW i hi hn;rw[YZ hi]at e;exact(YU.1 e).1
     exact YY hil,hexW⟩
   ·have d:decide (eS V.bV x'.ev≠0)=true:=Y5 TQ;rw[Za TQ]at Xj;rw[Zh TQ]at RH;refine Rs (A2 t0 @d) ?_;exact⟨g',V',rfl,by rw[RH],Ye,by rw[RH,Xj],hkW,hexW⟩
end
def cH.ext{N h k b V}(o:cH N h b V)(e:Ext h k):cH N k b V:=by obtain⟨z,rfl⟩:=e;exact o.app z
def uq{b o}:mz P7.D2 (.ptr b o) .nilPtr=some false:=rfl
section
variable {P:Program}(T:fA P) {B g:ah}
include T
def Rj{V b}(o:cH B.length (B++g) b V)(w:kN V.bV)(hl:V.dm.length<=1000)(gl:Gl B)(pw:Pw B)(X:C4 P)(Z:qq P)(s:By)(hs:s.length<=2^36):
  dh P 43 [.ptr b 0,.str s] (B++g) (λv k=>mC B (B++g) b V (An V.bV s) v k):=by
 refine .of T.mix (abn T.c43 (Zv some PA)) ?_;obtain⟨ts,RD⟩:∃ts,ts=aV 97 [.ptr b 0,.str s]:=⟨_,rfl⟩;have hlen:ts.length=97:=by rw[RD];rfl
 have t0:slot ts 0=.ptr b 0:=by rw[RD];rfl
 have t1:slot ts 1=.str s:=by rw[RD];rfl
 obtain⟨RR,SG⟩:∃RR,RR=Jg 6:=⟨_,rfl⟩;show WC P bJ _ [] (aV 97 [.ptr b 0,.str s]) (B++g) (FQ _ (λv k=>mC B (B++g) b V (An V.bV s) v k));rw[<-RD,<-SG];clear RD;have he:Ext B (B++g):=⟨g,rfl⟩;obtain⟨W,hW⟩:∃W,W=B++g:=⟨_,rfl⟩;rw[<-hW]at o he ⊢;have eW:Ext W W:=Ext.refl W;have hregs:V.cC.length<=1000:=by
  have e1:=w.ln;have e2:=w.le;exact z116
 have Ty:=Cw (H:=V.bV) (s:=s);unfold Ir Jg fn43;simp only[ai.j,ai.s,ai.r,ai.dr,ai.tl,ai.hd];refine Rs (A3 t0 t1 @uq) ?_;refine WF.ce T.c85 (r85 T _ _) λg1=>?_
 refine Rs (A2 t0 t1) ?_;refine WF.ce T.c85 (r85 T _ _) λg2=>?_
 refine Rs (A2 t0 t1) ?_;refine WF.ce T.c74 (r74 T (cj [_,_]) Si) λg3=>?_
 by_cases h1:4096<s.length
 ·have d1:decide ((4096:Int)<(s.length:Int))=true:=Y5 Om;have e0:∀c,aS [bX true 26,bX c 25]=26:=λc=>by cases c<;>rfl
  have d0:decide ((26:Int)≠0)=true:=rfl;rw[Zh h1]at Ty;refine Rs (A5 t0 t1 @d1 e0 @d0) ?_;exact mC.same o he Xx Ty
 have d1:decide ((4096:Int)<(s.length:Int))=false:=YW Om;rw[Za h1]at Ty;by_cases h2:s=[]
 ·have d2:decide (s=[])=true:=Y5 h2;have e0:aS [bX false 26,bX true 25]=25:=rfl;have d0:decide ((25:Int)≠0)=true:=rfl;rw[Zh h2]at Ty;refine Rs (A6 t0 t1 @d1 @d2 e0 @d0) ?_;exact mC.same o he Xx Ty
 have d2:decide (s=[])=false:=YW h2;rw[Za h2]at Ty;have e0:aS [bX false 26,bX false 25]=0:=rfl;have d0:decide ((0:Int)≠0)=false:=rfl;refine Rs (A6 t0 t1 @d1 @d2 e0 @d0) ?_;refine WF.res T.c64 (r64 T X s 32 Om) ?_;intro sv g4 hv;have hwl:=sP (c:=32) (s:=s) (n:=2^40) Om;have hwn:(bL 32 s).length<=s.length+1:=by
  rw[qQ];have:=List.count_le_length (a:=(32:UInt8)) (l:=s);omega
 have hne:0<(bL 32 s).length:=aaU.2 jU;obtain⟨ws,Vm⟩:∃ws,ws=bL 32 s:=⟨_,rfl⟩;rw[<-Vm]at hv hwl hwn hne Ty;have Yk:ws[0]=ws.headD []:=by
  clear hv hwl hwn Ty Vm;cases ws with|nil=>simp at hne|cons a r=>rfl
 obtain⟨Y,hY⟩:∃Y,Y=W++g1++g2++[ak.cells [.i (bX false 26),.i (bX false 25)] true true]++g3++g4:=⟨_,rfl⟩;rw[<-hY]at hv ⊢;have Wo:Ext W Y:=by rw[hY];exact Xx
 have oY:cH B.length Y b V:=o.ext Wo;have eB:=he.trans Wo;have qx:=hv.qx (kk:=.i64) hne;have ld0:∀{k:ah},Ext Y k->ao none (cI sv 1 0) (λb=>k[b]?)=some (.str (ws.headD []),.ar):=λ{k} e=>by rw[<-Yk];exact hv.kS (i:=0) hne rfl e
 clear o he;refine Rs (A2 t0 t1) ?_;refine WF.res T.c109 (r109 T) ?_;rintro _ g5 ⟨rfl,hg⟩;have hg:g5=[.bj BV]:=aaN hg;subst hg;have lk:∀{z:AV},iw .s z true (.map Y.length) (.str (ws.headD [])) (λb=>(Y++[ak.bj BV])[b]?)=lC z true ((kV (ws.headD [])).map jt):=B9 (by rw[Zd (Zc _),Z6];rfl);cases hq:kV (ws.headD [])with
 |some q=>
  obtain⟨i,nm,wt⟩:=q;rw[hq]at lk Ty;have Sh:∀{z:AV},_=some (AV.dL [.agg [.bool nm,.i (wt:Nat),.func (.func (qF i)) [] []],.bool true],iI.ar):=@lk;refine Rs (A7 t0 t1 @qx @ld0 @bW @Sh @iG) ?_;refine WF.ce T.c110 (r110 T (oY.rd.ext Xx) w hregs Z (pw.ext (eB.trans Xx)) (hv.ext Xx) hne Om hq) λg6=>?_
  refine Rs t0 ?_;exact(mC.same oY eB Xx Ty).low Wo
 |none=>
  rw[hq]at lk Ty;have Sh:∀{z:AV},_=some (AV.dL [z,.bool false],iI.ar):=@lk;refine Rs (A7 t0 t1 @qx @ld0 @bW @Sh @iG) ?_;clear lk Sh;refine WF.res T.c90 (r90 T) ?_;rintro _ g6 ⟨vf,rfl,hk⟩;obtain⟨Y2,Uf⟩:∃Y2,Y2=Y++[ak.bj BV]++[ak.b [.bool false,.i 0,.nilFunc]]:=⟨_,rfl⟩;rw[<-Uf]at hk ⊢;have UA:Ext Y Y2:=by rw[Uf];exact Xx
  have ld2:∀{k:ah},Ext Y2 k->ao none (cI sv 1 0) (λb=>k[b]?)=some (.str (ws.headD []),.ar):=λ{k} e=>ld0 (UA.trans e)
  have lk:∀{z:AV},iw .s z true (.map Y2.length) (.str (ws.headD [])) (λb=>(Y2++g6)[b]?)=lC z true ((gO (ws.headD [])).map vf):=hk.look;cases hd:gO (ws.headD [])with
  |none=>
   rw[hd]at lk Ty;have Sh:∀{z:AV},_=some (AV.dL [z,.bool false],iI.ar):=@lk;refine Rs (A8 t0 t1 @qx @ld2 @bW @Sh @iG @Zz) ?_;exact(mC.same oY eB (UA.trans Xx) Ty).low Wo
  |some d=>
   rw[hd]at lk Ty;have Sh:∀{z:AV},_=some (AV.dL [vf d,.bool true],iI.ar):=@lk;obtain⟨rs,a,hvf,hr,ha,hab⟩:=(hk.k d).ex;rw[hvf]at Sh;have c1:=lX d;have c2:=lE d;have c3:=hr.one;refine Rs (mN t0 t1 @qx @ld2 @bW @Sh @Zw @c1 @c2 @c3 @ha) ?_;have Ty:An V.bV s=qY V.bV ws:=Ty;rw[SG,Ty];refine WC.F6 (Pz T (eB.trans (UA.trans Xx)) (oY.ext (UA.trans Xx)) w hl gl pw Z (hv.ext (UA.trans Xx)) hwl (Sq t0) (Sq t0) (Sq t0)) ?_;rintro e ts' h' ⟨q1,v,q2,q3⟩;exact⟨q1,v,q2,mC.low q3 (Wo.trans (UA.trans Xx))⟩
end
def V0:HV:=⟨[],[],[],.af,.af,.af⟩
def MC{h}:cH h.length (h++[.b [.af,.af,.af]]) h.length V0:=
 ⟨Zc _,by rw[Zd (Zc _),Z6];rfl,.nil,.nil,.nil,rG.2 ⟨λ_ _=>⟨by simp[sB,V0],by simp[sB,V0],by simp[sB,V0]⟩,λ_ z=>by simp[sB,V0]at z,λ_ z=>by simp[sB,V0]at z⟩,
  λx hx=>(by cases hx),λx hx=>(by cases hx),λx hx=>(by cases hx),λx hx=>(by cases hx)⟩
def MD{b}:∀j,some j∈V0.ex b->j=b:=λj hj=>by
 simp only[HV.ex,V0,sB,ZG,Z0,aay,Zy,reduceCtorEq]at hj;exact hj
def GZ{H ws}(w:kN H):kN (qY H ws).1/\(qY H ws).1.dm.length<=H.dm.length+1:=by
 unfold qY;split
 ·exact⟨w,aby _⟩
 split
 ·exact⟨w,aby _⟩
 split
 ·exact⟨w,aby _⟩
 ·rename_i h;exact⟨w.add (aaP.1 h),by rw[wL];omega⟩
def Kg{H s}(w:kN H):kN (An H s).1/\(An H s).1.dm.length<=H.dm.length+1:=by
 rw[Cw];split
 ·exact⟨w,aby _⟩
 split
 ·exact⟨w,aby _⟩
 split
 ·exact⟨w,aby _⟩
 split
 ·exact⟨w,aby _⟩
 exact GZ w
def sX(x:By×By×Int):List AV:=[.str x.1,.str x.2.1,.i x.2.2]
def mL:iH->List (By×By×Int)->Option iH
 |H,[]=>some H
 |H,x::r=>if(An H x.1).2.1=x.2.1/\(An H x.1).2.2=x.2.2 then mL (An H x.1).1 r else none
section
variable {P:Program}(T:fA P) {h:ah}
include T
def r70:aA P 70 [] h (λv h'=>v=.ptr h.length 0/\h' =h++[.b [.af,.af,.af]]):=by
 refine .of T.mix T.c70 ?_;unfold fn70 gA;exact Wn Tv
def r44{V b}(o:yv h b V)(w:kN V.bV)(hl:V.dm.length<=1000):
  aA P 44 [.ptr b 0] h (λv h'=>∃L':List EV,L'.map EV.ev=V.bV.dm/\dW h' L' v):=by
 refine .kr 11 T.mix T.c44 ?_;intro ts hlen t0;unfold fn44 gA;have lb:=@dG _ _ _ o.hb;refine Rs (A3 t0 @uq @lb) ?_;refine WF.res T.c87 (r87 T ⟨o.ie,o.ae⟩ Om (λx hx=>by
  obtain⟨d,we⟩:=w.ev x.ev (Zu hx);have h3:(bM d).length<=3/\cE d<=3:=by cases d<;>decide
  have:=we.nl;have:=we.vl;exact⟨Om,Om⟩)) ?_
 rintro v g ⟨L',hL,hf,hx⟩;refine Rs t0 ?_;exact⟨L',hL,hf.aW,λx RI=>(hx x RI).ok⟩
end
def HW(d:Kd):(bA d).length<=16:=by cases d<;>decide
def Ct{e d}(we:kj e d):P6 e/\(iQ e).length<=520:=by
 have h3:(bM d).length<=3/\cE d<=3:=by cases d<;>decide
 have h1:=we.nl;have h2:=we.vl;have h4:=we.nu;have dl:∀{y:Int},0<=y->y<=999999999->(jH y).length<=64:=λ{y} h0 h1=>by have:=l9 (k:=9) (u:=y.toNat) Om;rw[kI];omega
 have hb:(iQ e).length<=520:=by
  have hj:=pC (c:=32) (l:=wF e) λx hx=>by
   unfold wF at hx;simp only[Y8,ZG,Z0,aay,ZB]at hx;rcases hx with((rfl|rfl)|hx)|⟨y,hy,rfl⟩
   ·exact Dk
   ·have:=HW d;rw[cA we.kd];omega
   ·have:=vF (we.nm x hx);omega
   ·have:=we.vr y hy;exact dl Om Om
  have hl:(wF e).length<=8:=by
   unfold wF;simp only[YT,YX,Y6,Y7];omega
  unfold iQ;omega
 exact⟨⟨Om,λx hx=>by have:=we.vr x hx;omega,Om,Om,Om⟩,hb⟩
section
variable {P:Program}(T:fA P) {h:ah}
include T
def r45(Z:qq P)(pw:Pw h){V b}(o:yv h b V)(w:kN V.bV)(hl:V.dm.length<=1000):
  aA P 45 [.ptr b 0] h (λv _=>v=.str (vL V.bV.dm)):=by
 refine .kr 12 T.mix T.c45 ?_;intro ts hlen t0;unfold fn45 gA;have lb:=@dG _ _ _ o.hb;refine Rs (A3 t0 @uq @lb) ?_;refine WF.res T.c115 (r115 T o.ie (λx hx=>⟨(o.ae x hx).n.one,(o.ae x hx).v.one⟩) Om (λx=>vu x.ev) (λx hx k e=>by
  obtain⟨d,we⟩:=w.ev x.ev (Zu hx);exact bH.of (a:=[]) (c:=[]) T.c97 (r97 T Z ((o.ae x hx).ext e) (Ct we).1 (pw.ext e)))) ?_
 rintro v g hf;refine Rs t0 ?_;have R7:(V.dm.map λx=>vu x.ev).flatten.length<=V.dm.length*529:=by
  have:∀L:List EV,(∀x∈L,(vu x.ev).length<=529)->(L.map λx=>vu x.ev).flatten.length<=L.length*529:=by
   intro L
   induction L with
   |nil=>intro _;simp
   |cons x r ih=>
    intro hx;have h1:=ih λy hy=>hx y (ZH _ hy)
    have h2:=hx x Si;rw[ZX,Z1,YT,YX,aaj];omega
  refine this _ λx hx=>?_
  obtain⟨d,we⟩:=w.ev x.ev (Zu hx);have:=(Ct we).2;rw[BS T Z];omega
 refine WF.ce T.c114 (Z.join hf.aW ⟨by rw[Ch];omega,by rw[Y7];omega⟩) λg2=>?_
 refine Rs t0 ?_;rw[Ch,vL,HV.bV,aaE];rfl
end
section
variable {P:Program}(T:fA P) {B:ah}
include T
def Py{W V b}(he:Ext B W)(o:cH B.length W b V)(w:kN V.bV)(hl:V.dm.length<=1000)(gl:Gl B)(pw:Pw B)(X:C4 P)(Z:qq P)(s:By)(hs:s.length<=2^36):
  dh P 43 [.ptr b 0,.str s] W (λv k=>mC B W b V (An V.bV s) v k):=by
 obtain⟨g,rfl⟩:=he;exact Rj T o w hl gl pw X Z s hs
omit T in
theorem Dw{h k s es cs}(hs:aK h s es cs)(hk:∀j,sB s=some j->j<h.length->k[j]? =h[j]?):aK k s es cs:=by
 cases hs with
 |nil=>exact .nil
 |mk hb hf ho he=>
  have:=hk _ rfl (YU.1 hb).1;exact .mk (this.trans hb) hf ho he
omit T in
theorem Kz{h s es cs}(hs:aK h s es cs){j}(hj:sB s=some j):j<h.length:=by
 cases hs with
 |nil=>cases hj
 |mk hb _ _ _=>cases hj;exact(YU.1 hb).1
def Ri{g V b}(o:cH B.length (B++g) b V)(w:kN V.bV)(gl:Gl B)(pw:Pw B)(X:C4 P)(Z:qq P){s L}(hs:aK (B++g) s 3 (L.map sX))(hns:∀j,sB s=some j->some j∉V.ex b)
  (hlL:V.dm.length+L.length<=1000) (bV:∀x∈L,x.1.length<=2^36) {H'}(ha:mL V.bV L=some H'):
  dh P 71 [.ptr b 0,s] (B++g) (λv k=>v=.bool true/\∃g' V',k=B++g'/\cH B.length (B++g') b V'/\V'.bV=H'/\kN V'.bV/\V'.dm.length<=1000):=by
 refine .eF 35 T.mix T.c71 ?_;intro ts hlen t0 t1;unfold fn71 gA;refine Rs (A4 t0 t1 @uq hs.aH) ?_;refine WL.inv T.mix (λn ts h'=>∃(k:Nat) (V':HV) (g':ah),k<=L.length/\n=L.length-k/\h' =B++g'/\cH B.length (B++g') b V'/\kN V'.bV/\V'.dm.length<=V.dm.length+k/\mL V'.bV (L.drop k)=some H'/\aK (B++g') s 3 (L.map sX)/\(∀j,sB s=some j->some j∉V'.ex b)/\
   ts.length=35/\slot ts 0=.ptr b 0/\slot ts 11=s/\slot ts 12=.i L.length/\slot ts 13=.i k) L.length
  ⟨0,V,g,Om,rfl,rfl,o,w,Om,ha,hs,hns,Sn,(Sq t0),(Sq t1),(Sq t0),fV⟩ ?_
 clear t0 t1 hlen o w hs hns ha;clear ts;rintro _ ts _ ⟨k,V',g',hk,rfl,rfl,o,w,hVl,ha,hs,hns,hlen,t0,t11,t12,t13⟩;by_cases hlt:k<L.length
 ·have e3:=dM hlt;have e5:=wrapN (n:=k) Om;have ix:=hs.c8 (kk:=.i64) hlt;have ld:∀{k'},Ext (B++g') k'->ao (some 3) (cI s 3 k) (λb=>k'[b]?)=some (.agg (sX L[k]),.ar):=λ{k'} e=>hs.gS hlt e
  obtain⟨⟨a,m,c⟩,hx⟩:∃x,x=L[k]:=⟨_,rfl⟩;have hm:(a,m,c)∈L:=by rw[hx];exact Zb _
  have hd:L.drop k=(a,m,c)::L.drop (k+1):=by rw[hx];simp
  rw[<-hx]at ld;unfold sX at ld;rw[hd,mL]at ha;split at ha
  case isFalse=>cases ha
  case isTrue hc=>
  have hc1:(An V'.bV a).2.1=m:=hc.1;have YN:(An V'.bV a).2.2=c:=hc.2;have hwd:=Kg (s:=a) w;obtain⟨W,hW⟩:∃W,W=B++g'++[ak.b [.str a,.str m,.i c]]:=⟨_,rfl⟩;have eW:Ext (B++g') W:=by rw[hW];exact Xx
  have mW:W[(B++g').length]? =some (.b [.str a,.str m,.i c]):=by rw[hW,Zd (Zc _),Z6];rfl
  have lW:∀{kk:ah}{n':Option Nat}{q:Nat},kk[(B++g').length]? =some (.b [.str a,.str m,.i c])->ao n' (.ptr (B++g').length q) (λz=>kk[z]?)=dC n' q (.b [.str a,.str m,.i c]):=λe=>az e
  refine Rs (A7 t0 t11 t12 t13 e3 ix @ld) ?_;rw[<-hW];have lW1:=λ{n':Option Nat}{q:Nat}=>@lW W n' q mW
  refine Rs (A5 t0 t11 t12 t13 @lW1) ?_;refine WF.gen T.c43 (Py T ((Ext.app _ (Ext.refl _):Ext B (B++g')).trans eW) (o.ext eW) w Om gl pw X Z a (bV _ hm)) ?_;rintro _ _ ⟨g2,V2,rfl,rfl,o2,hV2,hkp,hex⟩;have hWl:W.length=(B++g').length+1:=by rw[hW,YT];rfl
  have m2:(B++g2)[(B++g').length]? =some (.b [.str a,.str m,.i c]):=by
   rw[hkp _ Om (λhj=>by have:=o.Cs hj;omega)];exact mW
  have lW2:=λ{n':Option Nat}{q:Nat}=>@lW (B++g2) n' q m2
  have d1:decide (m≠m)=false:=YW (λz=>z rfl);have d2:decide (c≠c)=false:=YW (λz=>z rfl);rw[hc1,YN];refine Rs (A8 t0 t11 t12 t13 @lW2 @d1 @d2 e5) ?_;have hsW:=hs.ext eW;refine⟨L.length-(k+1),Om,k+1,V2,g2,Om,rfl,rfl,o2,by rw[hV2];exact hwd.1,?_,by rw[hV2];exact ha,Dw hsW λj hj hl=>hkp j hl (hns j hj),λj hj hx=>?_,rfl⟩
  ·have e1:V2.dm.length=V2.bV.dm.length:=by simp[HV.bV]
   have e2:V'.dm.length=V'.bV.dm.length:=by simp[HV.bV]
   have:=hwd.2;rw[<-hV2]at this;omega
  ·rcases hex j hx with hx|hx
   ·exact hns j hj hx
   ·have:=Kz hs hj;omega
 ·have e3:=eC hlt;have e4:k=L.length:=Om
  rw[e4,Z2,mL]at ha;cases ha;refine Rs (A5 t0 t11 t12 t13 e3) ?_;exact⟨g',V',rfl,o,rfl,w,Om⟩
end
def Ji:List (By×By×Int):=[
 ([116,97,112,101,32,97,32,49,32,49,48],[100,111,110,101,32,49],0),
 ([116,97,112,101,32,98,32,53,32,49,48,48],[100,111,110,101,32,50],0),
 ([108,105,110,101,32,108,49,32,53,32,50],[100,111,110,101,32,51],0),
 ([115,104,111,116,32,115,49,32,108,49,32,97,32,54],[100,111,110,101,32,52],0),
 ([115,104,111,116,32,115,50,32,108,49,32,98,32,55],[100,111,110,101,32,53],0),
 ([99,111,112,121,32,97,32,98,32,56],[100,111,110,101,32,54],0),
 ([116,97,112,101,115,32,115,49],[97,32,98],0),
 ([99,111,112,121,32,97,32,98,32,49,50],[],30),
 ([119,97,110,116,32,108,49],[50,32,50,32,111,112,101,110],0),
 ([97,99,99,101,112,116,32,108,49,32,57],[100,111,110,101,32,55],0),
 ([115,104,111,116,32,115,51,32,108,49,32,98,32,57],[],23),
 ([115,111,117,114,99,101,32,109,49,32,108,49,32,57],[100,111,110,101,32,56],0),
 ([109,111,100,117,108,101,32,109,50,32,109,49,32,57,32,50],[100,111,110,101,32,57],0),
 ([109,111,100,117,108,101,32,109,51,32,109,50,32,57,32,51],[100,111,110,101,32,49,48],0),
 ([109,111,100,117,108,101,32,109,52,32,109,49,32,57,32,51],[],2),
 ([109,101,114,103,101,32,109,52,32,109,49,32,109,50,32,57],[],2),
 ([114,117,110,32,106,49,32,109,51,32,49,48,32,51],[100,111,110,101,32,49,49],0),
 ([116,105,108,101,32,106,49,32,49,48,32,50,32,55],[100,111,110,101,32,49,50],0),
 ([116,105,108,101,32,106,49,32,49,48,32,48,32,53],[100,111,110,101,32,49,51],0),
 ([108,101,102,116,32,106,49],[49],0),
 ([102,97,105,108,32,106,49,32,49,49,32,50],[100,111,110,101,32,49,52],0),
 ([108,101,102,116,32,106,49],[49,32,50],0),
 ([112,105,99,116,117,114,101,32,112,49,32,106,49,32,49,49],[],32),
 ([116,105,108,101,32,106,49,32,49,49,32,49,32,54],[100,111,110,101,32,49,53],0),
 ([116,105,108,101,32,106,49,32,49,49,32,50,32,55],[100,111,110,101,32,49,54],0),
 ([112,105,99,116,117,114,101,32,112,49,32,106,49,32,49,50],[100,111,110,101,32,49,55],0),
 ([102,114,111,109,32,112,49],[115,49,32,115,50],0),
 ([108,105,110,101,115,32,109,51],[108,49],0),
 ([117,110,115,97,102,101],[110,111,110,101],0),
 ([114,101,108,101,97,115,101,32,112,49,32,49,50],[100,111,110,101,32,49,56],0),
 ([117,110,100,111],[],21),
 ([114,101,108,101,97,115,101,100],[112,49,32,53,50,57,49,55,52],0)]
def uN:iH:=(mL iH.zero Ji).getD iH.zero
set_option maxRecDepth 100000 in
def Ml:(mL iH.zero Ji).isSome=true:=by decide+kernel
set_option maxRecDepth 100000 in
def IB:uN.dm.length=18:=by decide+kernel
set_option maxRecDepth 100000 in
def CO:vj (uN.dm.take 5) [115,49] 12=(false,0):=by decide+kernel
set_option maxRecDepth 100000 in
def CN:vj uN.dm [115,49] 105=(true,0):=by decide+kernel
set_option maxRecDepth 100000 in
def Ix:qu uN.dm 106=([[115,49],[115,50]],0):=by decide+kernel
set_option maxRecDepth 100000 in
def E0:yT uN.dm [109,51]=([[109,49],[109,50],[109,51]],0):=by decide+kernel
set_option maxRecDepth 100000 in
def IC:Ew [5,6,7]=(529174,0):=by decide+kernel
set_option maxRecDepth 100000 in
def wI:(mR uN.dm [108,49]).1.length=8/\(mR uN.dm [108,49]).2=0:=by decide+kernel
set_option maxRecDepth 100000 in
def IA:(vL uN.dm).length<=100000:=by decide+kernel
set_option maxRecDepth 100000 in
def Iz:(lz (vL uN.dm++[49])).2.2=28/\(lz (vL uN.dm++[49])).1.length=18/\(lz (vL uN.dm++[49])).2.1=(vL uN.dm).length:=by decide+kernel
set_option maxRecDepth 100000 in
def Iy:nE [49,49]=[48,49,51,49,53,56,49]:=by decide+kernel
def zb{h c N}:mJ .MS (.slice h.length 0 1 1) (λb=>(h++[ak.cells [.int .u8 c] true true])[b]?) N=some (.str [UInt8.ofNat c.toNat],.ar):=by
 simp only[mJ,fu,Zk,a8];rfl
def y7{n}(h0:0<=n)(h1:n<10):UInt8.ofNat (IntKind.u8.wrap (IntKind.i64.wrap (48+n))).toNat=UInt8.ofNat (48+n.toNat):=by
 rw[bz Om Om,GY Om Om];congr 1;omega
section
variable {P:Program}(T:fA P)
include T
set_option maxRecDepth 10000 in
def r197:∀{k}{n}{h},0<=n->n<10^(k+1)->k<=15->aA P 197 [.i n] h (λv _=>v=.str (jH n)):=by
 intro k
 induction k with
 |zero=>
  intro n h h0 h1 _;refine .of T.mix T.c197 ?_;unfold fn197 gA;have h10:n<10:=by simpa using h1
  have d0:decide (n<0)=false:=YW Om;exact Qa
 |succ k ih=>
  intro n h h0 h1 hk;refine .of T.mix T.c197 ?_;unfold fn197 gA;have d0:decide (n<0)=false:=YW Om;by_cases h10:n<10
  ·exact Qa
  ·have d1:decide (n<10)=false:=YW h10;have hb:n<=10^17:=by
    have:(10:Int)^(k+1+1)<=10^17:=by
     have:=Nat.pow_le_pow_right (n:=10) De (show k+1+1<=17 by omega)
     exact_mod_cast this
    omega
   have eq:n.tdiv 10=n / 10:=Int.tdiv_eq_ediv_of_nonneg h0;have em:n.tmod 10=n%10:=Int.tmod_eq_emod_of_nonneg h0;have w1:IntKind.i64.wrap (n / 10)=n / 10:=bz Om Om;have bq:eI .quo (.i n) (.i 10)=some (.i (n / 10)):=by rw[EL De,eq,w1]
   have bm:eI .rem (.i n) (.i 10)=some (.i (n%10)):=by rw[oh De,em]
   refine Ws (A4 @d0 @d1 @bq @bm) ?_;refine WF.ce T.c197 (ih Om (by rw[Int.pow_succ]at h1;omega) Om) λg1=>?_
   have hd:=l9 (k:=k) (u:=(n / 10).toNat) (by
    have h2:n / 10<10^(k+1):=by rw[Int.pow_succ]at h1;omega
    have h3:(((n / 10).toNat:Nat):Int)<((10^(k+1):Nat):Int):=by rw[Int.toNat_of_nonneg Om];exact_mod_cast h2
    exact_mod_cast h3)
   have bc:∀{c:UInt8},eI .add (.str (jH (n / 10))) (.str [c])=some (.str (jH (n / 10)++[c])):=jJ (by rw[kI];simp;omega);refine Ws (A5 @bq @bm @uG @zb @bc) ?_;rw[y7 Om Om,kI,kI,Lib.decDigits.eq_def n.toNat,dif_neg Om];congr 3
   ·omega
   ·congr 2;omega
def r108{k n h}(h0:0<=n)(h1:n<10^(k+1))(hk:k<=15):aA P 108 [.i n] h (λv _=>v=.str (jH n)):=by
 refine .of T.mix T.c108 ?_;unfold fn108 gA;refine Wn ?_;refine WF.ce T.c197 (r197 T h0 h1 hk) λg=>?_
 exact Wn Tv
set_option maxRecDepth 10000 in
def r72{h}(s:By)(hs:s.length<=2^40):aA P 72 [.str s] h (λv _=>v=.str (nE s)):=by
 refine .kr 28 T.mix T.c72 ?_;intro ts hlen t0;unfold fn72 gA;refine Rs t0 ?_;refine WL.inv T.mix (λn ts' h'=>∃k:Nat,k<=s.length/\n=s.length-k/\h' =h/\ts'.length=28/\slot ts' 0=.str s/\slot ts' 3=.i (iF (s.take k))/\slot ts' 4=.i k) s.length
  ⟨0,Om,rfl,rfl,(Sq t0),(Sq t0),fV,fV⟩ ?_
 rintro _ ts' hz ⟨k,hk,rfl,hh,S0,u0,u3,u4⟩;rw[hh];clear hh hz;clear hlen t0;have hlen:=S0;clear S0;by_cases hlt:k<s.length
 ·have e3:=dM hlt;have hb:=nF (s.take k);have hcn:=UInt8.toNat_lt s[k];have w1:IntKind.i64.wrap (339*iF (s.take k))=339*iF (s.take k):=bz Om Om;have w2:IntKind.i64.wrap (s[k].toNat:Int)=(s[k].toNat:Int):=bz Om Om;have w3:IntKind.i64.wrap (339*iF (s.take k)+(s[k].toNat:Int))=339*iF (s.take k)+(s[k].toNat:Int):=bz Om Om;have er:=oh (k:=.i64) (a:=339*iF (s.take k)+(s[k].toNat:Int)) (b:=9999749) De;rw[<-uW,<-mQ hlt]at er
  repeat (first|simp (config:={maxSteps:=1000000}) only[aO,aQ,aY,aZ,reduceAdd,reduceMul,reduceLeDiff,reduceEqDiff,ba,hlen,Zi,Zk,u0,u3,u4,e3,jN hlt,w1,w2,w3,er,wrapN (show k+1<2^63 by omega)]|simp (config:={maxSteps:=1000000}) (disch:=first|(simp only[YT,YX,Y6]<;>omega)|rfl|omega|fail) only[dP,aO,aQ,aY,aZ,reduceAdd,reduceMul,reduceLeDiff,reduceEqDiff,ba,hlen,Zi,Zk,u0,u3,u4,e3,jN hlt,w1,w2,w3,er,wrapN (show k+1<2^63 by omega)])
  exact JH
 ·have e3:=eC hlt;have ek:k=s.length:=Om
  rw[ek,ZD]at u3;have hb:=nF s;have hl:=tR s;refine Rs (A4 @u0 @u3 @u4 e3) ?_;refine WF.ce T.c108 (r108 T (k:=7) hb.1 Om Om) λg=>?_
  refine Rs @u0 ?_;generalize hd:jH (iF s)=d at hl;have hT:nE s=List.replicate (7-d.length) 48++d:=by unfold nE;rw[hd]
  refine WL.inv T.mix (λn ts' h'=>∃j:Nat,d.length+j<=7/\n=7-(d.length+j)/\Ext h h'/\ts'.length=28/\slot ts' 5=.str (List.replicate j 48++d)) (7-d.length)
   ⟨0,Om,rfl,Xx,(Sq @u0),fV⟩ ?_
  rintro _ U1 _ ⟨j,hj,rfl,⟨g2,rfl⟩,VG,v5⟩;clear hlen;have hlen:=VG;by_cases h7:d.length+j<7
  ·have e7:decide (((List.replicate j (48:UInt8)++d).length:Int)<7)=true:=Y5 (by rw[YT,Z9];omega);have hbc:([48] :By).length+(List.replicate j (48:UInt8)++d).length<2^62:=by rw[YT,Z9];simp only[YX,Y6];omega
   have bc:=jJ hbc;refine Rs (A3 @v5 e7 @bc) ?_;exact⟨7-(d.length+(j+1)),Om,j+1,Om,rfl,rfl⟩
  ·have e7:decide (((List.replicate j (48:UInt8)++d).length:Int)<7)=false:=YW (by rw[YT,Z9];omega);have ej:j=7-d.length:=Om
   refine Rs (A2 @v5 e7) ?_;rw[hT,ej]
end
def Jh(k:Nat):ai:=(fn15).body.dr k
def EY(k:Nat):ai:=(Jh k).hd
def Mk:fn15=⟨158,0,[(0,none)],.seq (EY 0) (.seq (EY 1) (.seq (EY 2) (Jh 3)))⟩:=rfl
def vV{h:ah}{M:List (By)}:aK (h++[ak.cells (M.map aq).flatten true true]) (.slice h.length 0 (M.map aq).length 1) 1 (M.map aq):=(Fr.push (es:=1) (N:=0) (ZA _) (M.map aq) (by simp[aq])).aW
section
variable {P:Program}(T:fA P) {h:ah}
include T
omit T in
theorem EZ:mL iH.zero Ji=some uN:=by
 have:=Ml;unfold uN;generalize mL iH.zero Ji=o at this ⊢;cases o with
 |none=>cases this
 |some x=>rfl
def Mp{B W V b}(he:Ext B W)(o:cH B.length W b V)(w:kN V.bV)(gl:Gl B)(pw:Pw B)(X:C4 P)(Z:qq P){s L}(hs:aK W s 3 (L.map sX))(hns:∀j,sB s=some j->some j∉V.ex b)
  (hlL:V.dm.length+L.length<=1000) (bV:∀x∈L,x.1.length<=2^36) {H'}(ha:mL V.bV L=some H'):
  dh P 71 [.ptr b 0,s] W (λv k=>v=.bool true/\∃g' V',k=B++g'/\cH B.length (B++g') b V'/\V'.bV=H'/\kN V'.bV/\V'.dm.length<=1000):=by
 obtain⟨g,rfl⟩:=he;exact Ri T o w gl pw X Z hs hns hlL bV ha
def PN(X:C4 P)(Z:qq P){W:ah}(gl:Gl W)(pw:Pw W){V:HV}{b:Nat}(o:yv W b V)(w:kN V.bV)(hl:V.dm.length<=1000)(hV:V.bV=uN){ts:TS}(hlen:ts.length=158)(t1:slot ts 1=.ptr b 0)(he:Ext h W):
  WC P bJ (Jh 3) [] ts W (FQ [(0,none)] λv k=>Ext h k/\v=.bool true):=by
 unfold Jh fn15 gA;simp only[ai.j,ai.s,ai.r,ai.dr,ai.tl,ai.hd];refine Rs t1 ?_;refine WF.res T.c44 (r44 T o w hl) ?_;rintro sv g1 ⟨L,hL,oL⟩;rw[hV]at hL;have Xl:L.length=18:=by have:=Zv List.length hL;rw[Y7,IB]at this;exact this
 have hsh:∀x∈L,x.ev.names.length<=2^30/\x.ev.cB.length<=2^30:=λx hx=>by
  obtain⟨d,we⟩:=w.ev x.ev (by rw[hV,<-hL];exact Zu hx);have h3:(bM d).length<=3/\cE d<=3:=by cases d<;>decide
  have:=we.nl;have:=we.vl;exact⟨Om,Om⟩
 have sh:uJ L:=⟨Om,hsh⟩;have d18:decide ((L.length:Int)≠18)=false:=YW (λz=>z Om);obtain⟨s5,e5,h5⟩:=oL.sl.FP (lo:=none) (hi:=some (.i 5)) (l:=0) (u:=5) (jI (k:=5) Om);have h5':aK (W++g1) s5 5 ((L.take 5).map EV.row):=h5;have o5:dW (W++g1) (L.take 5) s5:=⟨h5',λx hx=>oL.all x (Z8 hx)⟩;have sh5:uJ (L.take 5):=⟨by rw[ZQ];omega,λx hx=>hsh x (Z8 hx)⟩;have m5:(L.take 5).map EV.ev=uN.dm.take 5:=by rw[List.map_take,hL]
 refine Rs (A4 t1 oL.sl.aH @d18 e5) ?_;refine WF.ce T.c16 (r16 T o5 sh5 (gl.ext Xx) [115,49] 12) λg2=>?_
 rw[m5,CO];refine Rs t1 ?_;refine WF.ce T.c16 (r16 T (oL.ext Xx) sh (gl.ext Xx) [115,49] 105) λg3=>?_
 rw[hL,CN];refine Rs t1 ?_;refine WF.res T.c17 (r17 T (oL.ext Xx) sh (gl.ext Xx) 106) ?_;rintro _ g4 ⟨su,rfl,hu⟩;rw[hL,Ix]at hu ⊢;refine Rs t1 ?_;refine WF.res T.c51 (r51 T (oL.ext Xx) sh (gl.ext Xx) [109,51]) ?_;rintro _ g5 ⟨sn,rfl,hn⟩;rw[hL,E0]at hn ⊢;refine Rs t1 ?_;refine WF.ce T.c27 (r27 T (cj [5,6,7]) De) λg6=>?_
 rw[IC];refine Rs t1 ?_;refine WF.res T.c26 (r26 T (oL.ext Xx) sh (gl.ext Xx) [108,49]) ?_;rintro _ g7 ⟨ss,Ls,rfl,os,hLs⟩;rw[hL]at hLs ⊢;have hLsl:Ls.length=8:=by have:=Zv List.length hLs;rw[Y7,wI.1]at this;exact this
 rw[wI.2];refine Rs t1 ?_;refine WF.ce T.c45 (r45 T Z (pw.ext Xx) (o.ext Xx) w hl) λg8=>?_
 rw[hV];have hlg:=IA;have hrc:=Iz;generalize vL uN.dm=lg at hlg hrc ⊢;have bc:=jJ (show lg.length+([49] :By).length<2^62 by simp only[YX,Y6];omega);refine Rs (A2 t1 @bc) ?_;refine WF.res T.c37 (r37 T X Z (pw.ext Xx) (lg++[49]) (by rw[YT];simp only[YX,Y6];omega)) ?_;rintro _ g9 ⟨Lr,sr,hLr,rfl,fr,-⟩;have hLrl:Lr.length=18:=by have:=Zv List.length hLr;rw[Y7,hrc.2.1]at this;exact this
 rw[hrc.1,hrc.2.2];have d8:decide ((Ls.length:Int)=8)=true:=Y5 Om;have d19:decide ((Lr.length:Int)=18)=true:=Y5 Om;have wz:IntKind.i64.wrap ((0:Int)+0)=0:=rfl;have z0:decide ((0:Int)=0)=true:=rfl;refine Rs (A5 t1 @wz @z0 @Zz @Zp) ?_;refine WF.res T.c25 (r25 T (L:=[[115,49],[115,50]]) (M:=[[115,49],[115,50]]) ?hu (vV (M:=[[115,49],[115,50]])) De De) ?_
 case hu=>exact hu.ext Xx
 rintro _ k1 rfl;have q1:decide (([[115,49],[115,50]] :List (By))=[[115,49],[115,50]])=true:=rfl;have q2:decide (([[109,49],[109,50],[109,51]] :List (By))=[[109,49],[109,50],[109,51]])=true:=rfl;rw[q1];refine Rs (A2 t1 @Zp) ?_;refine WF.res T.c25 (r25 T (L:=[[109,49],[109,50],[109,51]]) (M:=[[109,49],[109,50],[109,51]]) ?hn (vV (M:=[[109,49],[109,50],[109,51]])) De De) ?_
 case hn=>exact hn.ext Xx
 rintro _ k2 rfl;rw[q2];have q3:decide ((529174:Int)=529174)=true:=rfl;have q4:decide ((28:Int)=28)=true:=rfl;have q5:decide ((lg.length:Int)=(lg.length:Int))=true:=Y5 rfl;refine Rs (A9 t1 q3 q4 q5 @d8 @d19 os.sl.aH fr.aW.aH @Zp) ?_;refine WF.ce T.c72 (r72 T [49,49] De) λk3=>?_
 have q6:decide (([48,49,51,49,53,56,49] :By)=[48,49,51,49,53,56,49])=true:=Y5 rfl;rw[Iy];refine Rs (A3 t1 q6 @Zp) ?_;exact⟨he.trans Xx,trivial⟩
def r15(X:C4 P)(Z:qq P)(gl:Gl h)(pw:Pw h):aA P 15 [] h (λv _=>v=.bool true):=by
 refine .of T.mix (abn T.c15 (Zv some Mk)) ?_;obtain⟨ts,RD⟩:∃ts,ts=aV 158 []:=⟨_,rfl⟩;have hlen:ts.length=158:=by rw[RD];rfl
 obtain⟨RR,SG⟩:∃RR,RR=Jh 3:=⟨_,rfl⟩;show WC P bJ _ [] (aV 158 []) h (FQ _ _);rw[<-RD,<-SG];clear RD;unfold EY Jh fn15 gA;simp only[ai.j,ai.s,ai.r,ai.dr,ai.tl,ai.hd];refine Rs @hlen ?_;refine WF.res T.c70 (r70 T) ?_;rintro _ g0 ⟨rfl,hg⟩;have hg:g0=[.b [.af,.af,.af]]:=aaN hg;subst hg;refine Rs @hlen ?_;refine WF.gen T.c71 (Mp T (B:=h) (V:=V0) (b:=h.length) (L:=Ji) (H':=uN) Xx (MC.app _) kN.zero gl pw X Z (Fr.push (N:=0) (h:=h++[ak.b [.af,.af,.af]]) (es:=3) (ZA _) (Ji.map sX) (λx hx=>by obtain⟨y,_,rfl⟩:=ZB.1 hx;rfl)).aW (λj hj hx=>by
  have:=MD j hx;have e:(h++[ak.b [.af,.af,.af]]).length=j:=ZZ hj;rw[YT]at e;simp at e;omega) De De EZ) ?_
 rintro _ _ ⟨rfl,g',V',rfl,oV,hV,wV,hVl⟩;refine Rs (A2 @hlen @Zw) ?_;rw[SG];exact PN T X Z (gl.ext ⟨_,rfl⟩) (pw.ext ⟨_,rfl⟩) oV.rd wV hVl hV (Sq @hlen) (Sq @hlen) ⟨_,rfl⟩
end
def xX:Go.Proofs.Tryz.prog.globals.size=9:=by kernel_rfl
def En:Eo Go.Proofs.Tryz.prog 2=20:=by kernel_rfl
open Go.RowKit in
def Ei{h:ah}{n:Int}(h0:-9223372036854775808<=n)(h1:n<=9223372036854775807){mu tl:Bool}(hb:h[2]? =some (.cells (Lib.pow10Tab.map (AV.int .u64)) mu tl)):
  lM Go.Proofs.Tryz.prog 113 [.int .i64 n] h (.str (Lib.itoa n)) h:=by
 intro m w vs hr ha;obtain⟨v,vs1,rfl,hv,hr1⟩:=aR.1 ha;rw[bE]at hr1;subst hr1;rw[VR]at hv;subst hv;obtain⟨e,he,hcb,hd,-,eJ⟩:=hr.ga 2 (by rw[xX];omega);obtain⟨cc,el,fz,hw,⟨hle,Uo,hsz2⟩,RM,-,-⟩:=hr.dR 2 e _ he hb;have htab:Lib.TabIs Go.Proofs.Tryz.prog w "internal/strconv.uint64pow10" .u64 Lib.pow10Tab:=by
  unfold Lib.TabIs World.var?;rw[Go.Proofs.Tryz.yV.m17];show(match w.heap[2]? with|some (.cells cs _ _)=>some cs|_=>none)=_;rw[hcb]at hw;rw[hw];have h20:cc.size=20:=by rw[hsz2,eJ,En]
  refine Zv some (Array.ext_getElem? λi=>?_);by_cases hi:i<20
  ·have hl:i<Lib.pow10Tab.length:=by rw[Lib.pow10Tab_length];exact hi
   obtain⟨_,cv,TN,RG⟩:=RM i (.int .u64 Lib.pow10Tab[i]) (by rw[aaf,YZ hl];rfl);rw[VR]at RG;rw[hd,ZN]at TN;rw[TN,RG,aaq,aaf,YZ hl];rfl
  ·rw[aas Om,aas (by rw[List.size_toArray,Y7,Lib.pow10Tab_length];omega)]
 refine(Go.Proofs.Any.strconv_Itoa Go.Proofs.Tryz.yV n h0 h1 w htab).mono ?_;rintro e' w' ⟨rfl,k,os,rfl⟩;have hh:∀i,i<w.heap.size->(Go.Sort.grow (w.drewN k) os).heap[i]? =w.heap[i]? :=λi hi=>by
  show(w.heap++os)[i]? =_;rw[Array.getElem?_append_left hi]
 have hs:w.heap.size<=(Go.Sort.grow (w.drewN k) os).heap.size:=by
  show w.heap.size<=(w.heap++os).size;simp
 exact⟨_,m,rfl,rfl,⟨hr.cL,λb' e' k' a1 a2=>(hr.dR b' e' k' a1 a2).heap (hh _ (hr.lt b' e' a1)),hr.sep,hr.ga,λb' e' a1=>ZW (hr.lt b' e' a1) hs⟩,
  ⟨λ_ _=>rfl,Zc _,λb' e' a1 a2=>absurd (hr.cL b' e' a2) Om,λ_ _ x=>x,hs,rfl,rfl,rfl,λi hi _=>hh i hi⟩⟩
theorem sN:∀xs:List (By),(xs.map λx=>[AV.str x]).flatten=xs.map AV.str
 |[]=>rfl
 |x::xs=>by rw[ZX,Z1,sN xs];rfl
def aK.inv{h:ah}{b o n e es:Nat}{cs:List (List AV)}(hs:aK h (.slice b o n e) es cs):n=cs.length/\∃c mu tl,h[b]? =some (.cells c mu tl)/\(c.drop o).take (cs.length*es)=cs.flatten:=by
 generalize hx:AV.slice b o n e=x at hs;cases hs with
 |nil=>cases hx
 |mk hb hf ho he=>cases hx;exact⟨rfl,_,_,_,hb,hf⟩
open Go.RowKit in
def Eh{h:ah}{s:AV}{sep:By}{xs:List (By)}(hs:aK h s 1 (xs.map λx=>[AV.str x]))(hl:(Lib.join xs sep).length<=140737488355328/\xs.length<=140737488355328):lM Go.Proofs.Tryz.prog 114 [s,.str sep] h (.str (Lib.join xs sep)) h:=by
 intro m w vs hr hargs;obtain⟨v1,vs1,rfl,Wg,hr1⟩:=aR.1 hargs;obtain⟨v2,vs2,rfl,Vr,SN⟩:=aR.1 hr1;rw[bE]at SN;subst SN;rw[VR]at Vr;subst Vr;have fin:∀e w',(e=.returned (.string ⟨(Lib.join xs sep).toArray⟩)/\Below w.heap.size w w')->Rel Go.Proofs.Tryz.prog m h w (.str (Lib.join xs sep)) h e w':=by
  rintro e w' ⟨rfl,hb⟩;exact⟨_,m,rfl,rfl,⟨hr.cL,λb e k h1 h2=>(hr.dR b e k h1 h2).heap (hb.block _ (hr.lt b e h1)),hr.sep,hr.ga,λb e h1=>ZW (hr.lt b e h1) hb.size⟩,
   ⟨λ_ _=>rfl,Zc _,λb e h1 h2=>absurd (hr.cL b e h2) Om,λ_ _ h=>h,hb.size,hb.os,hb.output,hb.tape,λi hi _=>hb.block i hi⟩⟩
 have zero:xs=[]->∀(a:Option Addr) (c:Nat),Calls Go.Proofs.Tryz.prog 114 #[.slice a 0 c,.string ⟨⟨sep⟩⟩] w (Rel Go.Proofs.Tryz.prog m h w (.str (Lib.join xs sep)) h):=λhx a c=>by
  refine(Go.Proofs.Tryz.strings_Join_none a c ⟨⟨sep⟩⟩ w).mono λe w' ⟨he,hw⟩=>fin e w' ⟨?_,hw▸Below.refl _ _⟩
  rw[he,hx];rfl
 have hlen:=hs.aH (λ_=>none);cases s with
 |af=>
  rw[VR]at Wg;subst Wg;simp only[Go.Abs.jM,Zk,Zy]at hlen;exact zero (Z4.1 hlen.symm) none 0
 |slice b o n es=>
  simp only[Go.Abs.jM,Zk,Zy]at hlen;subst hlen;rw[VR]at Wg;obtain⟨ent,ca,cap,he,rfl,hcap,Sm,eJ⟩:=Wg;by_cases hz:xs.length=0
  ·have SD:=Z4.1 hz;have:=zero SD (some ca) cap;rw[hz];exact this
  ·have hca':=Sm Om;subst hca';generalize Ue:xs.map (λx=>[AV.str x])=cs at hs;have hcl:cs.length=xs.length:=by rw[<-Ue];simp
   obtain⟨_,c,mu,tl,hb,hf⟩:=hs.inv
   ·obtain⟨cc,el,fz,hheap,_,SA,_⟩:=hr.dR b ent _ he hb;have key:=Go.Proofs.Tryz.strings_Join ent.cb (o+ent.d) cap (xs.map λl=>⟨⟨l⟩⟩) ⟨⟨sep⟩⟩ w ?_ (hr.lt b ent he) (by rw[Y7];exact hl.2) (by rw[Y7];omega) ?_
    ·rw[Y7]at key;refine key.mono λe w' ⟨he,hw⟩=>fin e w' ⟨?_,hw⟩
     rw[he,aaE];simp[abj]
    ·intro j x hx;rw[aaf,Zq]at hx;obtain⟨l,RJ,rfl⟩:=hx;have hj:j<xs.length:=(YU.1 RJ).1;have XJ:cs.flatten[j]? =some (.str l):=by
      rw[<-Ue];have:=sN xs;rw[this,aaf,RJ];rfl
     rw[<-hf,List.getElem?_take,Zh Om,abe]at XJ;obtain⟨_,cv,TN,RG⟩:=SA _ _ XJ;rw[VR]at RG;subst RG;simp only[World.cell?,hheap,Option.isSome_none,ZS,Zi];rw[show o+ent.d+j=ent.d+(o+j) by omega];exact TN
    ·rw[aaE]
     simpa [abj]using hl.1
 |_=>cases hs
open Go.RowKit in
def sV{P:Program}{m:bZ}{h:ah}{w:World}(hr:HR P m h w){a:AV}{v:Value}{e:Ending}{w':World}(hv:VR m a v)(he:e=.returned v)(hb:Below w.heap.size w w'):Rel P m h w a h e w':=
 ⟨v,m,he,hv,⟨hr.cL,λb e k h1 h2=>(hr.dR b e k h1 h2).heap (hb.block _ (hr.lt b e h1)),hr.sep,hr.ga,λb e h1=>ZW (hr.lt b e h1) hb.size⟩,
  ⟨λ_ _=>rfl,Zc _,λb e h1 h2=>absurd (hr.cL b e h2) Om,λ_ _ h=>h,hb.size,hb.os,hb.output,hb.tape,λi hi _=>hb.block i hi⟩⟩
theorem qj:∀{s:By}{a:Nat},s.all fp=true->∃n,Lib.decFrom a s=some n/\(n:Int)=s.foldl (λn c=>10*n+((c.toNat:Int)-48)) (a:Int)
 |[],a,_=>⟨a,rfl,rfl⟩
 |c::s,a,h=>by
  simp only[aau,ZE]at h;have hc:=kH.1 h.1;have hd:Lib.digitVal c=some (c.toNat-48):=by unfold Lib.digitVal;rw[Zh hc]
  obtain⟨n,h1,h2⟩:=qj (s:=s) (a:=a*10+(c.toNat-48)) h.2;refine⟨n,by rw[Lib.decFrom,hd];exact h1,?_⟩;rw[h2,aaB];congr 1;omega
def CQ{s:By}(h:s.all fp=true)(hn:s≠[]):Lib.atoi s=some (Cy s):=by
 obtain⟨n,h1,h2⟩:=qj (a:=0) h;cases s with
 |nil=>exact absurd rfl hn
 |cons c r=>
  have hc:=kH.1 (by simp only[aau,ZE]at h;exact h.1);have n1:(c==45)=false:=by
   exact JA
  have n2:(c==43)=false:=by
   exact JA
  rw[Lib.atoi,n1,n2,Za De,Za De,Lib.decNat,Za Si,h1,aaS,h2];rfl
open Go.RowKit in
def E1{h:ah}{s:By}(hd:s.all fp=true)(hn:s≠[])(hl:s.length<=9):lM Go.Proofs.Tryz.prog 254 [.str s] h (.dL [.int .i64 (Cy s),.kC]) h:=by
 intro m w vs hr ha;obtain⟨v,vs1,rfl,hv,hr1⟩:=aR.1 ha;rw[bE]at hr1;subst hr1;rw[VR]at hv;subst hv;refine(Go.Proofs.Any.strconv_Atoi Go.Proofs.Tryz.D8 ⟨⟨s⟩⟩ (Cy s) (by show s.length<=18;omega) (CQ hd hn) w).mono ?_;rintro e' w' ⟨rfl,t,rfl⟩;exact sV hr ⟨_,rfl,aR.2 ⟨_,_,rfl,rfl,aR.2 ⟨_,_,rfl,rfl,rfl⟩⟩⟩ rfl (Lib.bytesWorld_below _ _ _)
open Go.RowKit in
def Hj{h:ah}{n:Nat}(hn:n<=7):lM Go.Proofs.Tryz.prog 252 [.str [48],.int .i64 (n:Nat)] h (.str (List.replicate n 48)) h:=by
 intro m w vs hr ha;obtain⟨v1,vs1,rfl,Wg,hr1⟩:=aR.1 ha;obtain⟨v2,vs2,rfl,Vr,SN⟩:=aR.1 hr1;rw[bE]at SN;subst SN;have Wg:v1=.string ⟨⟨[48]⟩⟩:=Wg;have Vr:v2=.int .i64 (n:Int):=Vr;subst Wg;subst Vr;have hs:(⟨⟨[48]⟩⟩:ByteArray).size=1:=rfl;refine(Go.Proofs.Any.strings_Repeat Go.Proofs.Tryz.D9 Go.Proofs.Tryz.o7 ⟨⟨[48]⟩⟩ n w Om (by rw[hs];omega)).mono ?_;rintro e' w' ⟨rfl,hb⟩;have er:Lib.repeatL [48] n=List.replicate n 48:=by
  have:=Lib.repeatL_replicate 48 1 n;rw[aa6]at this;exact this
 refine sV (v:=.string ⟨(Lib.repeatL [48] n).toArray⟩) hr ?_ rfl hb;show Value.string ⟨(Lib.repeatL [48] n).toArray⟩=.string ⟨⟨List.replicate n 48⟩⟩;rw[er]
def Rg:qq Go.Proofs.Tryz.prog:=by
 refine⟨λh0 h1 w=>?_,λhs hl=>⟨_,[],by rw[Zr];exact Eh hs hl,rfl⟩,λh1 h2 h3=>⟨_,[],by rw[Zr];exact E1 h1 h2 h3,rfl⟩,λh1=>⟨_,[],by rw[Zr];exact Hj h1,rfl⟩⟩;obtain⟨mu,tl,hb⟩:=w;exact⟨_,[],by rw[Zr];exact Ei h0 h1 hb,rfl⟩
def QW:C4 Go.Proofs.Tryz.prog:=
 ⟨run_callFunc_extern Go.Proofs.Tryz.func288 (by kernel_rfl) (by kernel_rfl) (by kernel_rfl) (by kernel_rfl),run_callFunc_extern Go.Proofs.Tryz.func262 (by kernel_rfl) (by kernel_rfl) (by kernel_rfl) (by kernel_rfl)⟩
open Go.ChangeShapes Go.WideShapes Go.Deep
inductive CT where
 |int (k:IntKind)
 |bool
 |str
 |sl (row:List CT)
def lJ(P:Program)(f:TypeId->Option (List CT)):List Field->Nat->Option (List CT)
 |[],_=>some []
 |x::r,o=>
  match f x.type with
  |some a=>
   if x.offset=o/\a.length=P.cellsOf x.type then
    match lJ P f r (o+a.length)with
    |some b=>some (a++b)
    |none=>none
   else none
  |none=>none
def Aq(P:Program):Nat->TypeId->Option (List CT)
 | 0,_=>none
 |n+1,t=>
  match P.underlying t with
  |some (.int k)=>some [.int k]
  |some .bool=>some [.bool]
  |some .string=>some [.str]
  |some (.slice e)=>
   match Aq P n e with
   |some r=>if r.length=P.cellsOf e/\0<r.length then some [.sl r]else none
   |none=>none
  |some (.struct fs)=>
   match lJ P (Aq P n) fs.toList 0 with
   |some r=>if r.length=P.cellsOf t then some r else none
   |none=>none
  |_=>none
mutual
def TY(h:ah):CT->AV->Prop
 |.int k,a=>∃z,a=.int k z/\(Lit.int k z).wf=true
 |.bool,a=>∃b,a=.bool b
 |.str,a=>∃s:By,a=.str s/\s.length<=maxLen
 |.sl r,a=>∃cs:List (List AV),aK h a r.length cs/\cs.length<=maxLen/\∀c∈cs,jd h r c
def jd(h:ah):List CT->List AV->Prop
 |[],l=>l=[]
 |t::ts,l=>∃a l',l=a::l'/\TY h t a/\jd h ts l'
end
mutual
theorem TY.ext{h k}(e:Ext h k):∀{t}{a},TY h t a->TY k t a
 |.int _,a,x=>x
 |.bool,a,x=>x
 |.str,a,x=>x
 |.sl r,a,x=>by
  rw[TY]at x ⊢;obtain⟨cs,h1,h2,h3⟩:=x;exact⟨cs,h1.ext e,h2,λc hc=>jd.ext e (h3 c hc)⟩
theorem jd.ext{h k}(e:Ext h k):∀{ts}{l},jd h ts l->jd k ts l
 |[],l,x=>x
 |t::ts,l,x=>by
  rw[jd]at x ⊢;obtain⟨a,l',h1,h2,h3⟩:=x;exact⟨a,l',h1,TY.ext e h2,jd.ext e h3⟩
end
theorem TY.one{h}:∀{t}{a},TY h t a->a.one=true
 |.int _,a,x=>by rw[TY]at x;obtain⟨z,rfl,_⟩:=x;rfl
 |.bool,a,x=>by rw[TY]at x;obtain⟨z,rfl⟩:=x;rfl
 |.str,a,x=>by rw[TY]at x;obtain⟨z,rfl,_⟩:=x;rfl
 |.sl r,a,x=>by rw[TY]at x;obtain⟨z,h1,_⟩:=x;exact h1.one
theorem jd.one{h}:∀{ts}{l},jd h ts l->l.all AV.one=true
 |[],l,x=>by rw[jd]at x;subst x;rfl
 |t::ts,l,x=>by
  rw[jd]at x;obtain⟨a,l',rfl,h1,h2⟩:=x;rw[aau,h1.one,jd.one h2];rfl
theorem jd.length{h}:∀{ts}{l},jd h ts l->l.length=ts.length
 |[],l,x=>by rw[jd]at x;subst x;rfl
 |t::ts,l,x=>by
  rw[jd]at x;obtain⟨a,l',rfl,h1,h2⟩:=x;rw[YX,YX,jd.length h2]
theorem jd.append{h}:∀{ts us}{l m},jd h ts l->jd h us m->jd h (ts++us) (l++m)
 |[],us,l,m,x,y=>by rw[jd]at x;subst x;exact y
 |t::ts,us,l,m,x,y=>by
  rw[jd]at x;obtain⟨a,l',rfl,h1,h2⟩:=x;show jd h (t:: (ts++us)) (a:: (l'++m));rw[jd];exact⟨a,_,rfl,h1,jd.append h2 y⟩
def gE(E:List sK):bZ:=λb=>E[b]?
def ke(E F:List sK):(gE E).le (gE (E++F)):=λb e hb=>by
 unfold gE at hb ⊢;rw[YY (YU.1 hb).1];exact hb
structure AW(P:Program)(w:World)(E:List sK)(B:ah):Prop where
 len:E.length=B.length
 own:∀(b:Nat) e,E[b]? =some e->e.own=false/\e.cb<w.heap.size
 dR:∀(b:Nat) e k,E[b]? =some e->B[b]? =some k->BR P (gE E) w e k/\(k=.dead\/∃c,k=.cells c false false)
 ga:∀g,g<P.globals.size->∃e,E[g]? =some e/\e.cb=g/\e.d=0/\e.own=false/\e.sz=Eo P g
variable {P:Program}{w:World}{E:List sK}{B:ah}
def AW.hr(a:AW P w E B):HR P (gE E) B w where
 cL:=λb e hb=>by rw[<-a.len];exact(YU.1 hb).1
 dR:=λb e k hb hk=>(a.dR b e k hb hk).1
 sep:=λb1 b2 e1 e2 k1 k2 _ h1 h2 hk1 RF _=>by
  rcases(a.dR b1 e1 k1 h1 hk1).2 with rfl|⟨c1,rfl⟩
  ·cases k2<;>trivial
  ·rcases(a.dR b2 e2 k2 h2 RF).2 with rfl|⟨c2,rfl⟩
   ·trivial
   ·exact⟨rfl,rfl,λx=>by cases x⟩
 ga:=a.ga
 lt:=λb e hb=>(a.own b e hb).2
def AW.push(a:AW P w E B){e k}(ho:e.own=false)(hlt:e.cb<w.heap.size)(hb:BR P (gE E) w e k)(hk:k=.dead\/∃c,k=.cells c false false):AW P w (E++[e]) (B++[k]) where
 len:=by simp[a.len]
 own:=λb e' h=>by
  by_cases hlb:b<E.length
  ·rw[YY hlb]at h;exact a.own b e' h
  ·have:=(YU.1 h).1;simp at this;have:b=E.length:=Om
   subst this;simp at h;subst h;exact⟨ho,hlt⟩
 dR:=λb e' k' h h'=>by
  by_cases hlb:b<E.length
  ·rw[YY hlb]at h;rw[YY (by rw[<-a.len];exact hlb)]at h';exact⟨(a.dR b e' k' h h').1.mono (ke E [e]),(a.dR b e' k' h h').2⟩
  ·have:=(YU.1 h).1;simp at this;have Tf:b=E.length:=Om
   have hbb:b=B.length:=by rw[Tf,a.len]
   rw[Tf]at h;rw[hbb]at h';simp at h h';subst h;subst h';exact⟨hb.mono (ke E [e]),hk⟩
 ga:=λg hg=>by
  obtain⟨e',h1,h2⟩:=a.ga g hg;exact⟨e',ke E [e] g e' h1,h2⟩
def Laid(P:Program)(w:World)(E:List sK)(B:ah)(row:List CT)(cs:List Value):Prop:=
 ∃F C ax,AW P w (E++F) (B++C)/\cK (gE (E++F)) ax cs/\jd (B++C) row ax
def Laid.app{row row2 cs UJ}(h1:Laid P w E B row cs)(h2:∀F C,AW P w (E++F) (B++C)->Laid P w (E++F) (B++C) row2 UJ):Laid P w E B (row++row2) (cs++UJ):=by
 obtain⟨F,C,ax,a1,a2,a3⟩:=h1;obtain⟨F',C',ax',b1,b2,b3⟩:=h2 F C a1;refine⟨F++F',C++C',ax++ax',by rw[<-YV,<-YV];exact b1,?_,?_⟩
 ·rw[<-YV];exact(cK.mono (ke _ _) _ _ a2).append b2
 ·rw[<-YV];exact jd.append (a3.ext ⟨C',rfl⟩) b3
def Cd(a:AW P w E B):Laid P w E B [] []:=⟨[],[],[],by simpa using a,by rw[bE],rfl⟩
def nY(a:AW P w E B){t x v}(hv:VR (gE E) x v)(ht:TY B t x):Laid P w E B [t] [v]:=
 ⟨[],[],[x],by simpa using a,by simpa using aR.2 ⟨v,[],rfl,hv,by rw[bE]⟩,by
  rw[Zr,jd];exact⟨x,[],rfl,ht,rfl⟩⟩
section
variable {H:Type}{enc:TypeId×Value->H}{base:Nat}{held:Bool}
theorem tq{es:Nat}{r:List CT}{a:Addr}{m:Nat}(row:∀i,i<m->∃cs,w.cells? base (a.add (i*es)) es=some cs/\∀E B,AW P w E B->Laid P w E B r cs):∀(k:Nat) {E:List sK}{B:ah},k<=m->AW P w E B->
  ∃(F:List sK) (C:ah) (rows:List (List AV)) (VL:List Value),AW P w (E++F) (B++C)/\rows.length=k/\cK (gE (E++F)) rows.flatten VL/\(∀c∈rows,jd (B++C) r c)/\VL.length=k*es/\∀i,i<k*es->w.cell? (a.add i)=VL[i]?
 | 0,E,B,_,aw=>⟨[],[],[],[],by rw[Zr,Zr];exact aw,rfl,rfl,λc hc=>by(cases hc),by rw[aa2];rfl,λi hi=>by rw[aa2]at hi;exact absurd hi (Nat.not_lt_zero _)⟩
 |k+1,E,B,hkm,aw=>by
  obtain⟨F,C,rows,VL,h1,h2,h3,h4,h5,h6⟩:=tq row k Om aw;obtain⟨cs,Ue,hl⟩:=row k Om;obtain⟨F',C',ax,a1,a2,a3⟩:=hl _ _ h1;obtain⟨_,hlen,SA⟩:=World.cells?_some Ue;refine⟨F++F',C++C',rows++[ax],VL++cs,by rw[<-YV,<-YV];exact a1,by rw[YT,h2];rfl,?_,?_,by rw[YT,h5,hlen,aaj],?_⟩
  ·rw[<-YV,aaH];refine(cK.mono (ke _ _) _ _ h3).append ?_;have:[ax].flatten=ax:=Si
   rw[this];exact a2
  ·intro c Wp;rw[<-YV];rcases Y8.1 Wp with hm|hm
   ·exact(h4 c hm).ext ⟨C',rfl⟩
   ·rw[Zj]at hm;subst hm;exact a3
  ·intro i hi;rw[aaj]at hi;by_cases hlt:i<k*es
   ·rw[h6 i hlt,YY Om]
   ·rw[Zd Om,h5,<-SA (i-k*es) Om,add_add,show k*es+(i-k*es)=i by omega]
theorem qa{f:TypeId->Option (List CT)}{cs:List Value}:∀(l:List Field) (o:Nat) {row:List CT},lJ P f l o=some row->
  (∀x∈l,∀a,f x.type=some a->∀E B,AW P w E B->Laid P w E B a ((cs.drop x.offset).take (P.cellsOf x.type)))->∀E B,AW P w E B->Laid P w E B row ((cs.drop o).take row.length)
 |[],o,row,h,_,E,B,aw=>by
  unfold lJ at h;cases h;rw[Y6,List.take_zero];exact Cd aw
 |x::l,o,row,h,hf,E,B,aw=>by
  unfold lJ at h;split at h
  case h_2=>cases h
  rename_i a ha;split at h
  case isFalse=>cases h
  rename_i hc;split at h
  case h_2=>cases h
  rename_i b hb;cases h;have h1:=hf x (ZU ..) a ha E B aw;rw[hc.1,<-hc.2]at h1;rw[YT,List.take_add,aat];exact h1.app λF C aw'=>qa l _ hb (λy hy=>hf y (ZH _ hy)) _ _ aw'
theorem iX(hz:∃(z:Nat) (cc:Array Value) (el:TypeId) (fz:Nat×Nat),w.heap[z]? =some (Obj.cells cc el fz)):∀(n:Nat) (t:TypeId) (row:List CT),Aq P n t=some row->∀(fuel:Nat) (cs:List Value) (x:DataW H×List MemPlace),
  DataW.trod enc P w base (λ_=>true) held fuel t cs=some x->∀E B,AW P w E B->Laid P w E B row cs
 | 0,t,row,h,_,_,_,_,_,_,_=>by cases h
 |n+1,t,row,h,fuel,cs,x,ht,E,B,aw=>by
  unfold Aq at h;split at h
  ·rename_i k hu;cases h;obtain⟨z,rfl,_,hwf⟩:=DataW.trod_int hu ht;exact nY aw (x:=.int k z) (by rw[VR]) (by rw[TY];exact⟨z,rfl,hwf⟩)
  ·rename_i hu;cases h;obtain⟨b,rfl,_⟩:=DataW.trod_bool hu ht;exact nY aw (x:=.bool b) (by rw[VR]) (by rw[TY];exact⟨b,rfl⟩)
  ·rename_i hu;cases h;obtain⟨s,rfl,_,hs⟩:=DataW.trod_string hu ht;refine nY aw (x:=.str s.data.toList) (by rw[VR]) (by rw[TY];exact⟨_,rfl,by simpa using hs⟩)
  ·rename_i e hu;split at h
   case h_2=>cases h
   rename_i r hr;split at h
   case isFalse=>cases h
   rename_i hc;cases h;obtain⟨Tj,hpos⟩:=hc;rcases open_slice hu ht with⟨rfl,_⟩|⟨a,len,cap,m,n',D,Pl,rfl,hb,hl,hm,WW,_,hx⟩
   ·exact nY aw (x:=.af) (by rw[VR]) (by rw[TY];exact⟨[],.nil,ZA _,λc hc=>by cases hc⟩)
   simp only[Zk]at WW;subst WW;rw[<-Tj]at hx;by_cases hcap:m=0
   ·have RY:len=0:=Om
    subst RY;subst hcap;obtain⟨z,cc,el,fz,Yi⟩:=hz;have h0lt:z<w.heap.size:=(Zl.1 Yi).1;have hbr:BR P (gE E) w ⟨z,0,cc.size,false⟩ (.cells [] false false):=
     ⟨cc,el,fz,Yi,⟨ZA _,ZA _,rfl⟩,λi x hx=>by(rw[List.getElem?_nil]at hx;cases hx),⟨λx=>absurd x aaY,λx=>by rcases x with x|x<;>exact absurd x aaY⟩⟩
    have aw2:=aw.push (e:=⟨z,0,cc.size,false⟩) (k:=.cells [] false false) rfl h0lt hbr (.inr ⟨[],rfl⟩);refine⟨[⟨z,0,cc.size,false⟩],[.cells [] false false],[.slice B.length 0 0 r.length],aw2,?_,?_⟩
    ·refine aR.2 ⟨_,[],rfl,?_,by rw[bE]⟩;rw[VR];exact⟨⟨z,0,cc.size,false⟩,a,0,by unfold gE;rw[<-aw.len];simp,rfl,Zc _,λx=>absurd x Om,by rw[aa2];exact ZA _⟩
    ·rw[jd];refine⟨_,[],rfl,?_,by rw[jd]⟩;rw[TY];refine⟨[],?_,ZA _,λc hc=>by cases hc⟩;exact aK.mk (cs:=[]) (b:=B.length) (o:=0) (c:=[]) (mu:=false) (tl:=false) Si Si Si (λx hx=>by cases hx)
   ·obtain⟨cs0,h00,_⟩:=hx 0 Om;obtain⟨csl,T3,_⟩:=hx (m-1) Om;obtain⟨_,RY,hc0⟩:=World.cells?_some h00;obtain⟨_,hlenl,hcl⟩:=World.cells?_some T3;have SF:=hc0 0 hpos;have hlast:=hcl (r.length-1) Om;rw[add_add]at hlast;rw[add_add,aa2,abt]at SF;have ha0:a.add 0=a:=by unfold Addr.add;simp
    rw[ha0,YZ Om]at SF;unfold World.cell? at SF;split at SF
    case h_2=>cases SF
    rename_i cc el fz Ub;split at SF
    ·cases SF
    rename_i hspot;have VU:a=⟨a.block,a.off,none⟩:=by
     cases a with
     |mk b o s=>cases s with
      |none=>rfl
      |some s=>exact absurd rfl hspot
    have Uw:∀i,a.add i=⟨a.block,a.off+i,none⟩:=λi=>by
     unfold Addr.add;by_cases hi:i=0
     ·subst hi;rw[Zh rfl];exact VU
     ·rw[Za hi]
    have UI:∀i,w.cell? (a.add i)=cc[a.off+i]? :=λi=>by
     rw[Uw];unfold World.cell?;simp only[Ub,Option.isSome_none,ZS,Zi]
    have hmr:(m-1)*r.length+(r.length-1)+1=m*r.length:=by
     obtain⟨m',rfl⟩:∃m',m=m'+1:=⟨m-1,Om⟩;rw[aaj];simp only[Nat.add_sub_cancel];omega
    have eJ:a.off+m*r.length<=cc.size:=by
     rw[UI,YZ Om]at hlast;have:=(Zl.1 hlast).1;omega
    obtain⟨F,C,rows,VL,h1,h2,h3,h4,h5,h6⟩:=tq (P:=P) (w:=w) (base:=base) (es:=r.length) (r:=r) (a:=a) (m:=m)
     (λi hi=>by
      obtain⟨cs',q1,q2⟩:=hx i hi;exact⟨cs',q1,λE B aw=>iX hz n e r hr _ _ _ q2 E B aw⟩) len hl aw
    have R7:rows.flatten.length=len*r.length:=by rw[<-h5,h3.length]
    have hmul:len*r.length<=m*r.length:=Z7 _ hl;have TC:∀c∈rows,c.length=r.length:=λc hc=>(h4 c hc).length
    have hone:∀x∈rows.flatten,x.one=true:=λx hx=>by
     obtain⟨c,hc,Wf⟩:=List.mem_flatten.1 hx;exact ZC.1 (h4 c hc).one x Wf
    have hlt:a.block<w.heap.size:=(Zl.1 Ub).1;have hbr:BR P (gE (E++F)) w ⟨a.block,a.off,cc.size,false⟩ (.cells rows.flatten false false):=
     ⟨cc,el,fz,Ub,⟨by rw[R7];show a.off+_<=_;omega,by rw[R7];show a.off+_<=cc.size;omega,rfl⟩,λi x hx=>by
       refine⟨hone x (ZV hx),?_⟩;obtain⟨v,hv,RG⟩:=h3.get hx;have hi:i<len*r.length:=by rw[<-R7];exact(YU.1 hx).1
       refine⟨v,?_,RG⟩;show cc[a.off+i]? =some v;rw[<-UI,h6 i hi,hv],⟨λx=>absurd x aaY,λx=>by rcases x with x|x<;>exact absurd x aaY⟩⟩
    have aw2:=h1.push (e:=⟨a.block,a.off,cc.size,false⟩) (k:=.cells rows.flatten false false) rfl hlt hbr (.inr ⟨_,rfl⟩);rw[YV,YV]at aw2;refine⟨F++[⟨a.block,a.off,cc.size,false⟩],C++[.cells rows.flatten false false],[.slice (B++C).length 0 len r.length],aw2,?_,?_⟩
    ·refine aR.2 ⟨_,[],rfl,?_,by rw[bE]⟩;rw[VR];refine⟨⟨a.block,a.off,cc.size,false⟩,a,m,?_,rfl,hl,λ_=>?_,?_⟩
     ·unfold gE;rw[<-h1.len,<-YV,Zd (Zc _),Z6];rfl
     ·show a=⟨a.block,0+a.off,none⟩;rw[ZN];exact VU
     ·show 0+a.off+m*r.length<=cc.size;omega
    ·rw[jd];refine⟨_,[],rfl,?_,by rw[jd]⟩;rw[TY];refine⟨rows,?_,Om,λc hc=>?_⟩
     ·rw[<-h2];refine aK.mk (c:=rows.flatten) (mu:=false) (tl:=false) ?_ ?_ ?_ TC
      ·rw[<-YV,Zd (Zc _),Z6];rfl
      ·rw[aao,h2,<-R7,ZD]
      ·rw[h2,R7];omega
     ·rw[<-YV];exact(h4 c hc).ext ⟨_,rfl⟩
  ·rename_i fs hu;split at h
   case h_2=>cases h
   rename_i r hr;split at h
   case isFalse=>cases h
   rename_i hc;cases h;obtain⟨xs,n',rfl,rfl,hlen,hxl,hf⟩:=DataW.trod_struct hu ht;have:=qa (P:=P) (w:=w) (cs:=cs) fs.toList 0 hr (λx hx a ha E B aw=>by
    obtain⟨i,hi⟩:=List.getElem?_of_mem hx;have hi':fs[i]? =some x:=by rw[<-aap];exact hi
    have hlt:i<xs.length:=by rw[hxl];exact(Zl.1 hi').1
    have h1:=hf i x hi';rw[YZ hlt]at h1;exact iX hz n x.type a ha _ _ _ h1 E B aw) E B aw
   rw[aao,hc,<-hlen,ZD]at this;exact this
  ·cases h
inductive AT where
 |one (t:CT)
 |agg (r:List CT)
def Gw(P:Program)(e:TypeId):Option CT:=
 match P.underlying e with
 |some (.int k)=>some (.int k)
 |some .string=>some .str
 |_=>none
def IE(P:Program)(n:Nat)(t:TypeId):Option AT:=
 match P.underlying t with
 |some (.struct _)=>
  match Aq P n t with
  |some r=>some (.agg r)
  |none=>none
 |some (.int k)=>some (.one (.int k))
 |some .bool=>some (.one .bool)
 |some .string=>some (.one .str)
 |some (.slice _)=>
  match Aq P n t with
  |some [c]=>some (.one c)
  |_=>none
 |some (.array m e)=>
  match Gw P e with
  |some c=>if P.cellsOf e=1/\P.cellsOf t=m then some (.agg (List.replicate m c))else none
  |none=>none
 |_=>none
def tY{w r b0}{t e:TypeId}{m v}(ht:P.underlying t=some (.array m e))(h:Value.okWide P w r b0 t v):∃cs,v=.agg cs/\cs.size=P.cellsOf t:=by
 simp only[Value.okWide,ht]at h;obtain⟨cs,h1,h2,_⟩:=h;exact⟨cs,h1,h2⟩
theorem td{M B c}:∀(L:List Value),(∀i (hi:i<L.length),∃a,VR M a L[i]/\TY B c a)->∃l:List AV,cK M l L/\jd B (List.replicate L.length c) l
 |[],_=>⟨[],by rw[bE],by rw[Y6,abp,jd]⟩
 |v::L,h=>by
  obtain⟨a,e,hz⟩:=h 0 Si;obtain⟨l,h1,h2⟩:=td L λi hi=>h (i+1) (by simpa using hi)
  simp only[List.getElem_cons_zero]at e;refine⟨a::l,aR.2 ⟨_,_,rfl,e,h1⟩,?_⟩;rw[YX,aaw,jd];exact⟨_,_,rfl,hz,h2⟩
def tI(P:Program)(n:Nat):List TypeId->Option (List AT)
 |[]=>some []
 |t::ts=>
  match IE P n t,tI P n ts with
  |some a,some l=>some (a::l)
  |_,_=>none
def FG(h:ah):AT->AV->Prop
 |.one t,a=>TY h t a
 |.agg r,a=>∃l,a=.agg l/\jd h r l
theorem FG.ext{h k}(e:Ext h k):∀{t}{a},FG h t a->FG k t a
 |.one _,_,x=>TY.ext e x
 |.agg _,_,⟨l,e1,x⟩=>⟨l,e1,jd.ext e x⟩
def sH(h:ah):List AT->List AV->Prop
 |[],l=>l=[]
 |t::ts,l=>∃a l',l=a::l'/\FG h t a/\sH h ts l'
def Ce(hz:∃(z:Nat) (cc:Array Value) (el:TypeId) (fz:Nat×Nat),w.heap[z]? =some (Obj.cells cc el fz)){n}{t:TypeId}{at'}(h:IE P n t=some at'){v d ps}(ht:DataW.Trod enc P w base (λ_=>true) held t v d ps)
  {r}{b0}(ho:Value.okWide P w r b0 t v) (aw:AW P w E B):∃(F:List sK) (C:ah) (a:AV),AW P w (E++F) (B++C)/\VR (gE (E++F)) a v/\FG (B++C) at' a:=by
 obtain⟨fuel,ht⟩:=ht;unfold IE at h;split at h
 ·rename_i fs hu;split at h
  case h_2=>cases h
  rename_i r hr;cases h;obtain⟨cs,rfl,_⟩:=okWide_struct hu ho;obtain⟨F,C,ax,h1,h2,h3⟩:=iX hz n t r hr fuel _ _ ht E B aw;refine⟨F,C,.agg ax,h1,?_,ax,rfl,h3⟩;rw[VR];exact⟨_,rfl,h2⟩
 ·rename_i k hu;cases h;obtain⟨z,rfl⟩:=okWide_int hu ho;obtain⟨z',e,_,hwf⟩:=DataW.trod_int hu ht;cases e;exact⟨[],[],.int k z,by rw[Zr,Zr];exact aw,by rw[VR],by show TY _ _ _;rw[TY];exact⟨z,rfl,hwf⟩⟩
 ·rename_i hu;cases h;obtain⟨z,rfl⟩:=okWide_bool hu ho;exact⟨[],[],.bool z,by rw[Zr,Zr];exact aw,by rw[VR],by show TY _ _ _;rw[TY];exact⟨z,rfl⟩⟩
 ·rename_i hu;cases h;obtain⟨s,rfl⟩:=okWide_string hu ho;obtain⟨s',e,_,hs⟩:=DataW.trod_string hu ht;cases e;exact⟨[],[],.str s.data.toList,by rw[Zr,Zr];exact aw,by rw[VR],by show TY _ _ _;rw[TY];exact⟨_,rfl,by simpa using hs⟩⟩
 ·rename_i e hu;split at h
  case h_2=>cases h
  rename_i c hc;cases h;obtain⟨a,len,cap,rfl⟩:=okWide_slice hu ho;obtain⟨F,C,ax,h1,h2,h3⟩:=iX hz n t _ hc fuel _ _ ht E B aw;rw[jd]at h3;obtain⟨x,l',rfl,h4,h5⟩:=h3;rw[jd]at h5;subst h5;obtain⟨y,ys,e,h6,_⟩:=aR.1 h2;cases e;exact⟨F,C,x,h1,h6,h4⟩
 ·rename_i m e hu;split at h
  case h_2=>cases h
  rename_i c hk;split at h
  case isFalse=>cases h
  rename_i hc;cases h;obtain⟨cs,rfl,Ue⟩:=tY hu ho;obtain⟨xs,n',rfl,_,hlen,hxl,hf⟩:=DataW.trod_array hu ht;have hcl:(Value.agg cs).cells.toList=cs.toList:=rfl;rw[hcl]at hlen hf;rw[hc.2]at hlen;obtain⟨l,h1,h2⟩:=td (M:=gE E) (B:=B) (c:=c) cs.toList λi hi=>by
   have hi':i<xs.length:=Om
   have h3:=hf i Om;rw[hc.1,aa6,YZ hi',aaI hi,aaR,List.take_zero]at h3;unfold Gw at hk;split at hk
   ·rename_i k hk';cases hk;obtain⟨z,e1,_,hwf⟩:=DataW.trod_int hk' h3;exact⟨.int k z,by rw[(List.cons.inj e1).1,VR],by rw[TY];exact⟨z,rfl,hwf⟩⟩
   ·rename_i hk';cases hk;obtain⟨s',e1,_,hs⟩:=DataW.trod_string hk' h3;exact⟨.str s'.data.toList,by rw[(List.cons.inj e1).1,VR],by rw[TY];exact⟨_,rfl,by simpa using hs⟩⟩
   ·cases hk
  rw[hlen]at h2;exact⟨[],[],.agg l,by rw[Zr,Zr];exact aw,by rw[VR,Zr];exact⟨_,rfl,h1⟩,l,rfl,by rw[Zr];exact h2⟩
 ·cases h
theorem tr(hz:∃(z:Nat) (cc:Array Value) (el:TypeId) (fz:Nat×Nat),w.heap[z]? =some (Obj.cells cc el fz)){n r b0}:∀(tys:List TypeId) {ats},tI P n tys=some ats->∀(vs:List Value) (ds:List (DataW H)) (ps:List MemPlace),
  DataW.TrodAll enc P w base (λ_=>true) held tys vs ds ps->(∀(j:Nat) t v,tys[j]? =some t->vs[j]? =some v->Value.okWide P w r b0 t v)->∀{E}{B},AW P w E B->
  ∃(F:List sK) (C:ah) (ax:List AV),AW P w (E++F) (B++C)/\cK (gE (E++F)) ax vs/\sH (B++C) ats ax
 |[],ats,h,vs,ds,ps,ht,_,E,B,aw=>by
  unfold tI at h;cases h;cases vs with
  |cons v vs=>cases ds<;>exact ht.elim
  |nil=>exact⟨[],[],[],by rw[Zr,Zr];exact aw,by rw[bE],by rw[sH]⟩
 |t::tys,ats,h,vs,ds,ps,ht,ho,E,B,aw=>by
  unfold tI at h;split at h
  case h_2=>cases h
  rename_i a l ha hl;cases h;cases vs with
  |nil=>cases ds<;>exact ht.elim
  |cons v vs=>
   cases ds with
   |nil=>exact ht.elim
   |cons d ds=>
    obtain⟨p,q,h1,h2,_⟩:=ht;obtain⟨F,C,x,a1,a2,a3⟩:=Ce hz ha h1 (ho 0 t v rfl rfl) aw;obtain⟨F',C',xs,b1,b2,b3⟩:=tr hz tys hl vs ds q h2 (λj t v h h'=>ho (j+1) t v h h') a1;refine⟨F++F',C++C',x::xs,by rw[<-YV,<-YV];exact b1,?_,?_⟩
    ·rw[<-YV];exact aR.2 ⟨v,vs,rfl,VR.mono (ke _ _) _ _ a2,b2⟩
    ·rw[<-YV,sH];exact⟨x,xs,rfl,a3.ext ⟨C',rfl⟩,b3⟩
end
open Go.ChangeShapes Go.WideShapes Go.RowKit
def CP(f:DataW Unit->Option (List AV)):List (DataW Unit)->Option (List AV)
 |[]=>some []
 |d::r=>
  match f d,CP f r with
  |some a,some b=>some (a++b)
  |_,_=>none
def zd(P:Program):Nat->TypeId->DataW Unit->Option (List AV)
 | 0,_,_=>none
 |n+1,t,d=>
  match P.underlying t with
  |some (.int k)=>
   match d with
   |.lit (.int _ z)=>some [.int k z]
   |_=>none
  |some .string=>
   match d with
   |.lit (.string s)=>some [.str s]
   |_=>none
  |some (.array m e)=>
   match d with
   |.agg l=>
    match CP (zd P n e) l with
    |some r=>if P.cellsOf t=m*P.cellsOf e then some r else none
    |none=>none
   |_=>none
  |_=>none
section
variable {P:Program}{w:World}{base:Nat}{sp:Nat->Bool}{held:Bool}
theorem ze{f:DataW Unit->Option (List AV)}{m:bZ}{ce:Nat}{cs:List Value}{g:List Value->Option (DataW Unit×List MemPlace)}(hf:∀c d p ax,g c=some (d,p)->f d=some ax->cK m ax c/\ax.all AV.one=true):
  ∀(l:List (DataW Unit×List MemPlace)) (o:Nat) {ax:List AV},CP f (l.map (·.1))=some ax->(∀i (hi:i<l.length),g ((cs.drop ((o+i)*ce)).take ce)=some l[i])->cK m ax ((cs.drop (o*ce)).take (l.length*ce))/\ax.all AV.one=true
 |[],o,ax,h,_=>by
  unfold CP at h;cases h;rw[Y6,aa2,List.take_zero];exact⟨by rw[bE],rfl⟩
 |x::l,o,ax,h,hx=>by
  rw[ZX]at h;unfold CP at h;split at h
  case h_2=>cases h
  rename_i a b ha hb;cases h;have h0:=hx 0 (by rw[YX];omega);rw[abt,List.getElem_cons_zero]at h0;obtain⟨p1,p2⟩:=hf _ x.1 x.2 a h0 ha;obtain⟨q1,q2⟩:=ze hf l (o+1) hb (λi hi=>by
   have:=hx (i+1) (by rw[YX];omega);rw[List.getElem_cons_succ]at this;rw[show o+1+i=o+(i+1) by omega];exact this)
  refine⟨?_,by rw[List.all_append,p2,q2];rfl⟩;rw[YX,aaj,Nat.add_comm (l.length*ce) ce,List.take_add,aat];refine p1.append ?_;rw[<-aaj];exact q1
theorem wJ{m:bZ}:∀(n:Nat) (t:TypeId) (fuel:Nat) (cs:List Value) (d:DataW Unit) (p:List MemPlace) (ax:List AV),
  DataW.trod (λ_=>()) P w base sp held fuel t cs=some (d,p)->zd P n t d=some ax->cK m ax cs/\ax.all AV.one=true
 | 0,_,_,_,_,_,_,_,h=>by cases h
 |n+1,t,fuel,cs,d,p,ax,ht,h=>by
  unfold zd at h;split at h
  ·rename_i k hu;obtain⟨z,rfl,e,_⟩:=DataW.trod_int hu ht;cases e;cases h;exact⟨aR.2 ⟨_,[],rfl,by rw[VR],by rw[bE]⟩,rfl⟩
  ·rename_i hu;obtain⟨s,rfl,e,_⟩:=DataW.trod_string hu ht;cases e;cases h;exact⟨aR.2 ⟨_,[],rfl,rfl,by rw[bE]⟩,rfl⟩
  ·rename_i mm e hu;obtain⟨xs,m',_,ex,hlen,hxl,hf⟩:=DataW.trod_array hu ht;cases ex;simp only at h;split at h
   case h_2=>cases h
   rename_i r hr;split at h
   case isFalse=>cases h
   rename_i hc;cases h;have:=ze (m:=m) (ce:=P.cellsOf e) (cs:=cs) (g:=DataW.trod (λ_=>()) P w base sp held m' e) (λc d p ax h1 h2=>wJ n e m' c d p ax h1 h2) xs 0 hr (λi hi=>by
    have:=hf i Om;rw[YZ hi]at this;rw[ZN];exact this)
   rw[aa2,aao,hxl,<-hc,<-hlen,ZD]at this;exact this
  ·cases h
def Ge(P:Program)(laid:List (String×DataW Unit))(n:Nat)(g:Nat):ak:=
 match laid.find? (λx=>P.globalNamed x.1==some g)with
 |some x=>
  match (P.globals[g]?).map (·.type)with
  |some t=>
   match zd P n t x.2 with
   |some ax=>if ax.length=Eo P g then .cells ax false false else .dead
   |none=>.dead
  |none=>.dead
 |none=>.dead
def tv(P:Program):List sK:=(List.range P.globals.size).map λg=>⟨g,0,Eo P g,false⟩
def v8(P:Program)(laid:List (String×DataW Unit))(n:Nat):ah:=(List.range P.globals.size).map (Ge P laid n)
theorem kE:∀{laid}{ps},DataW.LaidVars P w laid ps->∀x∈laid,∃g t cs fuel p,P.globalNamed x.1=some g/\(P.globals[g]?).map (·.type)=some t/\w.var? P x.1=some cs/\
  DataW.trod (λ_=>()) P w 0 (λ_=>true) false fuel t cs.toList=some (x.2,p)
 |[],_,_,x,hx=>by cases hx
 |(n,d)::r,ps,h,x,hx=>by
  obtain⟨g,t,cs,fuel,p,q,h1,h2,h3,h4,h5,_⟩:=h;rcases ZG.1 hx with rfl|hx
  ·exact⟨g,t,cs,fuel,p,h1,h2,h3,h4⟩
  ·exact kE h5 x hx
def yz{n g cs}(hg:P.globalNamed n=some g)(h:w.var? P n=some cs):∃el fz,w.heap[g]? =some (.cells cs el fz):=by
 unfold World.var? at h;rw[hg]at h;simp only[Option.bind_some]at h;split at h
 ·rename_i c el fz hb;cases h;exact⟨el,fz,hb⟩
 ·cases h
theorem AW.globals{Xr laid}(hl:laidMet P Xr w)(hsub:∀x∈laid,x∈Xr)(n:Nat){nm d}(hlast:(nm,d)∈laid)(hg:P.globalNamed nm=some (P.globals.size-1)):
  AW P w (tv P) (v8 P laid n)/\∃(z:Nat) (cc:Array Value) (el:TypeId) (fz:Nat×Nat),w.heap[z]? =some (Obj.cells cc el fz):=by
 obtain⟨ps,hv,_,_⟩:=hl;obtain⟨g0,t0,cs0,_,_,a1,_,a3,_⟩:=kE hv _ (hsub _ hlast);obtain⟨el0,fz0,SZ⟩:=yz a1 a3;have eJ:P.globals.size-1<w.heap.size:=by
  have e:g0=P.globals.size-1:=ZZ (a1.symm.trans hg);rw[<-e];exact(Zl.1 SZ).1
 have hE:∀(b:Nat) e,(tv P)[b]? =some e->b<P.globals.size/\e=⟨b,0,Eo P b,false⟩:=λb e h=>by
  unfold tv at h;rw[aaf]at h;have hb:b<P.globals.size:=by
   cases hr:(List.range P.globals.size)[b]? with
   |none=>rw[hr]at h;cases h
   |some y=>have:=(YU.1 hr).1;simpa using this
  rw[List.getElem?_range hb]at h;exact⟨hb,(ZZ h).symm⟩
 refine⟨⟨by simp[tv,v8],λb e h=>?_,λb e k h h'=>?_,λg hg=>⟨⟨g,0,Eo P g,false⟩,?_,rfl,rfl,rfl,rfl⟩⟩,⟨g0,cs0,el0,fz0,SZ⟩⟩
 ·obtain⟨hb,rfl⟩:=hE b e h;exact⟨rfl,by show b<_;omega⟩
 ·obtain⟨hb,rfl⟩:=hE b e h;unfold v8 at h';rw[aaf,List.getElem?_range hb]at h';have h':=(ZZ h').symm;subst h';unfold Ge;split
  case h_2=>exact⟨trivial,.inl rfl⟩
  rename_i x hx;split
  case h_2=>exact⟨trivial,.inl rfl⟩
  rename_i t ht;split
  case h_2=>exact⟨trivial,.inl rfl⟩
  rename_i ax has;split
  case isFalse=>exact⟨trivial,.inl rfl⟩
  rename_i hlen;refine⟨?_,.inr ⟨ax,rfl⟩⟩;obtain⟨g,t',cs,fuel,p,b1,b2,b3,b4⟩:=kE hv x (hsub _ (List.mem_of_find?_eq_some hx));have hgb:P.globalNamed x.1=some b:=by have:=abu hx;simpa using this
  have e1:g=b:=ZZ (b1.symm.trans hgb);subst e1;have e2:t' =t:=ZZ (b2.symm.trans ht);subst e2;obtain⟨el,fz,Ub⟩:=yz b1 b3;obtain⟨c1,c2⟩:=wJ (m:=gE (tv P)) n t' fuel _ _ _ _ b4 has;have hcl:cs.size=ax.length:=by have:=c1.length;simpa using this
  refine⟨cs,el,fz,Ub,⟨by show 0+_<=_;omega,by show 0+_<=Eo P g;omega,by show cs.size=Eo P g;omega⟩,λi x hx=>?_,⟨λx=>absurd x aaY,λx=>by rcases x with x|x<;>exact absurd x aaY⟩⟩;refine⟨ZC.1 c2 x (ZV hx),?_⟩;obtain⟨v,Wg,Vr⟩:=c1.get hx;refine⟨v,?_,Vr⟩;show cs[0+i]? =some v;rw[ZN,<-aap];exact Wg
 ·unfold tv;rw[aaf,List.getElem?_range hg];rfl
end
section
variable {P:Program}{W W':World}{E:List sK}{B h':ah}{m':bZ}
def AW.below(aw:AW P W E B)(g:Grow (gE E) B W m' h' W'):Below W.heap.size W W':=
 ⟨g.os,g.tape,g.out,g.size,λk hk=>g.frame k hk λb e hb ho=>by rw[(aw.own b e hb).1]at ho;cases ho⟩
def yn(b:Below W.heap.size W W')(may:MemPlace->Prop):W.keptBut W' may:=by
 refine⟨b.os,b.output,λi hi=>?_⟩;rw[b.block i hi];split
 ·rename_i h1 h2;rw[h1]at h2;simp only[Zy,Obj.cells.injEq]at h2;obtain⟨rfl,rfl,rfl⟩:=h2;exact⟨rfl,rfl,rfl,λ_ _=>rfl⟩
 ·rename_i h1 h2;rw[h1]at h2;simp only[Zy,Obj.map.injEq]at h2;obtain⟨rfl,rfl⟩:=h2;exact .inr ⟨rfl,rfl⟩
 ·rfl
variable {H:Type}{enc:TypeId×Value->H}
theorem mE(hlo:laidOutB P=true)(hb:Below W.heap.size W W'){sp}:∀{tys}{vs}{ds}{ps},(∀t∈tys,P.readableRec t=true/\t<P.types.size)->
  DataW.TrodAll enc P W 0 (λ_=>true) true tys vs ds ps->(∀p∈ps,p.block<W.heap.size)->(∀p∈ps,sp p.block=true)->DataW.TrodAll enc P W' 0 sp true tys vs ds ps
 |[],[],[],ps,_,h,_,_=>h
 |[],[],_::_,_,_,h,_,_=>h.elim
 |[],_::_,_,_,_,h,_,_=>h.elim
 |_::_,[],_,_,_,h,_,_=>h.elim
 |_::_,_::_,[],_,_,h,_,_=>h.elim
 |t::tys,v::vs,d::ds,ps,hr,h,hl,hs=>by
  obtain⟨p,q,h1,h2,rfl⟩:=h;exact⟨p,q,WideElems.Trod_stays hlo (hr t (ZU ..)).1 (hr t (ZU ..)).2 h1 (λx hx=>hb.same (hl x (List.mem_append_left _ hx))) (λx hx=>hs x (List.mem_append_left _ hx)),
   mE hlo hb (λt ht=>hr t (ZH _ ht)) h2 (λx hx=>hl x (List.mem_append_right _ hx)) (λx hx=>hs x (List.mem_append_right _ hx)),rfl⟩
def zM{f:Func}{s:ChangeSpec}{apart fresh handsOn again:Bool}{args:Array Value}{ds gs:List (DataW H)}{before:List MemPlace}{tb:TypeId}
  (hlo:laidOutB P=true) (hpar:∀t∈f.params.toList,P.readableRec t=true/\t<P.types.size) (hrt:f.resultTypes=#[tb]) (htb:P.underlying tb=some .bool) (hvars:s.vars=[])
  (hfn:(s.fn H (ds++gs))={results:=[.lit (.bool true)],args:=ds}) (hW:DataW.Whole enc P f.params.toList s.vars apart W args.toList ds gs before) (hb:Below W.heap.size W W'):
  s.post enc P f apart fresh handsOn again W args (.bool true) W':=by
 have hlt:=hW.lt;have hW':=hW;obtain⟨p,q,hA,hV,rfl,hz,hn⟩:=hW';rw[hvars]at hV;obtain⟨rfl,rfl⟩:=trodVars_none hV;rw[Zr]at hlt;have hres:∀(b:Nat) (sp:Nat->Bool) (hd:Bool),DataW.TrodAll enc P W' b sp hd f.resultTypes.toList ((Value.bool true).resultList f.resultTypes.size) (s.fn H (ds++[])).results []:=λb sp hd=>by
  rw[hfn,hrt];exact trodAll_mk1 (shut_bool htb _)
 have hargs:∀sp:Nat->Bool,(∀x∈p,sp x.block=true)->DataW.TrodAll enc P W' 0 sp true f.params.toList args.toList (s.fn H (ds++[])).args p:=λsp hs=>by
  rw[hfn];exact mE hlo hb hpar hA hlt hs
 have SE:∀sp:Nat->Bool,DataW.TrodVars enc P W' sp s.vars (s.fn H (ds++[])).vars []:=λsp=>by
  rw[hfn,hvars];rfl
 refine⟨ds,[],p++[],[],p,[],hW,hres _ _ _,hargs _ (λx hx=>by simpa using hlt x hx),SE _,yn hb _,λ_=>?_⟩;refine⟨?_,_,_,([]++p)++[],⟨[]++p,[],trodAll_append (hargs _ (λ_ _=>rfl)) (hres _ _ _),SE _,rfl,?_,?_⟩,?_⟩
 ·exact ok_one hrt rfl (okWide_bool_mk htb _)
 ·intro b off hp;have hp:MemPlace.cell b off∈p:=by simpa using hp
  have:=hz b off (by simpa using hp);unfold World.frozen? at this ⊢;rw[hb.block b (hlt _ hp)];exact this
 ·intro ha;have:=hn ha
  simpa using this
 ·intro x hx _
  simpa using hx
def BK{f:Func}{fid:FuncId}{s:ChangeSpec}{apart fresh handsOn again:Bool}{args:Array Value}{ds gs:List (DataW H)}{before:List MemPlace}{tb:TypeId}{n:Nat}{ats:List AT}{r:Reach}{b0:Nat}
  (hlo:laidOutB P=true) (hpar:∀t∈f.params.toList,P.readableRec t=true/\t<P.types.size) (hrt:f.resultTypes=#[tb]) (htb:P.underlying tb=some .bool) (hvars:s.vars=[])
  (hfn:(s.fn H (ds++gs))={results:=[.lit (.bool true)],args:=ds}) (hats:tI P n f.params.toList=some ats)
  (hval:∀(j:Nat) t v,f.params[j]? =some t->args[j]? =some v->Value.okWide P W r b0 t v)
  (hW:DataW.Whole enc P f.params.toList s.vars apart W args.toList ds gs before) (aw:AW P W E B) (hz:∃(z:Nat) (cc:Array Value) (el:TypeId) (fz:Nat×Nat),W.heap[z]? =some (Obj.cells cc el fz))
  (call:∀k ax,Ext B k->sH k ats ax->aA P fid ax k λv _=>v=.bool true):
  Calls P fid args W λe W'=>∃v,e=.returned v/\s.post enc P f apart fresh handsOn again W args v W':=by
 obtain⟨p,q,hA,_⟩:=id hW;obtain⟨F,C,ax,h1,h2,h3⟩:=tr hz f.params.toList hats args.toList ds p hA (λj t v h h'=>hval j t v (by rw[<-aap];exact h) (by rw[<-aap];exact h')) aw;obtain⟨v,g,hs,rfl⟩:=call (B++C) ax ⟨C,rfl⟩ h3;refine(hs (gE (E++F)) W args.toList h1.hr h2).mono λe W' ⟨cv,m',he,hv,_,hg⟩=>?_
 rw[VR]at hv;subst hv;exact⟨_,he,zM hlo hpar hrt htb hvars hfn hW (h1.below hg)⟩
end
end Go.Abs
namespace Go.Proofs.YtgplmdgpmbegiaaGreatDoor
open Go.Abs
noncomputable def wa:ah:=v8 Tryz.prog Rows.houseSafeRow.laid 6
def Er:wa[0]? =some (.cells QN false false):=by kernel_rfl
def Ep:wa[2]? =some (.cells (Lib.pow10Tab.map (AV.int .u64)) false false):=by kernel_rfl
def QQ{k:ah}(e:Ext wa k):Gl k:=⟨_,_,e.some Er⟩
def Rf{k:ah}(e:Ext wa k):Pw k:=⟨_,_,e.some Ep⟩
end Go.Proofs.YtgplmdgpmbegiaaGreatDoor
namespace Go.Proofs.YtgplmdgpmbegiaaGreatDoor
open Go.ChangeShapes Go.WideShapes Go.RowKit Go.Abs
def gg{a b:Bool}(h:a=true)(h':b=true):(a&&b)=true:=by rw[h,h'];rfl
def own:ownKnob Tryz.prog.godebug=none:=by kernel_rfl
def laidOut:laidOutB Tryz.prog=true:=by kernel_rfl
def Dz:mapsRowed Tryz.prog=true:=by kernel_rfl
def Bx:(Tryz.prog.stops==[])=true:=by kernel_rfl
def BB:(Tryz.prog.stopKnobs==[])=true:=by kernel_rfl
def BC:Tryz.prog.stopsHeard=true:=by kernel_rfl
def BD:Tryz.prog.mayEnter=true:=by kernel_rfl
def BA:(Rows.houseSafeRow.lifted==Tryz.prog.liftsFinal)=true:=by kernel_rfl
def DA:(Tryz.prog.make==some Rows.houseSafeRow.make)=true:=by kernel_rfl
def DD:(Rows.houseSafeRow.plainKeys==Tryz.prog.plainKeys)=true:=by kernel_rfl
def DB:Tryz.prog.mainIs=some (true, "99e684478f8cae51b056da3a355f6848a653f6e5f09f29bc4422acb306b2dd43".toList):=by kernel_rfl
def Bz:true=Tryz.prog.looks []:=by kernel_rfl
def zB(os:Os)(args:Array Value):((World.laidAll Tryz.prog os Rows.houseSafeRow.laid).forCall (λ_ _=>0) ⟨#[],args,[]⟩).Shaped Tryz.prog:=World.shaped_of_ZipB (by kernel_rfl) (by kernel_rfl)
def DC(os:Os)(args:Array Value):laidMetH Tryz.prog Rows.houseSafeRow.laid ((World.laidAll Tryz.prog os Rows.houseSafeRow.laid).forCall (λ_ _=>0) ⟨#[],args,[]⟩).memory:=by
 rw[MakeChecks.laidMetH_plain _ _ _ (by kernel_rfl)];exact laidMet_laidAll _ (by kernel_rfl) (by kernel_rfl)
end Go.Proofs.YtgplmdgpmbegiaaGreatDoor
namespace Go.Abs
def WR.BX{P:Program}{ro:Option Nat->Prop}{ks:List Kt}{ts:TS}{Q:Ex->TS->ah->Prop}{α:Type}{row:α->List AV}{L:List α}{B Y:ah}{s v:AV}{es i off:Nat}{x':α}{d:Option Nat}{l:List bK}
  (hs:Fr B.length Y s es (L.map row)) (he:Ext B Y) (hi:i<L.length) (ho:off<es) (hv:v.one=true) (hx:row x' =(row L[i]).set off v)
  (K:∀W5:ah,Ext B W5->W5.length=Y.length->Fr B.length W5 s es ((L.set i x').map row)->(∀b,sB s≠some b->W5[b]? =Y[b]?)->WP P ro l ks (put ts d ay) W5 Q):
  WR P ro (aT 1 (lH s es i off) v (λb=>Y[b]?)) false d l ks ts Y Q:=by
 obtain⟨g,rfl⟩:=he;refine WR.vw (h0:=B) hs hi ho hv hx ?_;intro g' RJ hff hkp;exact K _ ⟨_,rfl⟩ (by simp[RJ]) hff λb hb=>hkp b λb0 o n e he z=>hb (by rw[he,z];rfl)
set_option maxRecDepth 10000
attribute [local irreducible] WP WC WE WB WR WF WL WG fR WM
section
variable {P:Program}(T:fA P) {B X W:ah}{ts:TS}{V:RV}{x:EV}
include T
def zI(w:ee V.an)(ox:bh B x)(we:kj x.ev .accept)(nk:sI V.an x.ev .accept)(s:cG B X x V W V)(hlen:ts.length=250)(t2:slot ts 2=.ptr X.length 0)(t3:slot ts 3=.ptr (X.length+1) 0)(t4:slot ts 4=.ptr (X.length+2) 0):
  WC P bJ zJ [] ts W (FQ [(4,some (some 7)),(5,none)] (rY B X V (bD V.an x.ev .accept) (du V.an x.ev .accept))):=by
 have ow:=ox.ext s.ex;have oV:=s.bk.o.ok;have RK:x.ev.kind=bA .accept:=cA we.kd;obtain⟨lr,le,sb,gm⟩:=cG.fa s;obtain⟨i0,d0⟩:=bN ow we 0 0 rfl De;obtain⟨j0,f0,q0⟩:=cR ow we 0 0 rfl De;unfold zJ fn225;simp only[ai.tl];have k0:aP x.ev 0∈gJ V.an:=nk.kn 0 0 rfl;have Vy:x.ev.names=[aP x.ev 0]:=by
  have h1:=we.nl;obtain⟨n,hn⟩:∃n,x.ev.names=[n]:=List.length_eq_one_iff.1 h1;rw[aP,hn];rfl
 have hlt:bp (gJ V.an) (aP x.ev 0)<V.lines.length:=by have:=cY k0;simpa [gJ,RV.an]using this
 have ei:de (λy:gZ=>decide (y.name=aP x.ev 0)) V.lines=(bp (gJ V.an) (aP x.ev 0):Int):=fo (f:=gZ.name) k0;have sp:dN V.an (aP x.ev 0)=V.lines[bp (gJ V.an) (aP x.ev 0)]:=dq k0;obtain⟨p,hp⟩:∃p,p=bp (gJ V.an) (aP x.ev 0):=⟨_,rfl⟩;rw[<-hp]at ei;have hlt:p<V.lines.length:=by rw[hp];exact hlt
 have sp:dN V.an (aP x.ev 0)=V.lines[p]:=by rw[sp];congr 1;exact hp.symm
 refine pa (Jo @t2 @t3 @t4 @le @lr @bC @aN @bd @aG @RK @gP @Zx @Zp @j0 @f0 @i0 @d0) ?_;refine WF.ce T.c28 (r28 T (oV.ext Xx) w.len _) λg1=>?_
 rw[ei];obtain⟨W2,Se⟩:∃Z,Z=W++g1:=⟨_,rfl⟩;rw[<-Se];have R1:cG B X x V W2 V:=by rw[Se];exact fh.grow s ⟨g1,rfl⟩
 have ow:=ox.ext R1.ex;have oV:=R1.bk.o.ok;obtain⟨lr,le,sb,gm⟩:=cG.fa R1;have on:=ow.n;rw[Vy]at on;have on1:=ow.n.one;refine Rs (A7 t2 t3 t4 @le @lr @aG @aN) ?_;refine WF.res T.c127 (r127 T (oV.ext Xx) w.len on Si) ?_;rintro ns g2 hns;obtain⟨W3,R0⟩:∃Z,Z=W2++g2:=⟨_,rfl⟩;rw[<-R0];have R8:cG B X x V W3 V:=by rw[R0];exact fh.grow R1 ⟨g2,rfl⟩
 have ow:=ox.ext R8.ex;have oV:=R8.bk.o.ok;obtain⟨lr,le,sb,gm⟩:=cG.fa R8;rw[<-R0]at hns;obtain⟨S,hS⟩:∃S,S=zO V.an (aP x.ev 0):=⟨_,rfl⟩;have hfS:(V.an.aj.filter λy=>decide (y.line∈[aP x.ev 0]))=S:=by
  rw[hS,zO];refine List.filter_congr λy _=>?_
  simp
 rw[hfS]at hns;have hSm:∀y∈S,y∈V.an.aj:=λy hy=>by rw[hS,zO]at hy;exact(aag.1 hy).1
 have hSl:S.length<=64:=by
  have h1:S.length<=V.an.aj.length:=by rw[hS,zO];exact ZM _ _
  have:=w.l2;omega
 rw[aaE]at hns;have ix:bf 3 V.s0 (.i (p:Int))=some (cI V.s0 3 p,.ar):=oV.i0.c8 hlt;have l2:∀{k:ah},Ext W3 k->ao none (lH V.s0 3 p 2) (λb=>k[b]?)=some (.bool (dN V.an (aP x.ev 0)).acc,.ar):=λ{k} e=>by rw[sp];exact oV.i0.p6 hlt rfl e
 have l1:∀{k:ah},Ext W3 k->ao none (lH V.s0 3 p 1) (λb=>k[b]?)=some (.i (dN V.an (aP x.ev 0)).want,.ar):=λ{k} e=>by rw[sp];exact oV.i0.p6 hlt rfl e
 cases h1:(dN V.an (aP x.ev 0)).acc with
 |true=>
  rw[h1]at l2;refine Rs (o8 t2 t3 t4 ix @l2 @lr @aG @eP @sb @gm) ?_;rw[bD,Zh h1];exact Dj
 |false=>
 rw[h1]at l2;by_cases h2:(S.length:Int)<(dN V.an (aP x.ev 0)).want
 case pos=>
  have e2:decide ((S.length:Int)<(dN V.an (aP x.ev 0)).want)=true:=Y5 h2;refine Rs (FK t2 t3 t4 ix @l2 @l1 hns.aH @lr @aG @eP e2 @sb @gm) ?_;rw[bD,Za (by rw[h1];decide),Zh (by rw[<-hS];exact h2)];exact Dj
 have e2:decide ((S.length:Int)<(dN V.an (aP x.ev 0)).want)=false:=YW h2;refine Rs (mN t2 t3 t4 ix @l2 @l1 hns.aH @lr @aG @eP e2) ?_;refine WL.inv T.mix (λm ts h'=>∃(k:Nat) (g:ah),k<=S.length/\m=S.length-k/\h' =W3++g/\(∀y∈S.take k,iJ V.an y (bF x.ev 0)=true)/\ts.length=250/\slot ts 2=.ptr X.length 0/\slot ts 4=.ptr (X.length+2) 0/\slot ts 6=.i (bF x.ev 0)/\slot ts 9=.i (p:Int)/\slot ts 10=ns/\slot ts 11=.i k) S.length
  ⟨0,[],Om,rfl,by rw[Zr],(λy hy=>by cases hy),Sn,(Sq t2),(Sq t4),Sw,Sw,Sw,fV⟩ ?_
 clear t2 t3 t4 hlen;rintro _ ts _ ⟨k,g,hk,rfl,rfl,hsf,hlen,t2,t4,t6,t9,t10,t11⟩;obtain⟨W4,SB⟩:∃Z,Z=W3++g:=⟨_,rfl⟩;rw[<-SB];have Tt:cG B X x V W4 V:=by rw[SB];exact fh.grow R8 ⟨g,rfl⟩
 have ow:=ox.ext Tt.ex;have oV:=Tt.bk.o.ok;obtain⟨lr,le,sb,gm⟩:=cG.fa Tt;have e34:Ext W3 W4:=⟨g,SB⟩;have hns:=hns.ext e34;by_cases SQ:k<S.length
 ·have e3:decide ((k:Int)<S.length)=true:=Y5 Om;have e5:=wrapN (n:=k) Om;have iy:=hns.c8 (kk:=.i64) SQ;obtain⟨y,hy⟩:∃y,y=S[k]:=⟨_,rfl⟩;have SI:y∈V.an.aj:=hSm y (by rw[hy];exact Zb _);have lf:∀{kk:ah},Ext W4 kk->ao none (cI ns 1 k) (λb=>kk[b]?)=some (.str y.name,.ar):=λ{kk} e=>hns.kS SQ (by rw[<-hy];rfl) e
  have Un:y.name∈mT V.an:=Zu SI;have hps:=cY Un;have T2:bp (mT V.an) y.name<V.aj.length:=by simpa [mT,RV.an]using hps
  have iz:bf 3 V.s2 (.i ((bp (mT V.an) y.name:Nat):Int))=some (cI V.s2 3 (bp (mT V.an) y.name),.ar):=oV.i2.c8 T2;obtain⟨u,hu⟩:∃u,u=V.aj[bp (mT V.an) y.name]:=⟨_,rfl⟩;have hum:u∈V.aj:=by rw[hu];exact Zb _
  have huy:u.1=y:=by
   have a1:qU V.an y.name=y:=uh w.n2.nd SI;rw[qU,dq (f:=jR.name) (l:=V.an.aj) (d:=DZ) Un]at a1;rw[<-a1,hu];exact z127
  have ly:∀{kk:ah},Ext W4 kk->ao (some 3) (cI V.s2 3 (bp (mT V.an) y.name)) (λb=>kk[b]?)=some (.agg (aU u),.ar):=λ{kk} e=>by rw[hu];exact oV.i2.gS T2 e
  have ou:=oV.e2 u hum;have hul:=(w.xZ.sh u hum);refine Rs (FK t2 t4 t6 t9 t10 t11 hns.aH e3 @lr @eo @aG @iy @lf) ?_;refine WF.ce T.c22 (r22 T (oV.ext Xx) w.len _) λg3=>?_
  have ej:de (λy':jR×AV=>decide (y'.1.name=y.name)) V.aj=(bp (mT V.an) y.name:Int):=by
   rw[j5];exact fo (f:=λy:jR×AV=>y.1.name) (by rw[<-j5];exact Un)
  rw[ej];refine Rs (A8 t2 t4 t6 t9 t10 t11 @iz @ly) ?_;refine WF.ce T.c23 (r23 T (oV.ext Xx) w.len (ou.ext Xx) hul.2 hul.1 _) λg4=>?_
  rw[huy];cases h4:iJ V.an y (bF x.ev 0)with
  |false=>
   refine Rs (mN t2 t4 t6 t9 t10 t11 @Zz @lr @aG @sb @gm) ?_;rw[bD,Za (by rw[h1];decide),Za (by rw[<-hS];exact h2),Zh (by rw[<-hS];exact aaD.2 ⟨y,by rw[hy];exact Zb _,by rw[h4];rfl⟩)];exact cG.fin (fh.grow Tt (by rw[YV];exact⟨_,rfl⟩)) (λz=>absurd z De)
  |true=>
   refine Rs (A8 t2 t4 t6 t9 t10 t11 @Zw e5) ?_;refine⟨_,Om,k+1,g++g3++g4,Om,rfl,by rw[SB];simp only[YV],?_,rfl⟩;intro y' hy';exact Qn
 ·have e3:decide ((k:Int)<S.length)=false:=YW Om;have e4:k=S.length:=Om
  rw[e4,ZD]at hsf;have Ta:bD V.an x.ev .accept=0:=by
   rw[bD,Za (by rw[h1];decide),Za (by rw[<-hS];exact h2),Za];exact JS
  refine Rs (mN t2 t4 t6 t9 t10 t11 hns.aH e3 @lr @eP ix) ?_;refine WR.BX (B:=B) (x':={V.lines[p]with acc:=true}) (row:=bG) Tt.bk.o.i0 Tt.ex hlt De rfl rfl ?_;intro W5 x5 l5 hff hk5;have s5:cG B X x V W5 {V with lines:=V.lines.set p {V.lines[p]with acc:=true} }:=fh.q0 Tt hff (λi _ hne=>hk5 i hne) x5 Om;obtain⟨lr,_,sb,gm⟩:=cG.fa s5;refine Rs (o8 t2 t4 t6 t9 t10 t11 @lr @aG @sb @gm) ?_;exact z182
end
structure GC(X:ah)(x:EV)(U:RV)(h:ah):Prop where
 r:h[X.length]? =some (.b U.row)
 e:h[X.length+1]? =some (.b x.row)
 n:bh h x
theorem GC.ext{X h k x U}(s:GC X x U h)(e:Ext h k):GC X x U k:=⟨e.some s.r,e.some s.e,s.n.ext e⟩
section
variable {P:Program}(T:fA P) {B X W:ah}{ts:TS}{V:RV}{x:EV}
include T
def DU(w:ee V.an)(ox:bh B x)(we:kj x.ev .copy)(nk:sI V.an x.ev .copy)(s:cG B X x V W V)(hlen:ts.length=250)(t2:slot ts 2=.ptr X.length 0)(t3:slot ts 3=.ptr (X.length+1) 0)(t4:slot ts 4=.ptr (X.length+2) 0):
  WC P bJ zJ [] ts W (FQ [(4,some (some 7)),(5,none)] (rY B X V (bD V.an x.ev .copy) (du V.an x.ev .copy))):=by
 have ow:=ox.ext s.ex;have oV:=s.bk.o.ok;have RK:x.ev.kind=bA .copy:=cA we.kd;obtain⟨lr,le,sb,gm⟩:=cG.fa s;obtain⟨i0,d0⟩:=bN ow we 0 0 rfl De;obtain⟨i1,d1⟩:=bN ow we 1 1 rfl De;obtain⟨j0,f0,q0⟩:=cR ow we 0 0 rfl De;unfold zJ fn225;simp only[ai.tl];have k0:aP x.ev 0∈jL V.an:=nk.kn 0 1 rfl;have k1:aP x.ev 1∈jL V.an:=nk.kn 1 1 rfl;have T3:V.aj.length<=64:=by have:=w.l2;simpa [RV.an]using this
 have htp:∀y∈V.aj,y.1.aE.length<2^30:=λy hy=>(w.xZ.sh y hy).2
 by_cases h1:aP x.ev 0=aP x.ev 1
 case pos=>
  have e1:decide (aP x.ev 0=aP x.ev 1)=true:=Y5 h1;refine pa (MV @t2 @t3 @t4 @le @lr @bC @aN @bd @aG @RK @gP @Zx @Zp @j0 @f0 @i0 @d0 @i1 @d1 @e1 @sb @gm) ?_;rw[bD,Zh h1];exact GM
 have e1:decide (aP x.ev 0=aP x.ev 1)=false:=YW h1;refine pa (P8 @t2 @t3 @t4 @le @lr @bC @aN @bd @aG @RK @gP @Zx @Zp @j0 @f0 @i0 @d0 @i1 @d1 @e1) ?_;refine WF.ce T.c84 (r84 T (oV.ext Xx) w.len k0 _) λg1=>?_
 obtain⟨W2,Se⟩:∃Z,Z=W++g1:=⟨_,rfl⟩;rw[<-Se];have R1:cG B X x V W2 V:=by rw[Se];exact fh.grow s ⟨g1,rfl⟩
 have ow:=ox.ext R1.ex;have oV:=R1.bk.o.ok;obtain⟨lr,le,sb,gm⟩:=cG.fa R1;obtain⟨i0,d0⟩:=bN ow we 0 0 rfl De;obtain⟨i1,d1⟩:=bN ow we 1 1 rfl De;obtain⟨j0,f0,q0⟩:=cR ow we 0 0 rfl De;cases h2:jB V.an (bF x.ev 0) (aP x.ev 0)with
 |false=>
  refine Rs (A8 t2 t3 t4 @Zz @lr @aG @sb @gm) ?_;rw[bD,Za h1,Zh (by rw[h2];rfl)];exact z91
 |true=>
 refine Rs (o8 t2 t3 t4 @Zw @le @lr @aG @aN @i1 @d1) ?_;refine WF.ce T.c84 (r84 T (oV.ext Xx) w.len k1 _) λg2=>?_
 obtain⟨W3,R0⟩:∃Z,Z=W2++g2:=⟨_,rfl⟩;rw[<-R0];have R8:cG B X x V W3 V:=by rw[R0];exact fh.grow R1 ⟨g2,rfl⟩
 have ow:=ox.ext R8.ex;have oV:=R8.bk.o.ok;obtain⟨lr,le,sb,gm⟩:=cG.fa R8;obtain⟨i0,d0⟩:=bN ow we 0 0 rfl De;obtain⟨i1,d1⟩:=bN ow we 1 1 rfl De;obtain⟨j0,f0,q0⟩:=cR ow we 0 0 rfl De;cases h3:jB V.an (bF x.ev 0) (aP x.ev 1)with
 |false=>
  refine Rs (A8 t2 t3 t4 @Zz @lr @aG @sb @gm) ?_;rw[bD,Za h1,Za (by rw[h2];decide),Zh (by rw[h3];rfl)];exact Dj
 |true=>
 have Ta:bD V.an x.ev .copy=0:=by rw[bD,Za h1,Za (by rw[h2];decide),Za (by rw[h3];decide)]
 refine Rs (A4 t2 t3 t4 @Zw) ?_;obtain⟨a,ha⟩:∃a,a=aP x.ev 0:=⟨_,rfl⟩;obtain⟨z,hz⟩:∃z,z=aP x.ev 1:=⟨_,rfl⟩;refine WL.inv T.mix (λm ts W=>∃(k:Nat) (U:RV),k<=V.aj.length/\m=V.aj.length-k/\cG B X x V W U/\U.s2=V.s2/\U.aj.length=V.aj.length/\
   {U.an with aj:=V.an.aj} =V.an/\(∀i (hi:i<U.aj.length) (hi':i<V.aj.length),(U.aj[i]).1=if i<k then kJ a z (V.aj[i]).1 else(V.aj[i]).1)/\
   ts.length=250/\slot ts 2=.ptr X.length 0/\slot ts 3=.ptr (X.length+1) 0/\slot ts 4=.ptr (X.length+2) 0/\slot ts 7=.i k) V.aj.length
  ⟨0,V,Om,rfl,R8,rfl,rfl,rfl,λi hi hi'=>by rw[Za Om],Sn,(Sq t2),(Sq t3),(Sq t4),fV⟩ ?_
 clear t2 t3 t4 hlen i0 i1 d0 d1 j0 f0 oV ow lr le sb gm;rintro _ ts W4 ⟨k,U,hk,rfl,s,Sf,TT,hreg,hU,hlen,t2,t3,t4,t7⟩;have ow:=ox.ext s.ex;have oU:=s.bk.o.ok;obtain⟨lr,le,sb,gm⟩:=cG.fa s;by_cases hlt:k<V.aj.length
 ·have US:k<U.aj.length:=Om
  have e3:=dM hlt;have e5:=wrapN (n:=k) Om;have ll:∀(G:Nat->Option ak),Go.Abs.jM .sl G U.s2=some V.aj.length:=λG=>by rw[oU.i2.aH,TT]
  have ix:bf 3 U.s2 (.i (k:Int))=some (cI U.s2 3 k,.ar):=oU.i2.c8 US;have R3:U.aj[k]∈U.aj:=Zb _;have hx1:(U.aj[k]).1=(V.aj[k]).1:=by rw[hU k US hlt,Za Om]
  have hxl:(U.aj[k]).1.aE.length<2^30:=by rw[hx1];exact htp _ (Zb _)
  have VO:=s.bk.o.e2 _ R3;have next:∀(U2:RV),U2.aj.length=V.aj.length->(∀i (hi:i<U2.aj.length) (hi':i<U.aj.length),(U2.aj[i]).1=if i=k then kJ a z (U.aj[i]).1 else(U.aj[i]).1)->
    ∀i (hi:i<U2.aj.length) (hi':i<V.aj.length),(U2.aj[i]).1=if i<k+1 then kJ a z (V.aj[i]).1 else(V.aj[i]).1:=by
   intro U2 a3 a5 i hi hi';exact z59
  obtain⟨y,hy⟩:∃y,y=U.aj[k]:=⟨_,rfl⟩;have ly:∀{kk:ah},Ext W4 kk->ao none (lH U.s2 3 k 2) (λb=>kk[b]?)=some (y.2,.ar):=λ{kk} e=>oU.i2.p6 US (by rw[<-hy];rfl) e
  rw[<-hy]at VO hxl;have oy:=VO.aW.one;obtain⟨i0,d0⟩:=bN ow we 0 0 rfl De;obtain⟨i1,d1⟩:=bN ow we 1 1 rfl De;rw[<-ha]at d0;rw[<-hz]at d1;refine Rs (zt t2 t3 t4 t7 @lr @le @eo @ll e3 ix @ly @aN @i0 @d0) ?_;refine WF.ce T.c35 (r35 T (VO.aW.ext Xx) Om a) λg3=>?_
  by_cases c1:a∈y.1.aE
  case neg=>
   have u1:decide (a∈y.1.aE)=false:=YW c1;rw[u1];refine Rs (A5 t2 t3 t4 t7 e5) ?_;refine⟨_,Om,k+1,U,Om,rfl,fh.grow s ⟨g3,rfl⟩,Sf,TT,hreg,next U TT (λi hi hi'=>?_),rfl⟩;split
   ·rename_i TL;subst TL;rw[<-hy,kJ,Za (λw=>c1 w.1)]
   ·rfl
  have u1:decide (a∈y.1.aE)=true:=Y5 c1;rw[u1];refine Rs (A8 t2 t3 t4 t7 @le @aN @i1 @d1) ?_;refine WF.ce T.c35 (r35 T (VO.aW.ext Xx) Om z) λg4=>?_
  by_cases c2:z∈y.1.aE
  ·have u2:decide (z∈y.1.aE)=true:=Y5 c2;rw[u2];refine Rs (A6 t2 t3 t4 t7 @Zw e5) ?_;refine⟨_,Om,k+1,U,Om,rfl,fh.grow s (by rw[YV];exact⟨_,rfl⟩),Sf,TT,hreg,next U TT (λi hi hi'=>?_),rfl⟩;split
   ·rename_i TL;subst TL;rw[<-hy,kJ,Za (λw=>w.2 c2)]
   ·rfl
  have u2:decide (z∈y.1.aE)=false:=YW c2;rw[u2];refine Rs (A5 t2 t3 t4 t7 @Zz) ?_;obtain⟨W5,SX⟩:∃Z,Z=W4++g3++g4:=⟨_,rfl⟩;rw[<-SX];have XU:Ext W4 W5:=by rw[SX,YV];exact⟨_,rfl⟩
  have s5:cG B X x V W5 U:=fh.grow s XU;have S5:GC X x U W5:=⟨s5.bk.m,cG.LU s5,ox.ext s5.ex⟩;have hfx5:=s5.bk.o.e2 y (by rw[hy];exact R3);refine oT (GC X x U) ?_;refine c9 S5 rfl rfl ?_;refine Rs (A4 t2 t3 t4 t7) ?_;refine kU S5 (v:=U.s2) (λg hg=>?_) ?_
  ·simp only[aO,aQ,aY,aZ,reduceAdd,reduceMul,reduceLeDiff,reduceEqDiff,ba,hlen,Zi,Zk,t2,az hg.r,eo]
  refine Rs (A4 t2 t3 t4 t7) ?_;refine c9 S5 rfl rfl ?_;refine Rs (A4 t2 t3 t4 t7) ?_;refine c9 S5 rfl rfl ?_;refine Rs (A4 t2 t3 t4 t7) ?_;have S6:GC X x U (W5++[ak.b []]):=S5.ext ⟨_,rfl⟩;refine c9 S6 rfl rfl ?_;refine Rs (A4 t2 t3 t4 t7) ?_;refine c9 S6 rfl rfl ?_;refine Rs (A4 t2 t3 t4 t7) ?_;obtain⟨n5,hn5⟩:∃n,n=W5.length:=⟨_,rfl⟩;refine WR.pG (N:=n5) (w:=16) a8 (Nat.le_of_eq hn5) (hfx5.aW.ext Xx) (by simp only[Y7];omega) λt0 g5 ft=>?_
  obtain⟨W6,TA⟩:∃Z,Z=W5++[ak.b []]++g5:=⟨_,rfl⟩;rw[<-TA]at ft ⊢;have e56:Ext W5 W6:=by rw[TA,YV];exact⟨_,rfl⟩
  have S7:GC X x U W6:=S5.ext e56;have oq:=S7.n;have iq:bf 1 x.sn (.i 1)=_:=(wv oq we (i:=1) De).1;have p0:=ft.aW.one;refine Rs (A4 t2 t3 t4 t7) ?_;refine c9 S7 rfl rfl ?_;refine Rs (A4 t2 t3 t4 t7) ?_;refine kU S7 (v:=x.sn) (λg hg=>?_) ?_
  ·simp only[aO,aQ,aY,aZ,reduceAdd,reduceMul,reduceLeDiff,reduceEqDiff,ba,hlen,Zi,Zk,t3,az hg.e,aN]
  refine Rs (A4 t2 t3 t4 t7) ?_;refine c9 S7 rfl rfl ?_;refine Rs (A5 t2 t3 t4 t7 @iq) ?_;refine kU S7 (v:=.str z) (λg hg=>?_) ?_
  ·have h9:=@(wv hg.n we (i:=1) De).2;rw[<-hz]at h9;refine Zs t3 ?_;exact h9 (Ext.refl _)
  refine Rs (A4 t2 t3 t4 t7) ?_;refine c9 S7 rfl rfl ?_;refine Rs (A4 t2 t3 t4 t7) ?_;refine c9 (S7.ext ⟨_,rfl⟩) rfl rfl ?_;refine Rs (A4 t2 t3 t4 t7) ?_;rw[hn5]at ft;have s6:cG B X x V W6 U:=fh.grow s5 e56;refine WR.pI (B:=W5) (cs:=y.1.aE.map aq) ft rfl e56 De (by simp only[Y7];omega) ?_;intro W7 t' x7 hff hn7 q7 l7 hk7;have hrow:y.1.aE.map aq++[[AV.str z]]=(y.1.aE++[z]).map aq:=by rw[Y9];rfl
  rw[hrow]at hff;have k7:∀i,i<W5.length->W7[i]? =W5[i]? :=λi hi=>x7.get hi
  have s7:cG B X x V W7 U:=fh.grow s5 x7;have S8:GC X x U W7:=S5.ext x7;refine Rs (A4 t2 t3 t4 t7) ?_;refine oS S8 rfl ?_;have hs27:Fr B.length W7 U.s2 3 (U.aj.map aU):=s7.bk.o.i2;have ix:bf 3 U.s2 (.i (k:Int))=some (cI U.s2 3 k,.ar):=oU.i2.c8 US;refine Rs (A6 t2 t3 t4 t7 ix q7) ?_;refine WR.BX (B:=B) (x':=(⟨y.1.name,y.1.line,y.1.aE++[z]⟩,t')) (row:=aU) hs27 s7.ex US De q7 (by rw[<-hy];rfl) ?_;intro W8 x8 l8 hf8 hk8;have ft8:Fr B.length W8 t' 1 ((y.1.aE++[z]).map aq):=(hff.aD λi hi=>hk8 i λe=>by
   have h1:=(hff.bP hi).1;have h2:=(s5.bk.o.dR (b:=i) (by rw[<-e];simp[RV.bl])).2;omega).low s5.ex.len
  have s8:cG B X x V W8 {U with aj:=U.aj.set k (⟨y.1.name,y.1.line,y.1.aE++[z]⟩,t') }:=fh.qS s US hf8 ft8 (λj hj=>by have h1:=(hff.bP hj).1;have:=XU.len;omega) (λj hj n1 n2=>by
   rw[hk8 j n1,k7 j (by have:=XU.len;omega)];exact XU.get hj) x8 (by have:=XU.len;have:=e56.len;omega)
  refine Rs (A5 t2 t3 t4 t7 e5) ?_;refine⟨_,Om,k+1,_,Om,rfl,s8,Sf,(by simp only[ZI];exact TT),hreg,next _ (by simp only[ZI];exact TT) (λi hi hi'=>?_),rfl⟩;by_cases TL:i=k
  ·subst TL;simp only[aaX,Zk];rw[<-hy,kJ,Zh ⟨c1,c2⟩]
  ·exact Jt
 ·have e3:decide ((k:Int)<V.aj.length)=false:=YW Om;have e4:k=V.aj.length:=Om
  have ll:∀(G:Nat->Option ak),Go.Abs.jM .sl G U.s2=some V.aj.length:=λG=>by rw[oU.i2.aH,TT]
  refine Rs (mN t2 t3 t4 t7 @lr @eo @ll e3 @aG @sb @gm) ?_;rw[Ta];refine cG.fin s (λ_=>?_);exact QA
def Cm{d}(hd:d=.line\/d=.tape\/d=.gq\/d=.copy\/d=.accept)(o:cJ B.length X V)(w:ee V.an)(hx:Ext B X)(ox:bh B x)(we:kj x.ev d)(nk:sI V.an x.ev d):
  dh P 225 [.agg V.row,.agg x.row] X (rY B X V (bD V.an x.ev d) (du V.an x.ev d)):=by
 refine .of T.mix (abn T.c225 (Zv some NY)) ?_;obtain⟨ts,RD⟩:∃ts,ts=aV 250 [.agg V.row,.agg x.row]:=⟨_,rfl⟩;have hlen:ts.length=250:=by rw[RD];rfl
 have t0:slot ts 0=.agg V.row:=by rw[RD];rfl
 have t1:slot ts 1=.agg x.row:=by rw[RD];rfl
 show WC P bJ (.seq ((fn225).body.hd) zJ) [] (aV 250 [.agg V.row,.agg x.row]) X (FQ [(4,some (some 7)),(5,none)] (rY B X V (bD V.an x.ev d) (du V.an x.ev d)));rw[<-RD];clear RD;have Rz:=@aB.box _ _ o.ok;have hex:=@bh.box _ _ (ox.ext hx);have s:cG B X x V (X++[.b V.row]++[.b x.row]++[.b js]) V:=by
  exact z20
 unfold js at s;generalize hB:zJ=R;unfold fn225;simp only[ai.hd];refine Rs (A4 t0 t1 @Rz @hex) ?_;rw[<-hB];rcases hd with rfl|rfl|rfl|rfl|rfl
 ·exact DT T w ox we nk s Sn Sw (by simp only[aO,aQ,aY,aZ,reduceAdd,reduceMul,reduceLeDiff,reduceEqDiff,ba,hlen,Zi,Zk];simp) (by simp only[aO,aQ,aY,aZ,reduceAdd,reduceMul,reduceLeDiff,reduceEqDiff,ba,hlen,Zi,Zk];simp)
 ·exact DR T w ox we nk s Sn Sw (by simp only[aO,aQ,aY,aZ,reduceAdd,reduceMul,reduceLeDiff,reduceEqDiff,ba,hlen,Zi,Zk];simp) (by simp only[aO,aQ,aY,aZ,reduceAdd,reduceMul,reduceLeDiff,reduceEqDiff,ba,hlen,Zi,Zk];simp)
 ·exact DS T w ox we nk s Sn Sw (by simp only[aO,aQ,aY,aZ,reduceAdd,reduceMul,reduceLeDiff,reduceEqDiff,ba,hlen,Zi,Zk];simp) (by simp only[aO,aQ,aY,aZ,reduceAdd,reduceMul,reduceLeDiff,reduceEqDiff,ba,hlen,Zi,Zk];simp)
 ·exact DU T w ox we nk s Sn Sw (by simp only[aO,aQ,aY,aZ,reduceAdd,reduceMul,reduceLeDiff,reduceEqDiff,ba,hlen,Zi,Zk];simp) (by simp only[aO,aQ,aY,aZ,reduceAdd,reduceMul,reduceLeDiff,reduceEqDiff,ba,hlen,Zi,Zk];simp)
 ·exact zI T w ox we nk s Sn Sw (by simp only[aO,aQ,aY,aZ,reduceAdd,reduceMul,reduceLeDiff,reduceEqDiff,ba,hlen,Zi,Zk];simp) (by simp only[aO,aQ,aY,aZ,reduceAdd,reduceMul,reduceLeDiff,reduceEqDiff,ba,hlen,Zi,Zk];simp)
end
def fh.Lz{B W0 W W2 b K U}(s:fh B W0 b K W U)(hk:∀i,i<W.length->W2[i]? =W[i]?)(hl:W.length<=W2.length)(hx:Ext B W2):fh B W0 b K W2 U:=by
 refine⟨⟨s.bk.o.ar λi hi=>hk i (s.bk.o.dR hi).2,s.bk.hN,(hk _ s.bk.lt).trans s.bk.m,s.bk.ne⟩,hx,ZR s.ln hl,λi hi=>?_,s.kl⟩;rw[hk i (ZW (s.kl i hi).1 s.ln)];exact s.kp i hi
structure uQ(B W Y:ah)(mb:Nat)(c:List AV)(t:AV)(ins:List (By)):Prop where
 k:∀i,i<W.length->Y[i]? =W[i]?
 b:B.length<=W.length
 l:W.length<=mb
 x:Ext B Y
 m:Y[mb]? =some (.b c)
 f:Fr W.length Y t 1 (ins.map aq)
 n:∀i,sB t=some i->i≠mb
def uQ.lt{B W Y mb c t ins}(s:uQ B W Y mb c t ins):mb<Y.length:=(YU.1 s.m).1
def uQ.grow{B W Y Y2 mb c t ins}(s:uQ B W Y mb c t ins)(e:Ext Y Y2):uQ B W Y2 mb c t ins:=by
 have h1:=s.lt;have h2:=s.l;exact⟨λi hi=>by rw[e.get Om,s.k i hi],s.b,s.l,s.x.trans e,e.some s.m,s.f.ext e,s.n⟩
theorem uQ.set{B W Y mb c t ins}(s:uQ B W Y mb c t ins)(c':List AV):uQ B W (Y.set mb (.b c')) mb c' t ins:=by
 have h1:=s.lt;have h2:=s.l;have h3:=s.b;exact⟨λi hi=>by rw[Zf Om,s.k i hi],s.b,s.l,s.x.fX Om,Zg h1,s.f.aD λi hi=>Zf (aai (s.n i hi)),s.n⟩
def uQ.rc{B X W Y x V mb c t ins}(s:uQ B W Y mb c t ins)(r:cG B X x V W V):cG B X x V Y V:=
 fh.Lz r s.k (by have:=s.lt;have:=s.l;omega) s.x
def uQ.st{B W Y mb c t ins}(s:uQ B W Y mb c t ins){i v}(hv:v.one=true)(hi:i+1<=c.length):aT 1 (.ptr mb i) v (λz=>Y[z]?)=some (ay,.set mb (.b (c.set i v))):=
 (aJ s.m).trans (bO hv hi)
def wG(k:Nat):ai:=(fn226).body.dr k
def EX(k:Nat):ai:=((fn226).body.dr k).hd
def PL:wG 1=.seq (EX 1) (wG 2):=rfl
def Iw:wG 2=.seq (EX 2) (wG 3):=rfl
def PM:fn226=⟨96,2,[(4,some (some 7)),(5,none)],.seq (EX 0) (wG 1)⟩:=rfl
section
variable {P:Program}(T:fA P) {B X W Y:ah}{ts:TS}{V:RV}{x:EV}{mb:Nat}
include T
theorem uu(w:ee V.an)(s:cG B X x V W V){y t ins}(hb:uQ B W Y mb [.str y.name,.str y.gives,.str y.line,t] t ins)(hy:y.bo=ins)(hlen:ts.length=96)(t2:slot ts 2=.ptr X.length 0)(t4:slot ts 4=.ptr (X.length+2) 0)(t6:slot ts 6=.ptr mb 0):
  WC P bJ (wG 3) [] ts Y (FQ [(4,some (some 7)),(5,none)] (rY B X V (if 32<=V.an.aC.length then 5 else 0) {V.an with aC:=V.an.aC++[y] })):=by
 have sY:=hb.rc s;have oV:=sY.bk.o.ok;have lm:=@dG _ _ _ hb.m;have hml:V.an.aC.length=V.aC.length:=by simp[RV.an]
 have ot:=hb.f.aW.one;obtain⟨lr,le,sb,gm⟩:=cG.fa sY;unfold wG fn226;simp only[ai.j,ai.s,ai.r,ai.dr,ai.tl];by_cases h1:32<=V.aC.length
 case pos=>
  have e1:decide ((32:Int)<=(V.aC.length:Int))=true:=Y5 Om;refine Rs (o8 t2 t4 t6 @lr @eE oV.i3.aH e1 @aG @sb @gm) ?_;rw[hml,Zh h1];exact Jp
 have e1:decide ((32:Int)<=(V.aC.length:Int))=false:=YW Om;obtain⟨z,hz⟩:∃z:List AV,z=aM (y,t):=⟨_,rfl⟩;have SD:[AV.str y.name,.str y.gives,.str y.line,t]=z:=by rw[hz];rfl
 refine Rs (A9 t2 t4 t6 @lr @eE oV.i3.aH e1 @lm @ot) ?_;rw[SD];refine WR.pI (B:=B) (cs:=V.aC.map aM) (sY.bk.o.i3) (by rw[hz];rfl) sY.ex De (by rw[Y7];omega) ?_;intro W5 s' x5 hff hn5 q5 l5 hk5;have hrow:V.aC.map aM++[z]=(V.aC++[(y,t)]).map aM:=by rw[Y9,hz];rfl
 rw[hrow]at hff;have hlW:W.length<=Y.length:=by have:=hb.lt;have:=hb.l;omega
 have bV:∀i,sB t=some i->sB V.s3≠some i:=λi hi e=>by
  have h1:=(hb.f.bP hi).1;have h2:=(s.bk.o.dR (b:=i) (by rw[<-e];simp[RV.bl])).2;omega
 have f5:Fr B.length W5 t 1 (y.bo.map aq):=by
  rw[hy];exact(hb.f.aD λi hi=>hk5 i (hb.f.bP hi).2 (bV i hi)).low hb.b
 have s5:cG B X x V (W5.set X.length (.b (V.row.set 4 s'))) {V with aC:=V.aC++[(y,t)],s3:=s'}:=fh.p3 s hff f5 (λi hi=>.inr (by have:=hn5 i hi;omega)) (λi hi=>⟨(hb.f.bP hi).1,λe=>by have:=hn5 i e;have:=(hb.f.bP hi).2;omega⟩) (λi hi hne=>(hk5 i Om hne).trans (hb.k i hi)) x5 Om;have mB:W5[X.length]? =some (.b V.row):=(hk5 _ sY.bk.lt (λz=>sY.bk.ne (by rw[<-z];simp[RV.bl]))).trans sY.bk.m;have Sc:aT 1 (.ptr X.length 4) s' (λz=>W5[z]?)=some (ay,.set X.length (.b (V.row.set 4 s'))):=(aJ mB).trans (bO q5 (by show 4+1<=7;omega));refine Rs (A5 t2 t4 t6 @Sc q5) ?_;obtain⟨W6,TA⟩:∃Z,Z=W5.set X.length (.b (V.row.set 4 s')):=⟨_,rfl⟩
 rw[<-TA]at s5 ⊢;obtain⟨lr,le,sb,gm⟩:=cG.fa s5;refine Rs (A7 t2 t4 t6 @lr @aG @sb @gm) ?_;rw[hml,Za h1];exact cG.fin s5 (λ_=>by simp only[RV.an,Y9,ZX,aaC])
variable {t:AV}
def Av(w:ee V.an)(ox:bh B x)(we:kj x.ev .source)(nk:sI V.an x.ev .source)(s:cG B X x V W V)(hb:uQ B W Y mb [.str (aP x.ev 0),.str [],.str [],t] t (x.ev.names.drop 1))(ht:t.one=true)(hlen:ts.length=96)(t2:slot ts 2=.ptr X.length 0)(t3:slot ts 3=.ptr (X.length+1) 0)(t4:slot ts 4=.ptr (X.length+2) 0)(t6:slot ts 6=.ptr mb 0):
  WC P bJ (wG 2) [] ts Y (FQ [(4,some (some 7)),(5,none)] (rY B X V (bD V.an x.ev .source) (du V.an x.ev .source))):=by
 have sY:=hb.rc s;have ow:=ox.ext sY.ex;have oV:=sY.bk.o.ok;have RK:x.ev.kind=bA .source:=cA we.kd;have lm:=@dG _ _ _ hb.m;obtain⟨lr,le,sb,gm⟩:=cG.fa sY;rw[Iw];generalize hR:wG 3=R;unfold EX fn226;simp only[ai.j,ai.s,ai.r,ai.dr,ai.tl,ai.hd];refine pa (pe t2 t3 t4 t6 @le @bC @RK @gW @j8 @jh @Zx @Zp) ?_;refine oT (λg=>cG B X x V g V) ?_;refine c9 sY rfl rfl ?_;refine Rs (A4 t2 t3 t4 t6) ?_;refine kU sY (v:=x.sn) (λg hg=>?_) ?_
 ·simp only[aO,aQ,aY,aZ,reduceAdd,reduceMul,reduceLeDiff,reduceEqDiff,ba,hlen,Zi,Zk,t3,cG.le hg (Ext.refl _),aN]
 refine Rs (A4 t2 t3 t4 t6) ?_;have i1:bf 1 x.sn (.i 1)=_:=(wv ow we (i:=1) De).1;refine c9 sY rfl rfl ?_;refine Rs (A5 t2 t3 t4 t6 @i1) ?_;refine kU sY (v:=.str (aP x.ev 1)) (λg hg=>?_) ?_
 ·have h9:=@(wv (ox.ext (fh.ex hg)) we (i:=1) De).2;refine Zs t3 ?_;exact h9 (Ext.refl _)
 refine Rs (A4 t2 t3 t4 t6) ?_;refine c9 sY rfl rfl ?_;refine Rs (A4 t2 t3 t4 t6) ?_;have Sb:=hb.set [.str (aP x.ev 0),.str dU,.str [],t];have kr:aT 1 (.ptr mb 1) (.str [115,104,111,116,115]) (λz=>Y[z]?)=some (ay,.set mb (.b [.str (aP x.ev 0),.str dU,.str [],t])):=hb.st rfl (by show 1+1<=4;omega);obtain⟨Y1,VV⟩:∃Z,Z=Y.set mb (.b [.str (aP x.ev 0),.str dU,.str [],t]):=⟨_,rfl⟩;rw[<-VV]at Sb;refine c9 sY rfl rfl ?_;refine Rs (A5 t2 t3 t4 t6 @kr) ?_;rw[<-VV];have S1:=Sb.rc s;refine oS S1 rfl ?_;have Sl:=Sb.set [.str (aP x.ev 0),.str dU,.str (aP x.ev 1),t];have eF:aT 1 (.ptr mb 2) (.str (aP x.ev 1)) (λz=>Y1[z]?)=some (ay,.set mb (.b [.str (aP x.ev 0),.str dU,.str (aP x.ev 1),t])):=Sb.st rfl (by show 2+1<=4;omega)
 have UX:=Sl.set [.str (aP x.ev 0),.str dU,.str (aP x.ev 1),.af];have mS:aT 1 (.ptr mb 3) .af (λz=>(Y1.set mb (.b [.str (aP x.ev 0),.str dU,.str (aP x.ev 1),t]))[z]?)=some (ay,.set mb (.b [.str (aP x.ev 0),.str dU,.str (aP x.ev 1),.af])):=Sl.st rfl (by show 3+1<=4;omega);have hb4:uQ B W _ mb [.str (aP x.ev 0),.str dU,.str (aP x.ev 1),.af] .af []:=⟨UX.k,UX.b,UX.l,UX.x,UX.m,.nil,λi hi=>by cases hi⟩;refine Rs (A6 t2 t3 t4 t6 @eF @mS) ?_;rw[<-hR];exact uu T w s (y:=⟨aP x.ev 0,dU,aP x.ev 1,[]⟩) hb4 rfl Sn (Sq t2) (Sq t4) (Sq t6)
def EW(w:ee V.an)(ox:bh B x)(we:kj x.ev .fZ)(nk:sI V.an x.ev .fZ)(s:cG B X x V W V)(hb:uQ B W Y mb [.str (aP x.ev 0),.str [],.str [],t] t (x.ev.names.drop 1))(ht:t.one=true)(hlen:ts.length=96)(t2:slot ts 2=.ptr X.length 0)(t3:slot ts 3=.ptr (X.length+1) 0)(t4:slot ts 4=.ptr (X.length+2) 0)(t6:slot ts 6=.ptr mb 0):
  WC P bJ (wG 2) [] ts Y (FQ [(4,some (some 7)),(5,none)] (rY B X V (bD V.an x.ev .fZ) (du V.an x.ev .fZ))):=by
 have sY:=hb.rc s;have ow:=ox.ext sY.ex;have oV:=sY.bk.o.ok;have RK:x.ev.kind=bA .fZ:=cA we.kd;have lm:=@dG _ _ _ hb.m;obtain⟨lr,le,sb,gm⟩:=cG.fa sY;obtain⟨i1,d1⟩:=bN ow we 1 1 rfl De;obtain⟨j1,f1,q1⟩:=cR ow we 1 1 rfl De;have k1:aP x.ev 1∈gV V.an:=nk.kn 1 3 rfl;rw[Iw];generalize hR:wG 3=R;unfold EX fn226;simp only[ai.j,ai.s,ai.r,ai.dr,ai.tl,ai.hd];refine pa (GG t2 t3 t4 t6 @le @lr @aN @bd @aG @bC @RK @gW @j8 @jh @Zx @Zp @j1 @f1) ?_;refine WF.ce T.c20 (r20 T _ _ _) λg1=>?_
 obtain⟨Y1,VV⟩:∃Z,Z=Y++g1:=⟨_,rfl⟩;rw[<-VV];have hb:=hb.grow (show Ext Y Y1 from⟨g1,VV⟩);have sY:=hb.rc s;have ow:=ox.ext sY.ex;have oV:=sY.bk.o.ok;have lm:=@dG _ _ _ hb.m;obtain⟨lr,le,sb,gm⟩:=cG.fa sY;obtain⟨i1,d1⟩:=bN ow we 1 1 rfl De;obtain⟨j1,f1,q1⟩:=cR ow we 1 1 rfl De;by_cases h1:bu (bF x.ev 1) 1 4=0
 case neg=>
  have e1:decide (bu (bF x.ev 1) 1 4≠0)=true:=Y5 h1;refine Rs (A8 t2 t3 t4 e1 @lr @aG @sb @gm) ?_;rw[bD,Zh h1];exact Jp
 have e1:decide (bu (bF x.ev 1) 1 4≠0)=false:=YW (λz=>z h1);refine Rs (pe t2 t3 t4 t6 @le @lr @aN @bd @aG e1 @j1 @f1) ?_;refine WF.ce T.c263 (r263 T _) λg2=>?_
 obtain⟨Y2,Uf⟩:∃Z,Z=Y1++g2:=⟨_,rfl⟩;rw[<-Uf];have hb:=hb.grow (show Ext Y1 Y2 from⟨g2,Uf⟩);have sY:=hb.rc s;have ow:=ox.ext sY.ex;have oV:=sY.bk.o.ok;have lm:=@dG _ _ _ hb.m;obtain⟨lr,le,sb,gm⟩:=cG.fa sY;obtain⟨i1,d1⟩:=bN ow we 1 1 rfl De;obtain⟨j1,f1,q1⟩:=cR ow we 1 1 rfl De;refine Rs (mN t2 t3 t4 t6 @le @lr @aN @bd @aG @i1 @d1) ?_;refine WF.ce T.c264 (r264 T (oV.ext Xx) w.len k1) λg3=>?_
 obtain⟨Y3,hY3⟩:∃Z,Z=Y2++g3:=⟨_,rfl⟩;rw[<-hY3];have hb:=hb.grow (show Ext Y2 Y3 from⟨g3,hY3⟩);have sY:=hb.rc s;have ow:=ox.ext sY.ex;have oV:=sY.bk.o.ok;have lm:=@dG _ _ _ hb.m;obtain⟨lr,le,sb,gm⟩:=cG.fa sY;by_cases h2:(gN V.an (aP x.ev 1)).gives=mP (bF x.ev 1)
 case neg=>
  have e2:decide ((gN V.an (aP x.ev 1)).gives≠mP (bF x.ev 1))=true:=Y5 h2;refine Rs (A9 t2 t3 t4 t6 e2 @lr @aG @sb @gm) ?_;rw[bD,Za (λz=>z h1),Zh h2];exact Jp
 have e2:decide ((gN V.an (aP x.ev 1)).gives≠mP (bF x.ev 1))=false:=YW (λz=>z h2);have Sb:=hb.set [.str (aP x.ev 0),.str (jP (bF x.ev 1)),.str [],t];have kr:aT 1 (.ptr mb 1) (.str (jP (bF x.ev 1))) (λz=>Y3[z]?)=some (ay,.set mb (.b [.str (aP x.ev 0),.str (jP (bF x.ev 1)),.str [],t])):=hb.st rfl (by show 1+1<=4;omega);refine Rs (A6 t2 t3 t4 t6 e2 @kr) ?_;rw[<-hR];have hc:bD V.an x.ev .fZ=if 32<=V.an.aC.length then 5 else 0:=by rw[bD,Za (λz=>z h1),Za (λz=>z h2)]
 rw[hc];exact uu T w s (y:=⟨aP x.ev 0,jP (bF x.ev 1),[],x.ev.names.drop 1⟩) Sb rfl Sn (Sq t2) (Sq t4) (Sq t6)
def CL(w:ee V.an)(ox:bh B x)(we:kj x.ev .merge)(nk:sI V.an x.ev .merge)(s:cG B X x V W V)(hb:uQ B W Y mb [.str (aP x.ev 0),.str [],.str [],t] t (x.ev.names.drop 1))(ht:t.one=true)(hlen:ts.length=96)(t2:slot ts 2=.ptr X.length 0)(t3:slot ts 3=.ptr (X.length+1) 0)(t4:slot ts 4=.ptr (X.length+2) 0)(t6:slot ts 6=.ptr mb 0):
  WC P bJ (wG 2) [] ts Y (FQ [(4,some (some 7)),(5,none)] (rY B X V (bD V.an x.ev .merge) (du V.an x.ev .merge))):=by
 have sY:=hb.rc s;have ow:=ox.ext sY.ex;have oV:=sY.bk.o.ok;have RK:x.ev.kind=bA .merge:=cA we.kd;have lm:=@dG _ _ _ hb.m;obtain⟨lr,le,sb,gm⟩:=cG.fa sY;obtain⟨i1,d1⟩:=bN ow we 1 1 rfl De;obtain⟨i2,d2⟩:=bN ow we 2 2 rfl De;have k1:aP x.ev 1∈gV V.an:=nk.kn 1 3 rfl;have k2:aP x.ev 2∈gV V.an:=nk.kn 2 3 rfl;rw[Iw];generalize hR:wG 3=R;unfold EX fn226;simp only[ai.j,ai.s,ai.r,ai.dr,ai.tl,ai.hd];by_cases h1:aP x.ev 1=aP x.ev 2
 case pos=>
  have e1:decide (aP x.ev 1=aP x.ev 2)=true:=Y5 h1;refine pa (QU @t2 @t3 @t4 @t6 @le @lr @aN @bd @aG @bC @RK @gW @j8 @jh @Zx @Zp @i1 @d1 @i2 @d2 @e1 @sb @gm) ?_;rw[bD,Zh h1];exact Jp
 have e1:decide (aP x.ev 1=aP x.ev 2)=false:=YW h1;refine pa (QV @t2 @t3 @t4 @t6 @le @lr @aN @bd @aG @bC @RK @gW @j8 @jh @Zx @Zp @i1 @d1 @i2 @d2 @e1) ?_;refine WF.ce T.c264 (r264 T (oV.ext Xx) w.len k1) λg2=>?_
 obtain⟨Y1,VV⟩:∃Z,Z=Y++g2:=⟨_,rfl⟩;rw[<-VV];have hb:=hb.grow (show Ext Y Y1 from⟨g2,VV⟩);have sY:=hb.rc s;have ow:=ox.ext sY.ex;have oV:=sY.bk.o.ok;have lm:=@dG _ _ _ hb.m;obtain⟨lr,le,sb,gm⟩:=cG.fa sY;have Sb:=hb.set [.str (aP x.ev 0),.str (gN V.an (aP x.ev 1)).gives,.str [],t];have kr:aT 1 (.ptr mb 1) (.str (gN V.an (aP x.ev 1)).gives) (λz=>Y1[z]?)=some (ay,.set mb (.b [.str (aP x.ev 0),.str (gN V.an (aP x.ev 1)).gives,.str [],t])):=hb.st rfl (by show 1+1<=4;omega);refine Rs (A5 t2 t3 t4 t6 @kr) ?_;obtain⟨Y2,Uf⟩:∃Z,Z=Y1.set mb (.b [.str (aP x.ev 0),.str (gN V.an (aP x.ev 1)).gives,.str [],t]):=⟨_,rfl⟩
 rw[<-Uf]at Sb ⊢;have hb:=Sb;obtain⟨Y3,hY3⟩:∃Z,Z=Y2++[]:=⟨_,rfl⟩;rw[Zr]at hY3;rw[<-hY3];have hb:=hb.grow (show Ext Y2 Y3 from⟨[],by rw[Zr];exact hY3⟩);have sY:=hb.rc s;have ow:=ox.ext sY.ex;have oV:=sY.bk.o.ok;have lm:=@dG _ _ _ hb.m;obtain⟨lr,le,sb,gm⟩:=cG.fa sY;obtain⟨i1,d1⟩:=bN ow we 1 1 rfl De;obtain⟨i2,d2⟩:=bN ow we 2 2 rfl De;refine Rs (mN t2 t3 t4 t6 @le @lr @aN @bd @aG @i2 @d2) ?_;refine WF.ce T.c264 (r264 T (oV.ext Xx) w.len k2) λg3=>?_
 obtain⟨Y4,hY4⟩:∃Z,Z=Y3++g3:=⟨_,rfl⟩;rw[<-hY4];have hb:=hb.grow (show Ext Y3 Y4 from⟨g3,hY4⟩);have sY:=hb.rc s;have ow:=ox.ext sY.ex;have oV:=sY.bk.o.ok;have lm:=@dG _ _ _ hb.m;obtain⟨lr,le,sb,gm⟩:=cG.fa sY;by_cases h2:(gN V.an (aP x.ev 1)).gives=(gN V.an (aP x.ev 2)).gives
 case neg=>
  have e2:decide ((gN V.an (aP x.ev 2)).gives≠(gN V.an (aP x.ev 1)).gives)=true:=Y5 (λz=>h2 z.symm);refine Rs (o8 t2 t3 t4 t6 @lm e2 @lr @aG @sb @gm) ?_;rw[bD,Za h1,Zh h2];exact Jp
 have e2:decide ((gN V.an (aP x.ev 2)).gives≠(gN V.an (aP x.ev 1)).gives)=false:=YW (λz=>z h2.symm);refine Rs (A6 t2 t3 t4 t6 @lm e2) ?_;rw[<-hR];have hc:bD V.an x.ev .merge=if 32<=V.an.aC.length then 5 else 0:=by rw[bD,Za h1,Za (λz=>z h2)]
 rw[hc];exact uu T w s (y:=⟨aP x.ev 0,(gN V.an (aP x.ev 1)).gives,[],x.ev.names.drop 1⟩) hb rfl Sn (Sq t2) (Sq t4) (Sq t6)
omit T in
theorem F3(o:cJ B.length X V)(hx:Ext B X):cG B X x V (X++[.b V.row]++[.b x.row]++[.b js]) V:=by
 exact z20
def CJ{d}(hd:d=.source\/d=.fZ\/d=.merge)(w:ee V.an)(ox:bh B x)(we:kj x.ev d)(nk:sI V.an x.ev d)(s:cG B X x V W V)(hlen:ts.length=96)(t2:slot ts 2=.ptr X.length 0)(t3:slot ts 3=.ptr (X.length+1) 0)(t4:slot ts 4=.ptr (X.length+2) 0):
  WC P bJ (wG 1) [] ts W (FQ [(4,some (some 7)),(5,none)] (rY B X V (bD V.an x.ev d) (du V.an x.ev d))):=by
 have ow:=ox.ext s.ex;have hn1:1<=x.ev.names.length:=by rw[we.nl];rcases hd with rfl|rfl|rfl<;>decide
 have hn3:x.ev.names.length<=3:=by rw[we.nl];rcases hd with rfl|rfl|rfl<;>decide
 have U7:0<(bM d).length:=by rw[<-we.nl];exact hn1
 obtain⟨i0,d0⟩:=bN ow we 0 0 rfl U7;obtain⟨lr,le,sb,gm⟩:=cG.fa s;obtain⟨s',es',RC⟩:=ow.n.FP (lo:=some (.i 1)) (hi:=none) (ml (k:=1) hn1);have et:List.take (x.ev.names.length-1) (List.drop 1 x.ev.names)=x.ev.names.drop 1:=ZL Si;rw[et]at RC;rw[PL];generalize hR:wG 2=R;unfold EX fn226;simp only[ai.j,ai.s,ai.r,ai.dr,ai.tl,ai.hd];refine Rs (A8 t2 t3 t4 @le @aN @i0 @d0 @es') ?_;refine WR.pG (N:=W.length) (w:=16) a8 (Zc _) (RC.ext Xx) (by simp only[Y7,abb];omega) λt g f=>?_
 have ot:=f.aW.one;obtain⟨Y,hY⟩:∃Z,Z=W++[ak.b []]++g:=⟨_,rfl⟩;rw[<-hY]at f ⊢;have eY:Ext W Y:=by rw[hY,YV];exact⟨_,rfl⟩
 refine Rs (A4 t2 t3 t4 @ot) ?_;have hb:uQ B W (Y++[ak.b [AV.str (aP x.ev 0),.str [],.str [],t]]) Y.length [AV.str (aP x.ev 0),.str [],.str [],t] t (x.ev.names.drop 1):=by
  refine⟨λi hi=>?_,s.ex.len,eY.len,s.ex.trans (eY.trans ⟨_,rfl⟩),a8,f.app _,λi hi e=>?_⟩
  ·rw[YY (by have:=eY.len;omega),eY.get hi]
  ·have:=(f.bP hi).2;omega
 rw[<-hR];rcases hd with rfl|rfl|rfl
 ·exact Av T w ox we nk s hb ot Sn (Sq t2) (Sq t3) (Sq t4) Sw
 ·exact EW T w ox we nk s hb ot Sn (Sq t2) (Sq t3) (Sq t4) Sw
 ·exact CL T w ox we nk s hb ot Sn (Sq t2) (Sq t3) (Sq t4) Sw
def HZ{d}(hd:d=.source\/d=.fZ\/d=.merge)(o:cJ B.length X V)(w:ee V.an)(hx:Ext B X)(ox:bh B x)(we:kj x.ev d)(nk:sI V.an x.ev d):
  dh P 226 [.agg V.row,.agg x.row] X (rY B X V (bD V.an x.ev d) (du V.an x.ev d)):=by
 refine .of T.mix (abn T.c226 (Zv some PM)) ?_;obtain⟨ts,RD⟩:∃ts,ts=aV 96 [.agg V.row,.agg x.row]:=⟨_,rfl⟩;have hlen:ts.length=96:=by rw[RD];rfl
 have t0:slot ts 0=.agg V.row:=by rw[RD];rfl
 have t1:slot ts 1=.agg x.row:=by rw[RD];rfl
 show WC P bJ (.seq (EX 0) (wG 1)) [] (aV 96 [.agg V.row,.agg x.row]) X (FQ [(4,some (some 7)),(5,none)] (rY B X V (bD V.an x.ev d) (du V.an x.ev d)));rw[<-RD];clear RD;have Rz:=@aB.box _ _ o.ok;have hex:=@bh.box _ _ (ox.ext hx);have s:cG B X x V (X++[.b V.row]++[.b x.row]++[.b js]) V:=F3 o hx;unfold js at s;generalize hR:wG 1=R;unfold EX fn226;simp only[ai.dr,ai.hd];refine Rs (A4 t0 t1 @Rz @hex) ?_;rw[<-hR];exact CJ T hd w ox we nk s Sn Sw (by simp only[aO,aQ,aY,aZ,reduceAdd,reduceMul,reduceLeDiff,reduceEqDiff,ba,hlen,Zi,Zk];simp) (by simp only[aO,aQ,aY,aZ,reduceAdd,reduceMul,reduceLeDiff,reduceEqDiff,ba,hlen,Zi,Zk];simp)
end
def Ar(k:Nat):ai:=(fn227).body.dr k
def PC(k:Nat):ai:=((fn227).body.dr k).hd
def PB:fn227=⟨223,2,[(4,some (some 7)),(5,none)],.seq (PC 0) (Ar 1)⟩:=rfl
structure P2(V:RV)(n:By)(p:Nat)(J:kY×AV):Prop where
 ps:p=bp (iO V.an) n
 lt:p<V.aF.length
 g:V.aF[p]? =some J
 e:J.1=gB V.an n
 m:J∈V.aF
 i:de (λy:kY×AV=>decide (y.1.name=n)) V.aF=(p:Int)
def OP{V n}(hn:n∈iO V.an):∃p J,P2 V n p J:=by
 have hlt:bp (iO V.an) n<V.aF.length:=by have:=cY hn;simpa [iO,RV.an]using this
 refine⟨_,V.aF[bp (iO V.an) n],rfl,hlt,YZ hlt,?_,Zb _,?_⟩
 ·rw[gB,dq (f:=kY.name) (l:=V.an.aF) (d:=zP) hn];exact z127
 ·rw[iu];exact fo (f:=λy:kY×AV=>y.1.name) (by rw[<-iu];exact hn)
theorem P2.at{V n p J}(j:P2 V n p J):V.aF[p]'j.lt=J:=by
 have:=j.g;rw[YZ j.lt]at this;exact ZZ this
section
variable {P:Program}(T:fA P) {B X W:ah}{ts:TS}{V:RV}{x:EV}
include T
def Iv(w:ee V.an)(ox:bh B x)(we:kj x.ev .rel)(nk:sI V.an x.ev .rel)(s:cG B X x V W V)(hlen:ts.length=223)(t2:slot ts 2=.ptr X.length 0)(t3:slot ts 3=.ptr (X.length+1) 0)(t4:slot ts 4=.ptr (X.length+2) 0):
  WC P bJ (Ar 1) [] ts W (FQ [(4,some (some 7)),(5,none)] (rY B X V (bD V.an x.ev .rel) (du V.an x.ev .rel))):=by
 have ow:=ox.ext s.ex;have oV:=s.bk.o.ok;have RK:x.ev.kind=bA .rel:=cA we.kd;obtain⟨lr,le,sb,gm⟩:=cG.fa s;obtain⟨i0,d0⟩:=bN ow we 0 0 rfl De;unfold Ar fn227;simp only[ai.j,ai.s,ai.r,ai.dr,ai.tl];have k0:aP x.ev 0∈k5 V.an:=nk.kn 0 5 rfl;have hlt:bp (k5 V.an) (aP x.ev 0)<V.aI.length:=by have:=cY k0;simpa [k5,RV.an]using this
 have ei:de (λy:qm=>decide (y.name=aP x.ev 0)) V.aI=(bp (k5 V.an) (aP x.ev 0):Int):=fo (f:=qm.name) k0;have sp:jX V.an (aP x.ev 0)=V.aI[bp (k5 V.an) (aP x.ev 0)]:=dq k0;obtain⟨p,hp⟩:∃p,p=bp (k5 V.an) (aP x.ev 0):=⟨_,rfl⟩;rw[<-hp]at ei;have hlt:p<V.aI.length:=by rw[hp];exact hlt
 have sp:jX V.an (aP x.ev 0)=V.aI[p]:=by rw[sp];congr 1;exact hp.symm
 refine pa (AY t2 t3 t4 @le @lr @bC @aN @bd @aG @RK @gP @Zx @Zp @i0 @d0) ?_;refine WF.ce T.c57 (r57 T (oV.ext Xx) w.len _) λg1=>?_
 rw[ei];obtain⟨W2,Se⟩:∃Z,Z=W++g1:=⟨_,rfl⟩;rw[<-Se];have R1:cG B X x V W2 V:=by rw[Se];exact fh.grow s ⟨g1,rfl⟩
 have ow:=ox.ext R1.ex;have oV:=R1.bk.o.ok;obtain⟨lr,le,sb,gm⟩:=cG.fa R1;have ix:bf 4 V.s5 (.i (p:Int))=some (cI V.s5 4 p,.ar):=oV.i5.c8 hlt;have l3:∀{k:ah},Ext W2 k->ao none (lH V.s5 4 p 3) (λb=>k[b]?)=some (.bool (jX V.an (aP x.ev 0)).rel,.ar):=λ{k} e=>by rw[sp];exact oV.i5.p6 hlt rfl e
 cases h1:(jX V.an (aP x.ev 0)).rel with
 |true=>
  rw[h1]at l3;refine Rs (o8 t2 t3 t4 ix @l3 @lr @aG @fy @sb @gm) ?_;rw[bD,Zh h1];exact z91
 |false=>
  rw[h1]at l3;have Ta:bD V.an x.ev .rel=0:=by rw[bD,Za (by rw[h1];decide)]
  refine Rs (A7 t2 t3 t4 ix @l3 @lr @fy) ?_;refine WR.BX (B:=B) (x':={V.aI[p]with rel:=true}) (row:=cw) R1.bk.o.i5 R1.ex hlt De rfl rfl ?_;intro W5 x5 l5 hff hk5;have s5:cG B X x V W5 {V with aI:=V.aI.set p {V.aI[p]with rel:=true} }:=fh.q5 R1 hff (λi _ hne=>hk5 i hne) x5 Om;obtain⟨lr,_,sb,gm⟩:=cG.fa s5;refine Rs (A7 t2 t3 t4 @lr @aG @sb @gm) ?_;exact z182
def EB(w:ee V.an)(ox:bh B x)(we:kj x.ev .gu)(nk:sI V.an x.ev .gu)(s:cG B X x V W V)(hlen:ts.length=223)(t2:slot ts 2=.ptr X.length 0)(t3:slot ts 3=.ptr (X.length+1) 0)(t4:slot ts 4=.ptr (X.length+2) 0):
  WC P bJ (Ar 1) [] ts W (FQ [(4,some (some 7)),(5,none)] (rY B X V (bD V.an x.ev .gu) (du V.an x.ev .gu))):=by
 have ow:=ox.ext s.ex;have oV:=s.bk.o.ok;have RK:x.ev.kind=bA .gu:=cA we.kd;obtain⟨lr,le,sb,gm⟩:=cG.fa s;obtain⟨i0,d0⟩:=bN ow we 0 0 rfl De;obtain⟨i1,d1⟩:=bN ow we 1 1 rfl De;unfold Ar fn227;simp only[ai.j,ai.s,ai.r,ai.dr,ai.tl];have k1:aP x.ev 1∈iO V.an:=nk.kn 1 4 rfl;obtain⟨p,J,jx⟩:=OP k1;have ix:bf 3 V.s4 (.i (p:Int))=some (cI V.s4 3 p,.ar):=oV.i4.c8 jx.lt;refine pa (GH t2 t3 t4 @le @lr @bC @aN @bd @eO @aG @RK @gP @Zx @Zp @i1 @d1) ?_;refine WF.ce T.c56 (r56 T (oV.ext Xx) w.len _) λg1=>?_
 rw[jx.i];obtain⟨W2,Se⟩:∃Z,Z=W++g1:=⟨_,rfl⟩;rw[<-Se];have R1:cG B X x V W2 V:=by rw[Se];exact fh.grow s ⟨g1,rfl⟩
 have ow:=ox.ext R1.ex;have oV:=R1.bk.o.ok;obtain⟨lr,le,sb,gm⟩:=cG.fa R1;obtain⟨i0,d0⟩:=bN ow we 0 0 rfl De;obtain⟨i1,d1⟩:=bN ow we 1 1 rfl De;have ld:∀{k:ah},Ext W2 k->ao (some 3) (cI V.s4 3 p) (λb=>k[b]?)=some (.agg (bB J),.ar):=λ{k} e=>by rw[<-jx.at];exact oV.i4.gS jx.lt e
 have oJ:=oV.e4 J jx.m;have oJ1:=oJ.one;have hJ:=w.jb J.1 (Zu jx.m);unfold bB at ld;refine Rs (A6 t2 t3 t4 ix @ld @oJ1) ?_;obtain⟨jb,hjb⟩:∃n,n=W2.length:=⟨_,rfl⟩;rw[<-hjb];obtain⟨W3,R0⟩:∃Z,Z=W2++[ak.b [AV.str J.1.name,.str J.1.mod,J.2]]:=⟨_,rfl⟩;rw[<-R0];have R8:cG B X x V W3 V:=by rw[R0];exact fh.grow R1 ⟨[ak.b [AV.str J.1.name,.str J.1.mod,J.2]],rfl⟩
 have ow:=ox.ext R8.ex;have oV:=R8.bk.o.ok;obtain⟨lr,le,sb,gm⟩:=cG.fa R8;obtain⟨i0,d0⟩:=bN ow we 0 0 rfl De;obtain⟨i1,d1⟩:=bN ow we 1 1 rfl De;have mj:W3[jb]? =some (.b [AV.str J.1.name,.str J.1.mod,J.2]):=by rw[R0,hjb];exact a8
 have lj:=@dG _ _ _ mj;have oJ:=oV.e4 J jx.m;refine Rs (mN t2 t3 t4 @le @lr @bC @aN @bd @aG @i1 @d1) ?_;refine WF.ce T.c265 (r265 T (oV.ext Xx) w.len _) λg2=>?_
 obtain⟨W4,SB⟩:∃Z,Z=W3++g2:=⟨_,rfl⟩;rw[<-SB];have Tt:cG B X x V W4 V:=by rw[SB];exact fh.grow R8 ⟨g2,rfl⟩
 have ow:=ox.ext Tt.ex;have oV:=Tt.bk.o.ok;obtain⟨lr,le,sb,gm⟩:=cG.fa Tt;obtain⟨i0,d0⟩:=bN ow we 0 0 rfl De;obtain⟨i1,d1⟩:=bN ow we 1 1 rfl De;have mj:=(show Ext W3 W4 from⟨g2,SB⟩).some mj;have lj:=@dG _ _ _ mj;have oJ:=oV.e4 J jx.m;cases h1:qh V.an (aP x.ev 1)with
 |true=>
  refine Rs (A7 t2 t3 t4 @lr @aG @sb @gm) ?_;rw[bD,Zh h1];exact z148
 |false=>
 refine Rs (A5 t2 t3 t4 @lj @oJ1) ?_;refine WF.res T.c60 (r60 T (x:=J) (oJ.ext Xx) Om) ?_;rintro vl g3 Sy;obtain⟨W5,SX⟩:∃Z,Z=W4++g3:=⟨_,rfl⟩;rw[<-SX];have sW5:cG B X x V W5 V:=by rw[SX];exact fh.grow Tt ⟨g3,rfl⟩
 have ow:=ox.ext sW5.ex;have oV:=sW5.bk.o.ok;obtain⟨lr,le,sb,gm⟩:=cG.fa sW5;obtain⟨i0,d0⟩:=bN ow we 0 0 rfl De;obtain⟨i1,d1⟩:=bN ow we 1 1 rfl De;rw[<-SX]at Sy;have mj:=(show Ext W4 W5 from⟨g3,SX⟩).some mj;have lj:=@dG _ _ _ mj;have oJ:=oV.e4 J jx.m;rw[jx.e]at Sy;by_cases h2:cU (gB V.an (aP x.ev 1)).bt 0=[]
 case neg=>
  have e2:decide ((0:Int)<((cU (gB V.an (aP x.ev 1)).bt 0).length:Int))=true:=Y5 (by have:=aaU.2 h2;omega);refine Rs (A9 t2 t3 t4 Sy.aH e2 @lr @aG @sb @gm) ?_;rw[bD,Za (by rw[h1];decide),Zh h2];exact cG.fin sW5 (λz=>absurd z De)
 have e2:decide ((0:Int)<((cU (gB V.an (aP x.ev 1)).bt 0).length:Int))=false:=YW (by rw[h2];decide);by_cases h3:16<=V.aI.length
 case pos=>
  have e3:decide ((16:Int)<=(V.aI.length:Int))=true:=Y5 Om;refine Rs (pe t2 t3 t4 Sy.aH e2 @lr @fy oV.i5.aH e3 @aG @sb @gm) ?_;rw[bD,Za (by rw[h1];decide),Za (λz=>z h2),Zh (show 16<=V.an.aI.length from h3)];exact cG.fin sW5 (λz=>absurd z De)
 have e3:decide ((16:Int)<=(V.aI.length:Int))=false:=YW Om;have Ta:bD V.an x.ev .gu=0:=by rw[bD,Za (by rw[h1];decide),Za (λz=>z h2),Za (show ¬16<=V.an.aI.length from h3)]
 refine Rs (GG t2 t3 t4 @le @lr @bC @aN @bd Sy.aH e2 @fy oV.i5.aH e3 @i0 @d0 @i1 @d1 @lj) ?_;refine WF.ce T.c31 (r31 T (oJ.ext Xx) Om hJ.2.2.2) λg4=>?_
 rw[jx.e];obtain⟨W6,TA⟩:∃Z,Z=W5++g4:=⟨_,rfl⟩;rw[<-TA];have Wv:cG B X x V W6 V:=by rw[TA];exact fh.grow sW5 ⟨g4,rfl⟩
 have ow:=ox.ext Wv.ex;have oV:=Wv.bk.o.ok;obtain⟨lr,le,sb,gm⟩:=cG.fa Wv;obtain⟨y,hy⟩:∃y:qm,y=⟨aP x.ev 0,aP x.ev 1,gf (gB V.an (aP x.ev 1)).bt,false⟩:=⟨_,rfl⟩;obtain⟨z,hz⟩:∃z:List AV,z=cw y:=⟨_,rfl⟩;have SD:[AV.str (aP x.ev 0),.str (aP x.ev 1),.i (gf (gB V.an (aP x.ev 1)).bt),.bool false]=z:=by rw[hz,hy];rfl
 refine Rs (A3 t2 t3 t4) ?_;rw[SD];refine WR.pI (B:=B) (cs:=V.aI.map cw) (Wv.bk.o.i5) (by rw[hz];rfl) Wv.ex De (by rw[Y7];omega) ?_;intro W7 s' x5 hff hn5 q5 l5 hk5;have hrow:V.aI.map cw++[z]=(V.aI++[y]).map cw:=by rw[Y9,hz];rfl
 rw[hrow]at hff;have s5:cG B X x V (W7.set X.length (.b (V.row.set 6 s'))) {V with aI:=V.aI++[y],s5:=s'}:=fh.p5 Wv hff (λi hi=>.inr (abr (hn5 i hi))) hk5 x5 l5;have mB:W7[X.length]? =some (.b V.row):=(hk5 _ Wv.bk.lt (λz=>Wv.bk.ne (by rw[<-z];simp[RV.bl]))).trans Wv.bk.m;have Sc:aT 1 (.ptr X.length 6) s' (λz=>W7[z]?)=some (ay,.set X.length (.b (V.row.set 6 s'))):=(aJ mB).trans (bO q5 (by show 6+1<=7;omega));refine Rs (A5 t2 t3 t4 @Sc q5) ?_;obtain⟨W8,hW8⟩:∃Z,Z=W7.set X.length (.b (V.row.set 6 s')):=⟨_,rfl⟩;rw[<-hW8]at s5 ⊢;obtain⟨lr,_,sb,gm⟩:=cG.fa s5;refine Rs (A7 t2 t3 t4 @lr @aG @sb @gm) ?_
 rw[Ta];exact cG.fin s5 (λ_=>by rw[hy];rfl)
def EC(w:ee V.an)(ox:bh B x)(we:kj x.ev .fail)(nk:sI V.an x.ev .fail)(s:cG B X x V W V)(hlen:ts.length=223)(t2:slot ts 2=.ptr X.length 0)(t3:slot ts 3=.ptr (X.length+1) 0)(t4:slot ts 4=.ptr (X.length+2) 0):
  WC P bJ (Ar 1) [] ts W (FQ [(4,some (some 7)),(5,none)] (rY B X V (bD V.an x.ev .fail) (du V.an x.ev .fail))):=by
 have ow:=ox.ext s.ex;have oV:=s.bk.o.ok;have RK:x.ev.kind=bA .fail:=cA we.kd;obtain⟨lr,le,sb,gm⟩:=cG.fa s;obtain⟨i0,d0⟩:=bN ow we 0 0 rfl De;obtain⟨j1,f1,q1⟩:=cR ow we 1 1 rfl De;unfold Ar fn227;simp only[ai.j,ai.s,ai.r,ai.dr,ai.tl];have k0:aP x.ev 0∈iO V.an:=nk.kn 0 4 rfl;obtain⟨p,J,jx⟩:=OP k0;have ix:bf 3 V.s4 (.i (p:Int))=some (cI V.s4 3 p,.ar):=oV.i4.c8 jx.lt;refine pa (AY t2 t3 t4 @le @lr @bC @aN @bd @aG @RK @gP @Zx @Zp @i0 @d0) ?_;refine WF.ce T.c56 (r56 T (oV.ext Xx) w.len _) λg1=>?_
 rw[jx.i];obtain⟨W2,Se⟩:∃Z,Z=W++g1:=⟨_,rfl⟩;rw[<-Se];have R1:cG B X x V W2 V:=by rw[Se];exact fh.grow s ⟨g1,rfl⟩
 have ow:=ox.ext R1.ex;have oV:=R1.bk.o.ok;obtain⟨lr,le,sb,gm⟩:=cG.fa R1;obtain⟨i0,d0⟩:=bN ow we 0 0 rfl De;obtain⟨j1,f1,q1⟩:=cR ow we 1 1 rfl De;refine Rs (mN t2 t3 t4 @le @lr @bC @aN @bd @aG @i0 @d0) ?_;refine WF.ce T.c265 (r265 T (oV.ext Xx) w.len _) λg2=>?_
 obtain⟨W3,R0⟩:∃Z,Z=W2++g2:=⟨_,rfl⟩;rw[<-R0];have R8:cG B X x V W3 V:=by rw[R0];exact fh.grow R1 ⟨g2,rfl⟩
 have ow:=ox.ext R8.ex;have oV:=R8.bk.o.ok;obtain⟨lr,le,sb,gm⟩:=cG.fa R8;obtain⟨i0,d0⟩:=bN ow we 0 0 rfl De;obtain⟨j1,f1,q1⟩:=cR ow we 1 1 rfl De;have oJ:=oV.e4 J jx.m;have l2:∀{k:ah},Ext W3 k->ao none (lH V.s4 3 p 2) (λb=>k[b]?)=some (J.2,.ar):=λ{k} e=>oV.i4.p6 jx.lt (by rw[jx.at];rfl) e
 cases h1:qh V.an (aP x.ev 0)with
 |true=>
  refine Rs (A7 t2 t3 t4 @lr @aG @sb @gm) ?_;have hc:bD V.an x.ev .fail=23:=by
   exact JY
  rw[hc];exact Dj
 |false=>
 by_cases h2:(J.1.bt.length:Int)<=bF x.ev 1
 case pos=>
  have e2:decide ((J.1.bt.length:Int)<=bF x.ev 1)=true:=Y5 h2;refine Rs (GG t2 t3 t4 @le @lr @bC @aN @bd @eO @aG @j1 @f1 ix @l2 oJ.aH e2 @sb @gm) ?_;have hc:bD V.an x.ev .fail=3:=by
   exact z109
  rw[hc];exact Dj
 have e2:decide ((J.1.bt.length:Int)<=bF x.ev 1)=false:=YW h2;have hct:jQ V.an x.ev=0:=by rw[jQ,Za (by rw[h1];decide),<-jx.e,Za h2]
 have hsl:(bF x.ev 1).toNat<J.1.bt.length:=Om
 have Xn:bF x.ev 1=((bF x.ev 1).toNat:Int):=Om
 have iy:bf 1 J.2 (.i (bF x.ev 1))=some (cI J.2 1 (bF x.ev 1).toNat,.ar):=by
  rw[Xn];exact oJ.c8 hsl
 have hsu:fK V.an x.ev=J.1.bt[(bF x.ev 1).toNat]:=by
  exact z157
 have lv:∀{k:ah},Ext W3 k->ao none (cI J.2 1 (bF x.ev 1).toNat) (λb=>k[b]?)=some (.i (fK V.an x.ev),.ar):=λ{k} e=>by rw[hsu];exact oJ.kS hsl rfl e
 have UW:cI J.2 1 (bF x.ev 1).toNat=lH J.2 1 (bF x.ev 1).toNat 0:=rfl;by_cases h3:fK V.an x.ev<0
 case pos=>
  have e3:decide (fK V.an x.ev<0)=true:=Y5 h3;exact QF
 have e3:decide (fK V.an x.ev<0)=false:=YW h3;have Ta:bD V.an x.ev .fail=0:=by rw[bD,Za (λz=>z hct),Za h3]
 repeat (first|simp (config:={maxSteps:=1000000}) only[aO,aQ,aY,aZ,reduceAdd,reduceMul,reduceLeDiff,reduceEqDiff,ba,hlen,Zi,Zk,t2,t3,t4,le,lr,bC,aN,bd,aG,RK,gP,reduceCtorEq,Zx,Zp,eO,j1,f1,ix,l2,oJ.aH,e2,iy,lv,e3]|simp (config:={maxSteps:=1000000}) (disch:=first|(simp only[YT,YX,Y6]<;>omega)|rfl|omega|fail) only[dP,aO,aQ,aY,aZ,reduceAdd,reduceMul,reduceLeDiff,reduceEqDiff,ba,hlen,Zi,Zk,t2,t3,t4,le,lr,bC,aN,bd,aG,RK,gP,reduceCtorEq,Zx,Zp,eO,j1,f1,ix,l2,oJ.aH,e2,iy,lv,e3])
 rw[UW];have hfJ:Fr B.length W3 J.2 1 (J.1.bt.map aL):=R8.bk.o.e4 J jx.m;refine WR.BX (B:=B) (x':=(-1:Int)) (row:=aL) (L:=J.1.bt) hfJ R8.ex hsl De rfl rfl ?_;intro W5 x5 l5 hff hk5;have s5:cG B X x V W5 {V with aF:=V.aF.set p ({J.1 with bt:=J.1.bt.set (bF x.ev 1).toNat (-1:Int) },J.2) }:=by
  have YD:(V.aF[p]'jx.lt).2=J.2:=by rw[jx.at]
  have:=fh.qJ R8 (W2:=W5) jx.lt (y:={J.1 with bt:=J.1.bt.set (bF x.ev 1).toNat (-1:Int) }) (by rw[jx.at];exact⟨rfl,rfl⟩) (by rw[YD];exact hff) (λi _ hne=>hk5 i (by rw[<-YD];exact hne)) x5 Om;rw[YD]at this;exact this
 obtain⟨lr,_,sb,gm⟩:=cG.fa s5;refine Rs (A7 t2 t3 t4 @lr @aG @sb @gm) ?_;rw[Ta];refine cG.fin s5 (λ_=>?_);have e:mU V.an x.ev (-1:Int)=(V.aF.set p ({J.1 with bt:=J.1.bt.set (bF x.ev 1).toNat (-1:Int) },J.2)).map Prod.fst:=by
  rw[mU,<-jx.ps,<-jx.e,aa3];rfl
 rw[du,e];rfl
def EA(w:ee V.an)(ox:bh B x)(we:kj x.ev .fW)(nk:sI V.an x.ev .fW)(s:cG B X x V W V)(hlen:ts.length=223)(t2:slot ts 2=.ptr X.length 0)(t3:slot ts 3=.ptr (X.length+1) 0)(t4:slot ts 4=.ptr (X.length+2) 0):
  WC P bJ (Ar 1) [] ts W (FQ [(4,some (some 7)),(5,none)] (rY B X V (bD V.an x.ev .fW) (du V.an x.ev .fW))):=by
 have ow:=ox.ext s.ex;have oV:=s.bk.o.ok;have RK:x.ev.kind=bA .fW:=cA we.kd;obtain⟨lr,le,sb,gm⟩:=cG.fa s;obtain⟨i0,d0⟩:=bN ow we 0 0 rfl De;obtain⟨j1,f1,q1⟩:=cR ow we 1 1 rfl De;obtain⟨j2,f2,q2⟩:=cR ow we 2 2 rfl De;unfold Ar fn227;simp only[ai.j,ai.s,ai.r,ai.dr,ai.tl];have k0:aP x.ev 0∈iO V.an:=nk.kn 0 4 rfl;obtain⟨p,J,jx⟩:=OP k0;have ix:bf 3 V.s4 (.i (p:Int))=some (cI V.s4 3 p,.ar):=oV.i4.c8 jx.lt;refine pa (AY t2 t3 t4 @le @lr @bC @aN @bd @aG @RK @gP @Zx @Zp @i0 @d0) ?_;refine WF.ce T.c56 (r56 T (oV.ext Xx) w.len _) λg1=>?_
 rw[jx.i];obtain⟨W2,Se⟩:∃Z,Z=W++g1:=⟨_,rfl⟩;rw[<-Se];have R1:cG B X x V W2 V:=by rw[Se];exact fh.grow s ⟨g1,rfl⟩
 have ow:=ox.ext R1.ex;have oV:=R1.bk.o.ok;obtain⟨lr,le,sb,gm⟩:=cG.fa R1;obtain⟨i0,d0⟩:=bN ow we 0 0 rfl De;obtain⟨j1,f1,q1⟩:=cR ow we 1 1 rfl De;obtain⟨j2,f2,q2⟩:=cR ow we 2 2 rfl De;refine Rs (mN t2 t3 t4 @le @lr @bC @aN @bd @aG @i0 @d0) ?_;refine WF.ce T.c265 (r265 T (oV.ext Xx) w.len _) λg2=>?_
 obtain⟨W3,R0⟩:∃Z,Z=W2++g2:=⟨_,rfl⟩;rw[<-R0];have R8:cG B X x V W3 V:=by rw[R0];exact fh.grow R1 ⟨g2,rfl⟩
 have ow:=ox.ext R8.ex;have oV:=R8.bk.o.ok;obtain⟨lr,le,sb,gm⟩:=cG.fa R8;obtain⟨i0,d0⟩:=bN ow we 0 0 rfl De;obtain⟨j1,f1,q1⟩:=cR ow we 1 1 rfl De;obtain⟨j2,f2,q2⟩:=cR ow we 2 2 rfl De;have oJ:=oV.e4 J jx.m;have l2:∀{k:ah},Ext W3 k->ao none (lH V.s4 3 p 2) (λb=>k[b]?)=some (J.2,.ar):=λ{k} e=>oV.i4.p6 jx.lt (by rw[jx.at];rfl) e
 cases h1:qh V.an (aP x.ev 0)with
 |true=>
  refine Rs (A7 t2 t3 t4 @lr @aG @sb @gm) ?_;have hc:bD V.an x.ev .fW=23:=by
   exact JY
  rw[hc];exact Dj
 |false=>
 by_cases h2:(J.1.bt.length:Int)<=bF x.ev 1
 case pos=>
  have e2:decide ((J.1.bt.length:Int)<=bF x.ev 1)=true:=Y5 h2;refine Rs (GG t2 t3 t4 @le @lr @bC @aN @bd @eO @aG @j1 @f1 ix @l2 oJ.aH e2 @sb @gm) ?_;have hc:bD V.an x.ev .fW=3:=by
   exact z109
  rw[hc];exact Dj
 have e2:decide ((J.1.bt.length:Int)<=bF x.ev 1)=false:=YW h2;have hct:jQ V.an x.ev=0:=by rw[jQ,Za (by rw[h1];decide),<-jx.e,Za h2]
 have hsl:(bF x.ev 1).toNat<J.1.bt.length:=Om
 have Xn:bF x.ev 1=((bF x.ev 1).toNat:Int):=Om
 have iy:bf 1 J.2 (.i (bF x.ev 1))=some (cI J.2 1 (bF x.ev 1).toNat,.ar):=by
  rw[Xn];exact oJ.c8 hsl
 have hsu:fK V.an x.ev=J.1.bt[(bF x.ev 1).toNat]:=by
  exact z157
 have lv:∀{k:ah},Ext W3 k->ao none (cI J.2 1 (bF x.ev 1).toNat) (λb=>k[b]?)=some (.i (fK V.an x.ev),.ar):=λ{k} e=>by rw[hsu];exact oJ.kS hsl rfl e
 have UW:cI J.2 1 (bF x.ev 1).toNat=lH J.2 1 (bF x.ev 1).toNat 0:=rfl;by_cases h3:0<=fK V.an x.ev
 case pos=>
  have e3:decide (0<=fK V.an x.ev)=true:=Y5 h3;exact QF
 have e3:decide (0<=fK V.an x.ev)=false:=YW h3;have Ta:bD V.an x.ev .fW=0:=by rw[bD,Za (λz=>z hct),Za h3]
 repeat (first|simp (config:={maxSteps:=1000000}) only[aO,aQ,aY,aZ,reduceAdd,reduceMul,reduceLeDiff,reduceEqDiff,ba,hlen,Zi,Zk,t2,t3,t4,le,lr,bC,aN,bd,aG,RK,gP,reduceCtorEq,Zx,Zp,eO,j1,f1,j2,f2,ix,l2,oJ.aH,e2,iy,lv,e3]|simp (config:={maxSteps:=1000000}) (disch:=first|(simp only[YT,YX,Y6]<;>omega)|rfl|omega|fail) only[dP,aO,aQ,aY,aZ,reduceAdd,reduceMul,reduceLeDiff,reduceEqDiff,ba,hlen,Zi,Zk,t2,t3,t4,le,lr,bC,aN,bd,aG,RK,gP,reduceCtorEq,Zx,Zp,eO,j1,f1,j2,f2,ix,l2,oJ.aH,e2,iy,lv,e3])
 rw[UW];have hfJ:Fr B.length W3 J.2 1 (J.1.bt.map aL):=R8.bk.o.e4 J jx.m;refine WR.BX (B:=B) (x':=(bF x.ev 2)) (row:=aL) (L:=J.1.bt) hfJ R8.ex hsl De rfl rfl ?_;intro W5 x5 l5 hff hk5;have s5:cG B X x V W5 {V with aF:=V.aF.set p ({J.1 with bt:=J.1.bt.set (bF x.ev 1).toNat (bF x.ev 2) },J.2) }:=by
  have YD:(V.aF[p]'jx.lt).2=J.2:=by rw[jx.at]
  have:=fh.qJ R8 (W2:=W5) jx.lt (y:={J.1 with bt:=J.1.bt.set (bF x.ev 1).toNat (bF x.ev 2) }) (by rw[jx.at];exact⟨rfl,rfl⟩) (by rw[YD];exact hff) (λi _ hne=>hk5 i (by rw[<-YD];exact hne)) x5 Om;rw[YD]at this;exact this
 obtain⟨lr,_,sb,gm⟩:=cG.fa s5;refine Rs (A7 t2 t3 t4 @lr @aG @sb @gm) ?_;rw[Ta];refine cG.fin s5 (λ_=>?_);have e:mU V.an x.ev (bF x.ev 2)=(V.aF.set p ({J.1 with bt:=J.1.bt.set (bF x.ev 1).toNat (bF x.ev 2) },J.2)).map Prod.fst:=by
  rw[mU,<-jx.ps,<-jx.e,aa3];rfl
 rw[du,e];rfl
end
structure Rw(W Y:ah)(jb:Nat)(c:List AV)(t:AV)(k:Nat):Prop where
 l:W.length<=jb
 x:Ext W Y
 m:Y[jb]? =some (.b (c++[t]))
 f:Fr W.length Y t 1 ((List.replicate k (-1:Int)).map aL)
 n:sB t≠some jb
section
variable {P:Program}(T:fA P) {B X W:ah}{ts:TS}{V:RV}{x:EV}
include T
def Iu(w:ee V.an)(ox:bh B x)(we:kj x.ev .run)(nk:sI V.an x.ev .run)(s:cG B X x V W V)(hlen:ts.length=223)(t2:slot ts 2=.ptr X.length 0)(t3:slot ts 3=.ptr (X.length+1) 0)(t4:slot ts 4=.ptr (X.length+2) 0):
  WC P bJ (Ar 1) [] ts W (FQ [(4,some (some 7)),(5,none)] (rY B X V (bD V.an x.ev .run) (du V.an x.ev .run))):=by
 have ow:=ox.ext s.ex;have oV:=s.bk.o.ok;have RK:x.ev.kind=bA .run:=cA we.kd;obtain⟨lr,le,sb,gm⟩:=cG.fa s;obtain⟨i0,d0⟩:=bN ow we 0 0 rfl De;obtain⟨i1,d1⟩:=bN ow we 1 1 rfl De;obtain⟨j1,f1,q1⟩:=cR ow we 1 1 rfl De;unfold Ar fn227;simp only[ai.j,ai.s,ai.r,ai.dr,ai.tl];have k1:aP x.ev 1∈gV V.an:=nk.kn 1 3 rfl;refine pa (AY t2 t3 t4 @le @lr @bC @aN @bd @aG @RK @gP @Zx @Zp @i1 @d1) ?_;refine WF.res T.c59 (r59 T (oV.ext Xx) w _) ?_;rintro ns g1 hns;obtain⟨W2,Se⟩:∃Z,Z=W++g1:=⟨_,rfl⟩;rw[<-Se];have R1:cG B X x V W2 V:=by rw[Se];exact fh.grow s ⟨g1,rfl⟩
 have ow:=ox.ext R1.ex;have oV:=R1.bk.o.ok;obtain⟨lr,le,sb,gm⟩:=cG.fa R1;rw[<-Se]at hns;obtain⟨S,hS⟩:∃S,S=iT V.an (aP x.ev 1):=⟨_,rfl⟩;rw[<-hS]at hns;have hSm:∀y∈S,y∈V.an.lines:=λy hy=>by rw[hS,iT]at hy;exact(aag.1 hy).1
 have hSl:S.length<=16:=by
  have h1:S.length<=V.an.lines.length:=by rw[hS,iT];exact ZM _ _
  have:=w.l0;omega
 rw[aaE]at hns;refine Rs (A3 t2 t3 t4) ?_;refine WL.inv T.mix (λm ts h'=>∃(k:Nat) (g:ah),k<=S.length/\m=S.length-k/\h' =W2++g/\(∀y∈S.take k,y.acc=true)/\ts.length=223/\slot ts 2=.ptr X.length 0/\slot ts 3=.ptr (X.length+1) 0/\slot ts 4=.ptr (X.length+2) 0/\slot ts 6=ns/\slot ts 7=.i k) S.length
  ⟨0,[],Om,rfl,by rw[Zr],(λy hy=>by cases hy),Sn,(Sq t2),(Sq t3),(Sq t4),Sw,fV⟩ ?_
 clear t2 t3 t4 hlen;rintro _ ts _ ⟨k,g,hk,rfl,rfl,hsf,hlen,t2,t3,t4,t6,t7⟩;obtain⟨W3,R0⟩:∃Z,Z=W2++g:=⟨_,rfl⟩;rw[<-R0];have R8:cG B X x V W3 V:=by rw[R0];exact fh.grow R1 ⟨g,rfl⟩
 have ow:=ox.ext R8.ex;have oV:=R8.bk.o.ok;obtain⟨lr,le,sb,gm⟩:=cG.fa R8;have e23:Ext W2 W3:=⟨g,R0⟩;have hns:=hns.ext e23;by_cases SQ:k<S.length
 ·have e3:decide ((k:Int)<S.length)=true:=Y5 Om;have e5:=wrapN (n:=k) Om;have iy:=hns.c8 (kk:=.i64) SQ;obtain⟨y,hy⟩:∃y,y=S[k]:=⟨_,rfl⟩;have SI:y∈V.an.lines:=hSm y (by rw[hy];exact Zb _);have lf:∀{kk:ah},Ext W3 kk->ao none (cI ns 1 k) (λb=>kk[b]?)=some (.str y.name,.ar):=λ{kk} e=>hns.kS SQ (by rw[<-hy];rfl) e
  have Un:y.name∈gJ V.an:=Zu SI;have hps:=cY Un;have T2:bp (gJ V.an) y.name<V.lines.length:=by simpa [gJ,RV.an]using hps
  have iz:bf 3 V.s0 (.i ((bp (gJ V.an) y.name:Nat):Int))=some (cI V.s0 3 (bp (gJ V.an) y.name),.ar):=oV.i0.c8 T2;have huy:V.lines[bp (gJ V.an) y.name]=y:=by
   have a1:dN V.an y.name=y:=uh w.n0.nd SI;rw[dN,dq (f:=gZ.name) (l:=V.an.lines) (d:=B4) Un]at a1;exact a1
  have ly:∀{kk:ah},Ext W3 kk->ao none (lH V.s0 3 (bp (gJ V.an) y.name) 2) (λb=>kk[b]?)=some (.bool y.acc,.ar):=λ{kk} e=>oV.i0.p6 T2 (by rw[huy];rfl) e
  refine Rs (pe t2 t3 t4 t6 t7 hns.aH e3 @lr @eP @aG @iy @lf) ?_;refine WF.ce T.c28 (r28 T (oV.ext Xx) w.len _) λg3=>?_
  have ej:de (λy':gZ=>decide (y'.name=y.name)) V.lines=(bp (gJ V.an) y.name:Int):=fo (f:=gZ.name) Un;rw[ej];cases h4:y.acc with
  |false=>
   rw[h4]at ly;refine Rs (pe t2 t3 t4 t6 t7 @iz @ly @Zz @lr @aG @sb @gm) ?_;rw[bD,Zh (by rw[<-hS];exact aaD.2 ⟨y,by rw[hy];exact Zb _,by rw[h4];rfl⟩)];exact cG.fin (fh.grow R8 ⟨g3,rfl⟩) (λz=>absurd z De)
  |true=>
   rw[h4]at ly;refine Rs (A9 t2 t3 t4 t6 t7 @iz @ly @Zw e5) ?_;refine⟨_,Om,k+1,g++g3,Om,rfl,by rw[R0];simp only[YV],?_,rfl⟩;intro y' hy';exact Qn
 have e3:decide ((k:Int)<S.length)=false:=YW Om;have e4:k=S.length:=Om
 rw[e4,ZD]at hsf;have hne:¬(iT V.an (aP x.ev 1)).any (λx=>!x.acc)=true:=by
  exact JS
 obtain⟨i0,d0⟩:=bN ow we 0 0 rfl De;obtain⟨i1,d1⟩:=bN ow we 1 1 rfl De;obtain⟨j1,f1,q1⟩:=cR ow we 1 1 rfl De;refine Rs (zt t2 t3 t4 @le @lr @bC @aN @bd t6 t7 hns.aH e3 @j1 @f1) ?_;refine WF.ce T.c20 (r20 T _ _ _) λg4=>?_
 obtain⟨W4,SB⟩:∃Z,Z=W3++g4:=⟨_,rfl⟩;rw[<-SB];have Tt:cG B X x V W4 V:=by rw[SB];exact fh.grow R8 ⟨g4,rfl⟩
 have ow:=ox.ext Tt.ex;have oV:=Tt.bk.o.ok;obtain⟨lr,le,sb,gm⟩:=cG.fa Tt;obtain⟨i0,d0⟩:=bN ow we 0 0 rfl De;obtain⟨i1,d1⟩:=bN ow we 1 1 rfl De;obtain⟨j1,f1,q1⟩:=cR ow we 1 1 rfl De;by_cases h1:bu (bF x.ev 1) 1 32=0
 case neg=>
  have e1:decide (bu (bF x.ev 1) 1 32≠0)=true:=Y5 h1;refine Rs (A8 t2 t3 t4 e1 @lr @aG @sb @gm) ?_;rw[bD,Za hne,Zh h1];exact z148
 have e1:decide (bu (bF x.ev 1) 1 32≠0)=false:=YW (λz=>z h1);have T5:V.an.aF.length=V.aF.length:=by simp[RV.an]
 by_cases h2:16<=V.aF.length
 case pos=>
  have e2:decide ((16:Int)<=(V.aF.length:Int))=true:=Y5 Om;refine Rs (mN t2 t3 t4 e1 @lr @eO oV.i4.aH e2 @aG @sb @gm) ?_;rw[bD,Za hne,Za (λz=>z h1),Zh (by rw[T5];exact h2)];exact z148
 have e2:decide ((16:Int)<=(V.aF.length:Int))=false:=YW Om;have Ta:bD V.an x.ev .run=0:=by rw[bD,Za hne,Za (λz=>z h1),Za (by rw[T5];exact h2)]
 have hr:=hP (λz=>z h1);obtain⟨n,hn⟩:∃n:Nat,n=(bF x.ev 1).toNat:=⟨_,rfl⟩;have hnv:bF x.ev 1=(n:Int):=Om
 have hn32:n<=32:=Om
 obtain⟨jb,hjb⟩:∃n,n=W4.length:=⟨_,rfl⟩;refine Rs (GH t2 t3 t4 @le @lr @bC @aN @bd e1 @eO oV.i4.aH e2 @i0 @d0 @i1 @d1) ?_;rw[<-hjb];refine WL.inv T.mix (λm ts Y=>∃(k:Nat) (t:AV),k<=n/\m=n-k/\Rw W4 Y jb [AV.str (aP x.ev 0),.str (aP x.ev 1)] t k/\ts.length=223/\slot ts 2=.ptr X.length 0/\slot ts 3=.ptr (X.length+1) 0/\slot ts 4=.ptr (X.length+2) 0/\slot ts 8=.ptr jb 0/\slot ts 9=.i k) n
  ⟨0,.af,Om,rfl,⟨Om,⟨_,rfl⟩,by rw[hjb];exact a8,.nil,by simp[sB]⟩,Sn,(Sq t2),(Sq t3),(Sq t4),Sw,fV⟩ ?_
 clear t2 t3 t4 t6 t7 hlen;rintro _ ts Y ⟨k',t,hk',rfl,hb,hlen,t2,t3,t4,t8,t9⟩;have sY:cG B X x V Y V:=fh.grow Tt hb.x;have ow:=ox.ext sY.ex;have oV:=sY.bk.o.ok;obtain⟨lr,le,sb,gm⟩:=cG.fa sY;obtain⟨j1,f1,q1⟩:=cR ow we 1 1 rfl De;have lj:=@dG _ _ _ hb.m;have ot:=hb.f.aW.one;have YC:=(YU.1 hb.m).1;by_cases hlt3:k'<n
 ·have e6:decide ((k':Int)<bF x.ev 1)=true:=Y5 Om;have e7:IntKind.i64.wrap ((k':Int)+1)=((k'+1:Nat):Int):=wrapN Om;refine Rs (zt t2 t3 t4 @le @lr @bC @aN @bd t8 t9 @j1 @f1 e6 @lj) ?_;refine WR.pI (B:=W4) (cs:=(List.replicate k' (-1:Int)).map aL) hb.f rfl hb.x De (by simp only[Y7,Z9];omega) ?_;intro W5 s' x5 hff hn5 q5 l5 hk5;have hrow:(List.replicate k' (-1:Int)).map aL++[[AV.i (-1)]]=(List.replicate (k'+1) (-1:Int)).map aL:=by rw[List.replicate_succ',Y9];rfl
  rw[hrow]at hff;have m5:W5[jb]? =some (.b [AV.str (aP x.ev 0),.str (aP x.ev 1),t]):=(hk5 jb YC hb.n).trans hb.m;have Sc:aT 1 (.ptr jb 2) s' (λz=>W5[z]?)=some (ay,.set jb (.b [AV.str (aP x.ev 0),.str (aP x.ev 1),s'])):=(aJ m5).trans (bO q5 (by show 2+1<=3;omega));have hs'j:∀i,sB s' =some i->i≠jb:=λi hi=>by have:=hn5 i hi;omega
  refine Rs (A8 t2 t3 t4 t8 t9 @Sc q5 e7) ?_;refine⟨_,Om,k'+1,s',Om,rfl,⟨hb.l,x5.fX hb.l,Zg Om,hff.aD λi hi=>Zf (aai (hs'j i hi)),λe=>hs'j _ e rfl⟩,rfl⟩
 ·have e6:decide ((k':Int)<bF x.ev 1)=false:=YW Om;have ekn:k' =n:=Om
  obtain⟨y,hy⟩:∃y:kY,y=⟨aP x.ev 0,aP x.ev 1,List.replicate n (-1)⟩:=⟨_,rfl⟩;obtain⟨z,hz⟩:∃z:List AV,z=bB (y,t):=⟨_,rfl⟩;have SD:[AV.str (aP x.ev 0),.str (aP x.ev 1),t]=z:=by rw[hz,hy];rfl
  have hbf:=hb.f;rw[ekn]at hbf;refine Rs (GH t2 t3 t4 @le @lr @bC @aN @bd t8 t9 @j1 @f1 e6 @eO @lj @ot) ?_;rw[SD];refine WR.pI (B:=B) (cs:=V.aF.map bB) (sY.bk.o.i4) (by rw[hz];rfl) sY.ex De (by rw[Y7];omega) ?_;intro W5 s' x5 hff hn5 q5 l5 hk5;have hrow:V.aF.map bB++[z]=(V.aF++[(y,t)]).map bB:=by rw[Y9,hz];rfl
  rw[hrow]at hff;have hlW:W4.length<=Y.length:=hb.x.len;have bV:∀i,sB t=some i->sB V.s4≠some i:=λi hi e=>by
   have h1:=(hbf.bP hi).1;have h2:=(Tt.bk.o.dR (b:=i) (by rw[<-e];simp[RV.bl])).2;omega
  have f5:Fr B.length W5 t 1 (y.bt.map aL):=by
   rw[hy];exact(hbf.aD λi hi=>hk5 i (hbf.bP hi).2 (bV i hi)).low Tt.ex.len
  have s5:cG B X x V (W5.set X.length (.b (V.row.set 5 s'))) {V with aF:=V.aF++[(y,t)],s4:=s'}:=fh.p4 Tt hff f5 (λi hi=>.inr (by have:=hn5 i hi;omega)) (λi hi=>⟨(hbf.bP hi).1,λe=>by have:=hn5 i e;have:=(hbf.bP hi).2;omega⟩) (λi hi hne=>(hk5 i Om hne).trans (hb.x.get hi)) x5 Om;have mB:W5[X.length]? =some (.b V.row):=(hk5 _ sY.bk.lt (λz=>sY.bk.ne (by rw[<-z];simp[RV.bl]))).trans sY.bk.m;have Sc:aT 1 (.ptr X.length 5) s' (λz=>W5[z]?)=some (ay,.set X.length (.b (V.row.set 5 s'))):=(aJ mB).trans (bO q5 (by show 5+1<=7;omega));refine Rs (A7 t2 t3 t4 t8 t9 @Sc q5) ?_;obtain⟨W6,TA⟩:∃Z,Z=W5.set X.length (.b (V.row.set 5 s')):=⟨_,rfl⟩
  rw[<-TA]at s5 ⊢;obtain⟨lr,_,sb,gm⟩:=cG.fa s5;refine Rs (A9 t2 t3 t4 t8 t9 @lr @aG @sb @gm) ?_;rw[Ta];exact cG.fin s5 (λ_=>by simp only[RV.an,Y9,ZX,aaC,du,hy,hn])
def Cl{d}(hd:d=.run\/d=.fW\/d=.fail\/d=.gu\/d=.rel)(o:cJ B.length X V)(w:ee V.an)(hx:Ext B X)(ox:bh B x)(we:kj x.ev d)(nk:sI V.an x.ev d):
  dh P 227 [.agg V.row,.agg x.row] X (rY B X V (bD V.an x.ev d) (du V.an x.ev d)):=by
 refine .of T.mix (abn T.c227 (Zv some PB)) ?_;obtain⟨ts,RD⟩:∃ts,ts=aV 223 [.agg V.row,.agg x.row]:=⟨_,rfl⟩;have hlen:ts.length=223:=by rw[RD];rfl
 have t0:slot ts 0=.agg V.row:=by rw[RD];rfl
 have t1:slot ts 1=.agg x.row:=by rw[RD];rfl
 show WC P bJ (.seq (PC 0) (Ar 1)) [] (aV 223 [.agg V.row,.agg x.row]) X (FQ [(4,some (some 7)),(5,none)] (rY B X V (bD V.an x.ev d) (du V.an x.ev d)));rw[<-RD];clear RD;have Rz:=@aB.box _ _ o.ok;have hex:=@bh.box _ _ (ox.ext hx);have s:cG B X x V (X++[.b V.row]++[.b x.row]++[.b js]) V:=F3 o hx;unfold js at s;generalize hR:Ar 1=R;unfold PC fn227;simp only[ai.dr,ai.hd];refine Rs (A4 t0 t1 @Rz @hex) ?_;rw[<-hR];rcases hd with rfl|rfl|rfl|rfl|rfl
 ·exact Iu T w ox we nk s Sn Sw (by simp only[aO,aQ,aY,aZ,reduceAdd,reduceMul,reduceLeDiff,reduceEqDiff,ba,hlen,Zi,Zk];simp) (by simp only[aO,aQ,aY,aZ,reduceAdd,reduceMul,reduceLeDiff,reduceEqDiff,ba,hlen,Zi,Zk];simp)
 ·exact EA T w ox we nk s Sn Sw (by simp only[aO,aQ,aY,aZ,reduceAdd,reduceMul,reduceLeDiff,reduceEqDiff,ba,hlen,Zi,Zk];simp) (by simp only[aO,aQ,aY,aZ,reduceAdd,reduceMul,reduceLeDiff,reduceEqDiff,ba,hlen,Zi,Zk];simp)
 ·exact EC T w ox we nk s Sn Sw (by simp only[aO,aQ,aY,aZ,reduceAdd,reduceMul,reduceLeDiff,reduceEqDiff,ba,hlen,Zi,Zk];simp) (by simp only[aO,aQ,aY,aZ,reduceAdd,reduceMul,reduceLeDiff,reduceEqDiff,ba,hlen,Zi,Zk];simp)
 ·exact EB T w ox we nk s Sn Sw (by simp only[aO,aQ,aY,aZ,reduceAdd,reduceMul,reduceLeDiff,reduceEqDiff,ba,hlen,Zi,Zk];simp) (by simp only[aO,aQ,aY,aZ,reduceAdd,reduceMul,reduceLeDiff,reduceEqDiff,ba,hlen,Zi,Zk];simp)
 ·exact Iv T w ox we nk s Sn Sw (by simp only[aO,aQ,aY,aZ,reduceAdd,reduceMul,reduceLeDiff,reduceEqDiff,ba,hlen,Zi,Zk];simp) (by simp only[aO,aQ,aY,aZ,reduceAdd,reduceMul,reduceLeDiff,reduceEqDiff,ba,hlen,Zi,Zk];simp)
end
def ux(k:Nat):ai:=(fn129).body.dr k
def C0(k:Nat):ai:=((fn129).body.dr k).hd
def PV:fn129=⟨63,2,[(4,some (some 7)),(5,none)],.seq (C0 0) (ux 1)⟩:=rfl
def Ms:ux 1=.seq (C0 1) (ux 2):=rfl
def PU:ux 2=.seq (C0 2) (ux 3):=rfl
def PT:ux 3=.seq (C0 3) (ux 4):=rfl
def PS:ux 4=.seq (C0 4) (ux 5):=rfl
def Jm(h:ah)(c:Int)(R':dJ):AV->ah->Prop:=λv k=>Ext h k/\∃V':RV,v=.dL [.agg V'.row,.i c]/\aB k V'/\(c=0->V'.an=R'/\∀i,some i∈V'.bl->h.length<=i)
def aB.FO{h:ah}{V:RV}(o:aB h V){W:ah}{b:Nat}(hz:W[b]? =some (.b js)):aT 7 (.ptr b 0) (.agg V.row) (λz=>W[z]?)=some (ay,.set b (.b V.row)):=by
 have h1:=@aJ 7 b 0 (.agg V.row) (λz=>W[z]?) _ hz;have st:=@aB.st _ _ o;unfold js at h1;rw[st]at h1;exact h1
def aB.QO{h:ah}{V U:RV}(o:aB h V){W:ah}{b:Nat}(hz:W[b]? =some (.b U.row)):aT 7 (.ptr b 0) (.agg V.row) (λz=>W[z]?)=some (ay,.set b (.b V.row)):=by
 have h1:=@aJ 7 b 0 (.agg V.row) (λz=>W[z]?) _ hz;rw[h1];exact o.st
def ka{W:ah}{b:Nat}{V:RV}(hb:b<W.length):ao (some 7) (.ptr b 0) (λz=>(W.set b (.b V.row))[z]?)=some (.agg V.row,.ar):=by
 rw[az (Zg hb)];rfl
section
variable {P:Program}(T:fA P) {h K:ah}{ts:TS}{V U:RV}{x:EV}
include T
def IK{d:Kd}{ob:Nat}{c:Int}{R':dJ}(we:kj x.ev d)(hd:d≠.eZ)(ox:bh h x)(hx:Ext h K)(hob:h.length+2<ob)(mo:K[ob]? =some (.b U.row))(me:K[h.length+1]? =some (.b x.row))(mr:K[h.length+2]? =some (.b js))
  (oU:aB K U) (hU:∀i,some i∈U.bl->h.length+2<i/\i≠ob) (hc:c=0->{U.an with tick:=bF x.ev 0} =R') (hlen:ts.length=63) (t3:slot ts 3=.ptr (h.length+1) 0) (t4:slot ts 4=.ptr (h.length+2) 0) (t7:slot ts 7=.ptr ob 0) (t8:slot ts 8=.i c):
  WC P bJ (ux 5) [] ts K (FQ [(4,some (some 7)),(5,none)] (Jm h c R')):=by
 have:=T.mix;have Yn:0<cE d:=by cases d<;>first|exact absurd rfl hd|decide
 have ow:=ox.ext hx;obtain⟨j0,f0,_⟩:=cR ow we 0 0 rfl Yn;have le:=@dG _ _ _ me;obtain⟨V2,hV2⟩:∃V2:RV,V2={U with tick:=bF x.ev 0}:=⟨_,rfl⟩;have hrow:U.row.set 0 (.i (bF x.ev 0))=V2.row:=by rw[hV2];rfl
 have sbo:aT 1 (.ptr ob 0) (.i (bF x.ev 0)) (λz=>K[z]?)=some (ay,.set ob (.b V2.row)):=by
  rw[<-hrow];exact(aJ mo).trans (bO rfl (by show 0+1<=7;omega))
 unfold ux fn129 gA;simp only[ai.j,ai.s,ai.r,ai.dr,ai.tl];refine Rs (A9 t3 t4 t7 t8 @le @bd @j0 @f0 @sbo) ?_;have hbo:=(YU.1 mo).1;have hbr:=(YU.1 mr).1;obtain⟨K1,Ve⟩:∃Z,Z=K.set ob (.b V2.row):=⟨_,rfl⟩;rw[<-Ve];have mo1:K1[ob]? =some (.b V2.row):=by rw[Ve];exact Zg hbo
 have mr1:K1[h.length+2]? =some (.b js):=by rw[Ve,Zf Om];exact mr
 have l1:K1.length=K.length:=by rw[Ve,ZI]
 have lo:=@dG _ _ _ mo1;have oV:aB K V2:=by rw[hV2];exact⟨oU.i0,oU.i1,oU.i2,oU.i3,oU.i4,oU.i5,oU.e2,oU.e3,oU.e4⟩
 have sb:=oV.FO mr1;have gm:=ka (W:=K1) (b:=h.length+2) (V:=V2) Om;refine Rs (A8 t3 t4 t7 t8 @lo @aG @sb @gm) ?_;refine⟨?_,V2,rfl,oV.ar λi hi=>?_,λz=>⟨by rw[<-hc z,hV2];rfl,λi hi=>?_⟩⟩
 ·rw[Ve];exact(hx.fX Om).fX Om
 ·have:some i∈U.bl:=by rw[hV2]at hi;exact hi
  have:=hU i this;rw[Zf Om,Ve,Zf Om]
 ·have:some i∈U.bl:=by rw[hV2]at hi;exact hi
  have:=hU i this;omega
def Mr{d:Kd}{B X:ah}{ob:Nat}(we:kj x.ev d)(hd:d≠.eZ)(nk:sI U.an x.ev d)(w:ee U.an)(ox:bh h x)(hB:Ext h B)(hx:Ext B X)(hob:ob<X.length)(hbo:B.length<=ob)(hBl:h.length+3<=B.length)(mo:X[ob]? =some (.b U.row))(me:B[h.length+1]? =some (.b x.row))(mr:B[h.length+2]? =some (.b js))
  (o:cJ B.length X U) (hU:some ob∉U.bl) (hlen:ts.length=63) (t3:slot ts 3=.ptr (h.length+1) 0) (t4:slot ts 4=.ptr (h.length+2) 0) (t7:slot ts 7=.ptr ob 0):
  WC P bJ (ux 4) [] ts X (FQ [(4,some (some 7)),(5,none)] (Jm h (bD U.an x.ev d) (jZ U.an x.ev d))):=by
 have RK:x.ev.kind=bA d:=cA we.kd;have le:∀{k n a},Ext X k->ao n (.ptr (h.length+1) a) (λz=>k[z]?)=dC n a (.b x.row):=λ{_ _ _} e=>az ((hx.trans e).some me)
 have lo:=@dG _ _ _ mo;have oB:=ox.ext hB;rw[PS];generalize hR:ux 5=R;unfold C0 fn129 gA;simp only[ai.j,ai.s,ai.r,ai.dr,ai.tl,ai.hd];have fin:∀{v:AV}{k:ah},rY B X U (bD U.an x.ev d) (du U.an x.ev d) v k->∃V2:RV,v=.dL [.agg V2.row,.i (bD U.an x.ev d)]/\aT 7 (.ptr ob 0) (.agg V2.row) (λz=>k[z]?)=some (ay,.set ob (.b V2.row))/\
   (∀ts':TS,ts'.length=63->slot ts' 3=.ptr (h.length+1) 0->slot ts' 4=.ptr (h.length+2) 0->slot ts' 7=.ptr ob 0->slot ts' 8=.i (bD U.an x.ev d)->WC P bJ R [] ts' (k.set ob (.b V2.row)) (FQ [(4,some (some 7)),(5,none)] (Jm h (bD U.an x.ev d) (jZ U.an x.ev d)))):=by
  rintro v k ⟨x1,hl,hfr,V2,rfl,o2,hc,hlo⟩;have mo2:k[ob]? =some (.b U.row):=(hfr ob hob hU).trans mo;have hV2:∀i,some i∈V2.bl->B.length<=i/\i≠ob:=λi hi=>⟨(o2.dR hi).1,λe=>by
   subst e;rcases hlo _ hi with z|z
   ·exact hU z
   ·omega⟩
  refine⟨V2,rfl,o2.ok.QO mo2,λts' RJ u3 u4 u7 u8=>?_⟩;rw[<-hR];refine IK T we hd ox ((hB.trans x1).fX Om) Om (Zg (YU.1 mo2).1) ?_ ?_ (o2.ok.ar λi hi=>?_) (λi hi=>?_) (λz=>?_) RJ u3 u4 u7 u8
  ·rw[Zf Om];exact x1.some me
  ·rw[Zf Om];exact x1.some mr
  ·rw[Zf (aai (hV2 i hi).2)]
  ·have:=hV2 i hi;exact⟨Om,this.2⟩
  ·rw[hc z];rfl
 cases d with
 |eZ=>exact absurd rfl hd
 |line=>
  refine pa (pe @t3 @t4 @t7 @le @lo @bC @bR @aG @RK @gP @Zx @Zp) ?_;refine WF.gen T.c225 (Cm T (d:=.line) De o w hx oB we nk) ?_;intro v k hv;exact z3
 |tape=>
  refine pa (pe @t3 @t4 @t7 @le @lo @bC @bR @aG @RK @gP @Zx @Zp) ?_;refine WF.gen T.c225 (Cm T (d:=.tape) De o w hx oB we nk) ?_;intro v k hv;exact z3
 |gq=>
  refine pa (pe @t3 @t4 @t7 @le @lo @bC @bR @aG @RK @gP @Zx @Zp) ?_;refine WF.gen T.c225 (Cm T (d:=.gq) De o w hx oB we nk) ?_;intro v k hv;exact z3
 |copy=>
  refine pa (pe @t3 @t4 @t7 @le @lo @bC @bR @aG @RK @gP @Zx @Zp) ?_;refine WF.gen T.c225 (Cm T (d:=.copy) De o w hx oB we nk) ?_;intro v k hv;exact z3
 |accept=>
  refine pa (pe @t3 @t4 @t7 @le @lo @bC @bR @aG @RK @gP @Zx @Zp) ?_;refine WF.gen T.c225 (Cm T (d:=.accept) De o w hx oB we nk) ?_;intro v k hv;exact z3
 |source=>
  refine pa (pe @t3 @t4 @t7 @le @lo @bC @bR @aG @RK @gP @Zx @Zp) ?_;refine WF.gen T.c226 (HZ T (d:=.source) De o w hx oB we nk) ?_;intro v k hv;exact z3
 |fZ=>
  refine pa (pe @t3 @t4 @t7 @le @lo @bC @bR @aG @RK @gP @Zx @Zp) ?_;refine WF.gen T.c226 (HZ T (d:=.fZ) De o w hx oB we nk) ?_;intro v k hv;exact z3
 |merge=>
  refine pa (pe @t3 @t4 @t7 @le @lo @bC @bR @aG @RK @gP @Zx @Zp) ?_;refine WF.gen T.c226 (HZ T (d:=.merge) De o w hx oB we nk) ?_;intro v k hv;exact z3
 |run=>
  refine pa (pe @t3 @t4 @t7 @le @lo @bC @bR @aG @RK @gP @Zx @Zp) ?_;refine WF.gen T.c227 (Cl T (d:=.run) De o w hx oB we nk) ?_;intro v k hv;exact z3
 |fW=>
  refine pa (pe @t3 @t4 @t7 @le @lo @bC @bR @aG @RK @gP @Zx @Zp) ?_;refine WF.gen T.c227 (Cl T (d:=.fW) De o w hx oB we nk) ?_;intro v k hv;exact z3
 |fail=>
  refine pa (pe @t3 @t4 @t7 @le @lo @bC @bR @aG @RK @gP @Zx @Zp) ?_;refine WF.gen T.c227 (Cl T (d:=.fail) De o w hx oB we nk) ?_;intro v k hv;exact z3
 |gu=>
  refine pa (pe @t3 @t4 @t7 @le @lo @bC @bR @aG @RK @gP @Zx @Zp) ?_;refine WF.gen T.c227 (Cl T (d:=.gu) De o w hx oB we nk) ?_;intro v k hv;exact z3
 |rel=>
  refine pa (pe @t3 @t4 @t7 @le @lo @bC @bR @aG @RK @gP @Zx @Zp) ?_;refine WF.gen T.c227 (Cl T (d:=.rel) De o w hx oB we nk) ?_;intro v k hv;exact z3
def IJ{d:Kd}{H:ah}(hH:H=h++[ak.b V.row]++[.b x.row]++[.b js])(o:aB h V)(w:ee V.an)(ox:bh h x)(we:kj x.ev d)(hd:d≠.eZ)(hlen:ts.length=63)(t2:slot ts 2=.ptr h.length 0)(t3:slot ts 3=.ptr (h.length+1) 0)(t4:slot ts 4=.ptr (h.length+2) 0):
  WC P bJ (ux 1) [] ts H (FQ [(4,some (some 7)),(5,none)] (Jm h (gQ V.an x.ev d) (jZ V.an x.ev d))):=by
 have Yn:0<cE d:=by cases d<;>first|exact absurd rfl hd|decide
 have Sj:Ext h H:=by rw[hH];exact Xx
 have Vf:H.length=h.length+3:=by rw[hH];simp
 have mV:H[h.length]? =some (.b V.row):=by rw[hH];simp
 have me:H[h.length+1]? =some (.b x.row):=by rw[hH];simp
 have mr:H[h.length+2]? =some (.b js):=by rw[hH];simp
 clear hH;have ow:=ox.ext Sj;have oW:=o.ext Sj;obtain⟨j0,f0,_⟩:=cR ow we 0 0 rfl Yn;have lr:=@dG _ _ _ mV;have le:=@dG _ _ _ me;have sb:∀{k},Ext H k->aT 7 (.ptr (h.length+2) 0) (.agg V.row) (λz=>k[z]?)=some (ay,.set (h.length+2) (.b V.row)):=λ{_} e=>(o.ext (Sj.trans e)).FO (e.some mr)
 have gm:∀{k},Ext H k->ao (some 7) (.ptr (h.length+2) 0) (λz=>(k.set (h.length+2) (.b V.row))[z]?)=some (.agg V.row,.ar):=λ{_} e=>ka (by have:=e.len;omega)
 have YQ:∀{k:ah}{c:Int},Ext H k->gQ V.an x.ev d=c->c≠0->Jm h (gQ V.an x.ev d) (jZ V.an x.ev d) (.dL [.agg V.row,.i c]) (k.set (h.length+2) (.b V.row)):=by
  intro k c e hc h0;refine⟨(Sj.trans e).fX Om,V,by rw[hc],?_,λz=>absurd (hc.symm.trans z) h0⟩;exact o.sub λb c' mu tl hb=>by
   have hlt:=(YU.1 hb).1;rw[Zf Om];exact(Sj.trans e).some hb
 by_cases h1:bF x.ev 0<V.an.tick
 ·have e1:decide (bF x.ev 0<V.tick)=true:=Y5 h1;rw[Ms];generalize hR:ux 2=R;unfold C0 fn129 gA;simp only[ai.j,ai.s,ai.r,ai.dr,ai.tl,ai.hd];refine Rs (FK t2 t3 t4 @le @lr @bd @kR @aG @j0 @f0 e1 @sb @gm) ?_;exact YQ (.refl _) (by rw[gQ,Zh h1]) De
 have e1:decide (bF x.ev 0<V.tick)=false:=YW h1;rw[Ms,PU];generalize hR:ux 3=R;unfold C0 fn129 gA;simp only[ai.j,ai.s,ai.r,ai.dr,ai.tl,ai.hd];refine Rs (pe t2 t3 t4 @le @lr @bd @bR @kR @aG @j0 @f0 e1) ?_;refine WF.ce T.c223 (r223 T (d:=d) (oW.ext Xx) w.len (ow.ext Xx) we) λg1=>?_
 by_cases h2:kW d V.an x.ev=0
 case neg=>
  have e2:decide (kW d V.an x.ev≠0)=true:=Y5 h2;refine Rs (A8 t2 t3 t4 e2 @lr @aG @sb @gm) ?_;have ef:=YQ (k:=H++g1) (c:=kW d V.an x.ev) ⟨g1,rfl⟩ (by rw[gQ,Za h1,Zh h2]) h2;rw[abl _ _ Om]at ef;exact ef
 have e2:decide (kW d V.an x.ev≠0)=false:=YW (λz=>z h2);have hes:gQ V.an x.ev d=bD V.an x.ev d:=by rw[gQ,Za h1,Za (λz=>z h2)]
 rw[hes];refine Rs (A4 t2 t3 t4 e2) ?_;rw[<-hR];obtain⟨B,hB⟩:∃B,B=H++g1:=⟨_,rfl⟩;rw[<-hB];have eB:Ext H B:=⟨g1,hB⟩;have lr:∀{k n a},Ext B k->ao n (.ptr h.length a) (λz=>k[z]?)=dC n a (.b V.row):=λ{_ _ _} e=>az (e.some (eB.some mV))
 clear sb gm YQ le f0 j0 e1 e2;rw[PT];generalize hR:ux 4=R;unfold C0 fn129 gA;simp only[ai.j,ai.s,ai.r,ai.dr,ai.tl,ai.hd];refine Rs (A5 t2 t3 t4 @lr @aG) ?_;refine WF.res T.c224 (r224 T (oW.ext eB) w) ?_;rintro _ g2 ⟨U,hU,rfl,own⟩;have Rz:=@aB.box _ _ own.ok;have st:=@aB.st _ _ own.ok;refine Rs (A5 t2 t3 t4 @Rz @st) ?_;obtain⟨X0,hX0⟩:∃Z,Z=B++g2:=⟨_,rfl⟩;rw[<-hX0]at own ⊢;have e0:Ext B X0:=⟨g2,hX0⟩;rw[<-hR,<-hU];refine Mr T (ob:=X0.length) we hd (by rw[hU];exact yS h2) (by rw[hU];exact w) ox (Sj.trans eB) (e0.trans ⟨_,rfl⟩) Si e0.len (by have:=eB.len;omega) a8 (eB.some me) (eB.some mr) (own.app _) (λhi=>?_) Sn (Sq t3) (Sq t4) Sw
 have:=(own.dR hi).2;omega
def r129{d}(o:aB h V)(w:ee V.an)(ox:bh h x)(we:kj x.ev d)(hd:d≠.eZ):aA P 129 [.agg V.row,.agg x.row] h (λv k=>∃V':RV,v=.dL [.agg V'.row,.i (gQ V.an x.ev d)]/\aB k V'/\(gQ V.an x.ev d=0->V'.an=jZ V.an x.ev d/\∀i,some i∈V'.bl->h.length<=i)):=by
 refine .of T.mix (abn T.c129 (Zv some PV)) ?_;obtain⟨ts,RD⟩:∃ts,ts=aV 63 [.agg V.row,.agg x.row]:=⟨_,rfl⟩;have hlen:ts.length=63:=by rw[RD];rfl
 have t0:slot ts 0=.agg V.row:=by rw[RD];rfl
 have t1:slot ts 1=.agg x.row:=by rw[RD];rfl
 show WC P bJ (.seq (C0 0) (ux 1)) [] (aV 63 [.agg V.row,.agg x.row]) h (FQ [(4,some (some 7)),(5,none)] (Jm h (gQ V.an x.ev d) (jZ V.an x.ev d)));rw[<-RD];clear RD;have Rz:=@aB.box _ _ o;have hex:=@bh.box _ _ ox;generalize hR:ux 1=R;unfold C0 fn129 gA;simp only[ai.dr,ai.hd];refine Rs (A4 t0 t1 @Rz @hex) ?_;rw[<-hR];exact IJ T rfl o w ox we hd Sn Sw (by simp only[aO,aQ,aY,aZ,reduceAdd,reduceMul,reduceLeDiff,reduceEqDiff,ba,hlen,Zi,Zk];simp) (by simp only[aO,aQ,aY,aZ,reduceAdd,reduceMul,reduceLeDiff,reduceEqDiff,ba,hlen,Zi,Zk];simp)
end
end Go.Abs
