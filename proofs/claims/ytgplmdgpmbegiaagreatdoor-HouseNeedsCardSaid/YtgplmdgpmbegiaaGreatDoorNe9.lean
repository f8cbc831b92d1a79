/- A part of the proof that HouseNeeds holds. No condition. -/
import Derived.Test.YtgplmdgpmbegiaaGreatDoorNe8
import Derived.Test.YtgplmdgpmbegiaaGreatDoorNe7
import Derived.Laws.Externs
import Derived.Shelf.Strconv.Itoa3
import Derived.Shelf.Strconv.Atoi
import Derived.Lib.AtoiErrMem
import Derived.Test.YtgplmdgpmbegiaaGreatDoorNe1
import Derived.Test.YtgplmdgpmbegiaaGreatDoorNe2
import Derived.Test.YtgplmdgpmbegiaaGreatDoorNe5
import Derived.Test.YtgplmdgpmbegiaaGreatDoorNe6
import Derived.ChangeArms
import Derived.Deep.Slices
import Derived.WideShapes
import Derived.ChangeShapes
import Derived.ChangeMaps5
import Derived.OpenShut
import Derived.Carry
import Derived.ChangeSame
import Derived.RowKit
import Derived.ProofKit
import Derived.LaidMore
import Derived.Lay
import Derived.SevenTiedAt
import Derived.Stop.Joined
import Derived.Test.YtgplmdgpmbegiaaGreatDoorRows
import Derived.Test.YtgplmdgpmbegiaaGreatDoorTie
import Derived.Test.YtgplmdgpmbegiaaGreatDoorCards
import Derived.Test.YtgplmdgpmbegiaaGreatDoorNe0
set_option maxHeartbeats 4000000
set_option linter.all false
open Nat (reduceAdd reduceMul reduceLeDiff reduceEqDiff)
namespace Go.Abs
theorem tN{c}:∀{s},(fp c s).2.2=true->s=(fp c s).1++c:: (fp c s).2.1
 |[],h=>by cases h
 |x::r,h=>by
  rw[fp]at h ⊢;split
  ·rename_i e;rw[e];rfl
  ·rename_i e;rw[ZN e]at h;exact aai (x::·) (tN (s:=r) h)
set_option maxRecDepth 10000
attribute [local irreducible] WP WC WE WB WR WF WL WG gk WQ
section
variable {P:Program}(T:fy P) {h:ah}
include T
def r37(X:DT P)(Z:qC P)(w:Pw h)(s:By)(hsl:s.length<=2^37):aA P 37 [.str s] h (λv k=>∃(L':List EV) (s':AV),L'.map EV.ev=(lL s).1/\v=.dL [s',.i (lL s).2.1,.i (lL s).2.2]/\Fr h.length k s' 5 (L'.map EV.row)/\∀x∈L',BD h.length k s' x):=by
 refine .lB 55 T.mix T.c37 ?_;intro ts hlen t0;unfold fn37 gA;by_cases h6:1000000<s.length
 ·have d1:decide ((1000000:Int)<s.length)=true:=ZI Om;refine Rs (A2 t0 @d1) ?_;exact⟨[],.af,by rw[lL,ZS h6];rfl,by rw[lL,ZS h6],.nil,λx hx=>(by cases hx)⟩
 have d1:decide ((1000000:Int)<s.length)=false:=ZD Om;have hrs:lL s=rz (s.length+1) s [] 0:=ZN h6;refine Rs (A2 t0 @d1) ?_;refine WL.inv T.mix (λn ts h'=>∃(a f:Nat) (out:AV) (L':List EV) (g:ah),a<=s.length/\n=s.length-a/\h' =h++g/\L'.length<=a/\lL s=rz (f+1) (s.drop a) (L'.map EV.ev) a/\s.length-a<=f/\Fr h.length (h++g) out 5 (L'.map EV.row)/\(∀x∈L',BD h.length (h++g) out x)/\
   ts.length=55/\slot ts 0=.str s/\slot ts 5=out/\slot ts 6=.i a) s.length
  ⟨0,s.length,.af,[],[],Om,rfl,Si,ZO _,hrs,Om,.nil,(λx hx=>by cases hx),Sn,(Sq t0),Sw,gP⟩ ?_
 rintro _ ts _ ⟨a,f,out,L',g,ha,rfl,rfl,hLa,S2,hf,hfr,hin,hlen,t0,t5,t6⟩;by_cases hlt:a<s.length
 ·have e3:decide ((a:Int)<s.length)=true:=ZI Om;have hne:s.drop a≠[]:=λe=>by have:=aai List.length e;rw[abz]at this;simp at this;omega
  obtain⟨f',rfl⟩:∃f',f=f'+1:=⟨f-1,Om⟩;rw[rz,ZN hne]at S2;have hdl:(s.drop a).length=s.length-a:=abz;have hcl:=rY (c:=10) (s:=s.drop a)
  repeat (first|simp (config:={maxSteps:=1000000}) only[aS,aW,bo,bp,reduceAdd,reduceMul,reduceLeDiff,reduceEqDiff,bw,hlen,ZY,Z1,t0,t5,t6,e3,kJ (show a<=s.length by omega)]|simp (config:={maxSteps:=1000000}) (disch:=first|(simp only[ZB,ZG,ZJ]<;>omega)|rfl|omega|fail) only[fN,aS,aW,bo,bp,reduceAdd,reduceMul,reduceLeDiff,reduceEqDiff,bw,hlen,ZY,Z1,t0,t5,t6,e3,kJ (show a<=s.length by omega)])
  refine WF.ce T.c98 (r98 T X (s.drop a) 10 Om) λg1=>?_
  have Xg:=tN (c:=10) (s:=s.drop a);generalize (fp 10 (s.drop a)).1=ln at S2 hcl Xg ⊢;generalize (fp 10 (s.drop a)).2.1=rest at S2 hcl Xg ⊢;cases hwh:(fp 10 (s.drop a)).2.2 with
  |false=>
   rw[hwh]at S2;refine Rs (A4 t0 t5 t6 @aab) ?_;rw[S2];exact⟨L',_,rfl,rfl,hfr.app g1,λx hx=>(hin x hx).app g1⟩
  |true=>
  rw[hwh]at S2;have Xg:=Xg hwh;have UL:(s.drop a).length=ln.length+(rest.length+1):=by rw[Xg];simp
  have TB:rest=s.drop (a+ln.length+1):=by
   have:(s.drop a).drop (ln.length+1)=rest:=by rw[Xg,<-abb];simp
   rw[<-this,abb];congr 1
  have w1:IntKind.i64.wrap (((L'.map EV.row).length:Int)+1)=(L'.length:Int)+1:=by rw[ZL];exact bj Om Om
  have w1':IntKind.i64.wrap ((L'.length:Int)+1)=(L'.length:Int)+1:=bj Om Om;refine Rs (A7 t0 t5 t6 @Z7 hfr.aX.aK @w1 @w1') ?_;refine WF.res T.c99 (r99 T X Z (w.ext Xx) ln Om _) ?_;rintro _ g2 ⟨x,hx,rfl,fn,fv⟩;have hml:(L'.map EV.ev).length=L'.length:=ZL _;have S2:lL s=if(fY ln ((L'.length:Int)+1)).2≠0 then(L'.map EV.ev,(a:Int),(fY ln ((L'.length:Int)+1)).2)else rz (f'+1) rest (L'.map EV.ev++[(fY ln ((L'.length:Int)+1)).1]) (a+ln.length+1):=by rw[S2,hml];rfl
  rw[<-hx]at S2;generalize (fY ln ((L'.length:Int)+1)).2=er at S2 ⊢;have ox:bh (h++g++g1++g2) x:=⟨fn.aX,fv.aX⟩;have st:∀{b':Nat}{a0 a1 a2 a3 a4:AV},jI 5 0 (.agg x.row) b' (.b [a0,a1,a2,a3,a4])=some (az,.set b' (.b x.row)):=λ{_ _ _ _ _ _}=>ox.st
  by_cases he:er=0
  case neg=>
   have d2:decide (er≠0)=true:=ZI he;rw[ZS he]at S2;refine Rs (A5 t0 t5 t6 @st @d2) ?_;rw[S2];exact⟨L',_,rfl,rfl,((hfr.app g1).app g2).app _,λx hx=>(((hin x hx).app g1).app g2).app _⟩
  have d2:decide (er≠0)=false:=ZD (λz=>z he);rw[ZN (λz=>z he)]at S2;have ox2:bh (h++g++g1++g2++[ak.b x.row]) x:=ox.ext ⟨_,rfl⟩;have bs:=@bh.Hx _ _ ox2;refine Rs (A7 t0 t5 t6 @st @d2 @b9 @bs) ?_;refine WR.fZ (h0:=h) (cs:=L'.map EV.row) (ys:=[x.row]) ((((hfr.app _).app _).app _).app _) (Fr.push (N:=0) (aac _) [x.row] (by intro y hy;rw[ZW]at hy;rw[hy];rfl)).aX De Si (by simp only[ZL,ZG,ZJ];omega) Xx ?_;intro g' SI hff hkp;have hrow:L'.map EV.row++[x.row]=(L'++[x]).map EV.row:=by rw[ZM];rfl
  rw[hrow]at hff;rw[hrow];obtain⟨sn,Tg⟩:∃sn,sn=AV.slice (h++g++g1++g2++[ak.b x.row]++[ak.cells x.row true true]).length 0 ((L'++[x]).map EV.row).length 5:=⟨_,rfl⟩;rw[<-Tg]at hff ⊢;have U7:∀i,sB sn=some i->(h++g++g1++g2).length+2=i:=λi hi=>by rw[Tg]at hi;cases hi;simp only[ZB,Z4]<;>omega
  have hout:∀b,sB out=some b->b<(h++g).length:=λb hb=>(hfr.bP hb).2
  have kp:∀i,i<(h++g++g1++g2).length->sB out≠some i->(h++g')[i]? =(h++g++g1++g2)[i]? :=λi hi hne=>by
   rw[hkp i (by simp only[ZB,Z4]at hi ⊢;omega) (λb0 o n e he zz=>hne (by rw[he,zz];rfl)),ZE (h++g++g1++g2),ZF hi]
  have w2:IntKind.i64.wrap ((ln.length:Int)+1)=((ln.length+1:Nat):Int):=wrapN Om;have w3:IntKind.i64.wrap ((a:Int)+((ln.length+1:Nat):Int))=((a+ln.length+1:Nat):Int):=by rw[bj Om Om];omega
  refine Rs (A5 t0 t5 t6 @w2 @w3) ?_;refine⟨s.length-(a+ln.length+1),Om,a+ln.length+1,f',sn,L'++[x],g',Om,rfl,rfl,by simp;omega,?_,Om,hff,λy hy=>?_,rfl,rfl⟩
  ·rw[S2,TB,ZM];rfl
  ·have lg:∀{i},i<(h++g).length->i<(h++g++g1++g2).length:=λ{i} hi=>by simp only[ZB]at hi ⊢;omega
   rcases ZK.1 hy with hy|hy
   ·have oy:=hin y hy;have ln:=λj (hj:sB y.sn=some j)=>(oy.n.bP hj).2
    have lv:=λj (hj:sB y.sv=some j)=>(oy.v.bP hj).2
    refine⟨((oy.n.app g1).app g2).aC λj hj=>kp j (lg (ln j hj)) (oy.dn j hj),((oy.v.app g1).app g2).aC λj hj=>kp j (lg (lv j hj)) (oy.dv j hj),λj hj e=>?_,λj hj e=>?_⟩
    ·have h1:=lg (ln j hj);have h2:=U7 j e;omega
    ·have h1:=lg (lv j hj);have h2:=U7 j e;omega
   ·rw[ZW]at hy;subst hy;have ln:=λj (hj:sB y.sn=some j)=>fn.bP hj
    have lv:=λj (hj:sB y.sv=some j)=>fv.bP hj
    have en:(h++g++g1).length=(h++g).length+g1.length:=ZB;exact Rw
 ·have e3:decide ((a:Int)<s.length)=false:=ZD Om;have e4:a=s.length:=Om
  have hnil:s.drop a=[]:=List.drop_eq_nil_of_le Om;rw[rz,ZS hnil]at S2;refine Rs (A4 t0 t5 t6 e3) ?_;rw[S2];exact⟨L',_,rfl,rfl,hfr,hin⟩
end
def qF:Nat->Nat
 | 0=>198
 | 1=>126
 | 2=>200
 | 3=>201
 | 4=>202
 | 5=>203
 |_=>204
def jB(q:Nat×Bool×Nat):AV:=.agg [.bool q.2.1,.i (q.2.2:Nat),.func (.func (qF q.1)) [] []]
def Cy:List (AV×AV):=[(.str [108,101,102,116],jB (0,true,4)),(.str [102,114,111,109],jB (1,true,5)),(.str [108,105,110,101,115],jB (2,true,3)),(.str [117,110,115,97,102,101],jB (3,false,2)),(.str [116,97,112,101,115],jB (4,true,2)),(.str [114,101,108,101,97,115,101,100],jB (5,false,5)),(.str [119,97,110,116],jB (6,true,0))]
def I4(k:By):hO .s (.str k) Cy=some ((lD k).map jB):=by
 unfold lD Cy;by_cases h0:k=[108,101,102,116]
 ·subst h0;rfl
 have b0:(k==[108,101,102,116])=false:=by simp[h0]
 by_cases h1:k=[102,114,111,109]
 ·subst h1;rfl
 have b1:(k==[102,114,111,109])=false:=by simp[h1]
 by_cases h2:k=[108,105,110,101,115]
 ·subst h2;rfl
 have b2:(k==[108,105,110,101,115])=false:=by simp[h2]
 by_cases h3:k=[117,110,115,97,102,101]
 ·subst h3;rfl
 have b3:(k==[117,110,115,97,102,101])=false:=by simp[h3]
 by_cases h4:k=[116,97,112,101,115]
 ·subst h4;rfl
 have b4:(k==[116,97,112,101,115])=false:=by simp[h4]
 by_cases h5:k=[114,101,108,101,97,115,101,100]
 ·subst h5;rfl
 have b5:(k==[114,101,108,101,97,115,101,100])=false:=by simp[h5]
 by_cases h6:k=[119,97,110,116]
 ·subst h6;rfl
 have b6:(k==[119,97,110,116])=false:=by simp[h6]
 simp only[hO,cY,b0,b1,b2,b3,b4,b5,b6,ZN h0,ZN h1,ZN h2,ZN h3,ZN h4,ZN h5,ZN h6];rfl
def C0{h:ah}{r:Nat}(hb:h[r]? =some (.aR Cy)){z:AV}{ok:Bool}{k:By}:gZ .s z ok (.map r) (.str k) (λb=>h[b]?)=lQ z ok ((lD k).map jB):=oA hb (I4 k)
theorem rL:∀{l}{i:Nat},∀y∈cI l i,(i:Int)<=y/\y<(i:Int)+l.length
 |[],i,y,h=>by simp[cI]at h
 |x::r,i,y,h=>by
  rw[cI]at h;have key:y∈cI r (i+1)->(i:Int)<=y/\y<(i:Int)+(x::r).length:=λh=>by
   have:=rL y h;rw[ZG];omega
  split at h
  ·rcases aag.1 h with rfl|h
   ·rw[ZG];omega
   ·exact key h
  ·exact key h
section
variable {P:Program}(T:fy P) {h:ah}
include T
theorem rM{h ks ts Q g es a l z ps k v es'}(ha:a+1<=ts.length)(h1:(a=1)=False)(t1:slot ts 1=.map h.length)
  (hv:rZ (eT z (ps.map λp=>(p.1,p.2.1,val ts p.2.2)))=some v) (hu:mL .s (.str k) v es=some es')
  (K:∀ts',ts'.length=ts.length->slot ts' 1=slot ts 1->WP P bN l ks ts' (h++[.aR es']++g) Q):
  WP P bN (.o a (.build z ps):: .x (.fj .s (.t 1) (.c (.str k)) (.t a))::l) ks ts (h++[.aR es]++g) Q:=by
 have e1:oh .s (.map h.length) (.str k) v (λb=>(h++[ak.aR es]++g)[b]?)=some (az,.set h.length (.aR es')):=qL uB hu;unfold bL.o bL.x;rw[sC,hv,uG,uL];have e2:val (put ts (some a) v) (.t 1)=.map h.length:=by
  simp only[p9,uZ,bw,h1,t1]
 have e3:val (put ts (some a) v) (.t a)=v:=by simp only[p9,uZ,bw,ha]
 rw[eA,e2,e3,yS,e1,sj,Cz,p9];have e4:(h++[ak.aR es]++g).set h.length (.aR es')=h++[.aR es']++g:=y6;rw[e4];exact K _ (by simp only[bw]) (by simp only[bw,h1])
def r109:aA P 109 [] h (λv h'=>v=.map h.length/\h' =h++[.aR Cy]):=by
 refine .of T.mix T.c109 ?_;obtain⟨ts,Sv⟩:∃ts,ts=aT 10 []:=⟨_,rfl⟩;have hlen:ts.length=10:=by rw[Sv];rfl
 unfold fn109;show WC P bN _ [] (aT 10 []) h _;rw[<-Sv];clear Sv;have m0:slot ((ts.set 0 AV.dh).set 1 (.map h.length)) 1=.map h.length:=by simp only[bw,hlen,reduceAdd,reduceLeDiff]
 have l0:((ts.set 0 AV.dh).set 1 (.map h.length)).length=10:=by simp only[bw,hlen]
 dsimp only[ai.j,ai.s,ai.r];rw[sD,sE,MC T,uN,sD,sE,MD T];rw[<-Z6 (h++[ak.aR []])];generalize (ts.set 0 AV.dh).set 1 (.map h.length)=ts0 at *;clear hlen;refine rM T (v:=jB (0,true,4)) (es':=[(.str [108,101,102,116],jB (0,true,4))]) (by rw[l0];decide) (aa9 De) m0 rfl rfl ?_;intro Uc lx mx;have l1:=lx.trans l0;have m1:=mx.trans m0;clear lx mx l0 m0;refine rM T (v:=jB (1,true,5)) (es':=[(.str [108,101,102,116],jB (0,true,4)),(.str [102,114,111,109],jB (1,true,5))]) (by rw[l1];decide) (aa9 De) m1 rfl rfl ?_;intro VI lx mx;have l2:=lx.trans l1;have m2:=mx.trans m1;clear lx mx l1 m1
 refine rM T (v:=jB (2,true,3)) (es':=[(.str [108,101,102,116],jB (0,true,4)),(.str [102,114,111,109],jB (1,true,5)),(.str [108,105,110,101,115],jB (2,true,3))]) (by rw[l2];decide) (aa9 De) m2 rfl rfl ?_;intro ts3 lx mx;have l3:=lx.trans l2;have m3:=mx.trans m2;clear lx mx l2 m2;refine rM T (v:=jB (3,false,2)) (es':=[(.str [108,101,102,116],jB (0,true,4)),(.str [102,114,111,109],jB (1,true,5)),(.str [108,105,110,101,115],jB (2,true,3)),(.str [117,110,115,97,102,101],jB (3,false,2))]) (by rw[l3];decide) (aa9 De) m3 rfl rfl ?_;intro ts4 lx mx;have l4:=lx.trans l3;have m4:=mx.trans m3;clear lx mx l3 m3
 refine rM T (v:=jB (4,true,2)) (es':=[(.str [108,101,102,116],jB (0,true,4)),(.str [102,114,111,109],jB (1,true,5)),(.str [108,105,110,101,115],jB (2,true,3)),(.str [117,110,115,97,102,101],jB (3,false,2)),(.str [116,97,112,101,115],jB (4,true,2))]) (by rw[l4];decide) (aa9 De) m4 rfl rfl ?_;intro ts5 lx mx;have l5:=lx.trans l4;have m5:=mx.trans m4;clear lx mx l4 m4;refine rM T (v:=jB (5,false,5)) (es':=[(.str [108,101,102,116],jB (0,true,4)),(.str [102,114,111,109],jB (1,true,5)),(.str [108,105,110,101,115],jB (2,true,3)),(.str [117,110,115,97,102,101],jB (3,false,2)),(.str [116,97,112,101,115],jB (4,true,2)),(.str [114,101,108,101,97,115,101,100],jB (5,false,5))]) (by rw[l5];decide) (aa9 De) m5 rfl rfl ?_
 intro ts6 lx mx;have l6:=lx.trans l5;have m6:=mx.trans m5;clear lx mx l5 m5;refine rM T (v:=jB (6,true,0)) (es':=[(.str [108,101,102,116],jB (0,true,4)),(.str [102,114,111,109],jB (1,true,5)),(.str [108,105,110,101,115],jB (2,true,3)),(.str [117,110,115,97,102,101],jB (3,false,2)),(.str [116,97,112,101,115],jB (4,true,2)),(.str [114,101,108,101,97,115,101,100],jB (5,false,5)),(.str [119,97,110,116],jB (6,true,0))]) (by rw[l6];decide) (aa9 De) m6 rfl rfl ?_;intro ts7 lx mx;have l7:=lx.trans l6;have m7:=mx.trans m6;clear lx mx l6 m6;have hlen:=l7;rw[Z6];refine Rs @m7 ?_;rfl
section
variable {V:RV}(o:aD h V) (w:eD V.an)
include o w
def r198(Z:qC P)(pw:Pw h){n}(hn:n∈iA V.an):aA P 198 [.agg V.row,.str n] h (λv k=>aH k v 1 ((kV V.an n 0).map ao)):=by
 refine .eP 10 T.mix T.c198 ?_;intro ts hlen t0 t1;unfold fn198 gA;have Su:=@aD.box _ _ o;have l:=w.len;refine Rs (A4 t0 t1 @Su @aF) ?_;refine WF.res T.c124 (r124 T (o.ext Xx) l hn) ?_;rintro _ g1 ⟨x,hx,U1,rfl⟩;have hj:=w.jb x.1 (ZT hx);refine Rs (A2 t0 t1) ?_;refine WF.res T.c125 (r125 T ((o.e4 x hx).ext Xx) Om (λs hs=>(hj.2.2.2 s hs).1)) ?_;intro v g2 hv;have UL:=ke (l:=x.1.bd) (i:=0);refine Rs (A2 t0 t1) ?_;refine WF.res T.c199 (r199 T hv Om jP (λy hy k ek=>by
  have:=rL y hy;exact yQ T Z Om Om (pw.ext (Ext.trans Xx ek)))) ?_
 intro v3 g3 hv3;have hr:=hv3.aX;refine Rs t0 ?_;rw[U1]at hr;exact hr
def r200(n:By):aA P 200 [.agg V.row,.str n] h (λv k=>aH k v 1 ((kV V.an n 2).map ao)):=by
 refine .eP 9 T.mix T.c200 ?_;intro ts hlen t0 t1;unfold fn200 gA;have Su:=@aD.box _ _ o;have l:=w.len;have hin:∀x∈V.ar,x.1.aI.length<2^30:=λx hx=>by have:=(w.md x.1 (ZT hx)).2.1;omega
 refine Rs (A4 t0 t1 @Su @aF) ?_;refine WF.res T.c122 (r122 T (o.ext Xx) l hin _) ?_;rintro v3 g3 h3;have hsl:(dV V.an n).length<2^30:=by
  have h1:(dV V.an n).length<=V.an.lines.length:=by unfold dV;exact aaj _ _
  have:=w.l0;omega
 refine Rs (A2 t0 t1) ?_;refine WF.res T.c121 (r121 T h3 Om (λx=>x.name) (λx _ k _=>bE.of (a:=[]) (c:=[]) T.c123 (r123 T x))) ?_;intro v4 g4 h4;have hr:=h4.aX;refine Rs t0 ?_;exact hr
def r201(n:By):aA P 201 [.agg V.row,.str n] h (λv k=>aH k v 1 ((kV V.an n 3).map ao)):=by
 refine .eP 9 T.mix T.c201 ?_;intro ts hlen t0 t1;unfold fn201 gA;have Su:=@aD.box _ _ o;have l:=w.len;refine Rs (A5 t0 t1 @Su @aF @ti) ?_;refine WF.res T.c80 (r80 T (o.ext Xx) l w.zB _) ?_;intro v4 g4 h4;refine Rs t0 ?_;exact h4
def r202{n}(hn:n∈nj V.an):aA P 202 [.agg V.row,.str n] h (λv k=>aH k v 1 ((kV V.an n 4).map ao)):=by
 refine .eP 9 T.mix T.c202 ?_;intro ts hlen t0 t1;unfold fn202 gA;have Su:=@aD.box _ _ o;have l:=w.len;refine Rs (A4 t0 t1 @Su @aF) ?_;refine WF.res T.c77 (r77 T (o.ext Xx) l hn) ?_;rintro _ g1 ⟨x,hx,U1,rfl⟩;have hr:=(o.e2 x hx);unfold bf;refine Rs (A2 t0 t1) ?_;rw[U1]at hr;exact hr.ext Xx
end
end
def Ar{l x}:sK (l++[x])=sK l++(if x.rel then [x.name,jP x.iQ]else []):=by
 unfold sK;simp only[ZM,abl,aar,abn,aaR,List.flatten_nil,Z6]
theorem ru:∀{l},(sK l).length<=2*l.length
 |[]=>by simp[sK]
 |x::r=>by
  have:=ru (l:=r);unfold sK at this ⊢;rw[aar,aaR,ZB,ZG];split
  ·simp only[ZG,ZJ];omega
  ·simp only[ZJ];omega
section
variable {P:Program}(T:fy P) {h:ah}
include T
section
variable {V:RV}(o:aD h V) (w:eD V.an)
include o w
def r203(Z:qC P)(pw:Pw h)(n:By):aA P 203 [.agg V.row,.str n] h (λv k=>aH k v 1 ((kV V.an n 5).map ao)):=by
 refine .eP 27 T.mix T.c203 ?_;intro ts hlen t0 t1;unfold fn203 gA;have Su:=@aD.box _ _ o;have l5:V.aJ.length<=16:=w.l5;refine Rs (A5 t0 t1 @Su @gY o.i5.aK) ?_;refine WL.inv T.mix (λn ts h'=>∃(k:Nat) (out:AV) (g:ah),k<=V.aJ.length/\n=V.aJ.length-k/\h' =h++g/\Fr h.length (h++g) out 1 ((sK (V.aJ.take k)).map ao)/\
   ts.length=27/\slot ts 5=out/\slot ts 9=V.s5/\slot ts 10=.i V.aJ.length/\slot ts 11=.i k) V.aJ.length
  ⟨0,.af,_,Om,rfl,rfl,.nil,Sn,(Sq t1),Sw,(Sq t0),gP⟩ ?_
 rintro _ ts _ ⟨k,out,g,hk,rfl,rfl,hfr,hlen,t5,t9,t10,t11⟩;by_cases hlt:k<V.aJ.length
 ·have e3:=eC hlt;have e5:=wrapN (n:=k) Om;have ix:=o.i5.dE (kk:=.i64) hlt;have ld:∀{k'},Ext (h++g) k'->aq (some 4) (cT V.s5 4 k) (λb=>k'[b]?)=some (.agg (cF V.aJ[k]),.ay):=λ{k'} e=>o.i5.kf hlt (Ext.trans Xx e)
  obtain⟨x,hx⟩:∃x,x=V.aJ[k]:=⟨_,rfl⟩;have Ui:x∈V.aJ:=by rw[hx];exact ZR _
  have hpc:=w.pc x Ui;have SU:V.aJ.take (k+1)=V.aJ.take k++[x]:=by rw[hx,aao,ZH hlt];rfl
  have T4:=ru (l:=V.aJ.take k);have htl:(V.aJ.take k).length<=16:=by rw[aaB];omega
  have Tg:=Ar (l:=V.aJ.take k) (x:=x);rw[<-hx]at ld;unfold cF at ld;cases hrel:x.rel with
  |false=>
   rw[hrel]at ld Tg;rw[ZN Si,Z6,<-SU]at Tg;rw[<-Tg]at hfr;refine Rs (A8 t5 t9 t10 t11 e3 e5 ix @ld) ?_;exact⟨V.aJ.length-(k+1),Om,k+1,out,_,Om,rfl,ZE _ _ _,by rw[<-ZE];exact hfr.app _,rfl,rfl⟩
  |true=>
   rw[hrel]at ld Tg;rw[ZS rfl,<-SU]at Tg;refine Rs (A7 t5 t9 t10 t11 e3 ix @ld) ?_;refine WF.ce T.c113 (Z.itoa Om Om (pw.ext Xx)) λg1=>?_
   rw[gJ hpc.2.1];refine Rs (A4 t5 t9 t10 t11) ?_;refine WR.Gf (h0:=h) (cs:=(sK (V.aJ.take k)).map ao) (ys:=([x.name,jP x.iQ] :List (By)).map ao) (((hfr.app _).app _).app _) (Fr.push (N:=0) (aac _) (([x.name,jP x.iQ] :List (By)).map ao) (by simp[ao])).aX De (by simp;omega) Xx ?_;intro s' g' hff hkp hle;rw[<-ZM,<-Tg]at hff;refine Rs (A5 t5 t9 t10 t11 e5) ?_;exact⟨V.aJ.length-(k+1),Om,k+1,s',g',Om,rfl,rfl,hff,rfl,rfl⟩
 ·have e3:=ff hlt;have e4:k=V.aJ.length:=Om
  refine Rs (A5 t5 t9 t10 t11 e3) ?_;rw[e4,aam]at hfr;exact hfr.aX
def r204(Z:qC P)(pw:Pw h){n}(hn:n∈gq V.an):aA P 204 [.agg V.row,.str n] h (λv k=>aH k v 1 ((kV V.an n 6).map ao)):=by
 refine .eP 22 T.mix T.c204 ?_;intro ts hlen t0 t1;unfold fn204 gA;have Su:=@aD.box _ _ o;have l:=w.len;have Wb:=w.ln _ (fH (f:=dX.name) (l:=V.an.lines) (n:=n) (d:=yq) hn);have UL:(V.aj.filter λx=>decide (x.1.line=n)).length<=V.aj.length:=aaj _ _;have hl2:=l.l2;have hof:(rC V.an n).length=(V.aj.filter λx=>decide (x.1.line=n)).length:=by
  unfold rC;simp only[RV.an,abw,ZL];rfl
 refine Rs (A4 t0 t1 @Su @aF) ?_;refine WF.ce T.c205 (r205 T (o.ext Xx) l hn) λg1=>?_
 have VF:kV V.an n 6=[jP (rC V.an n).length,jP (dq V.an n).want,if(dq V.an n).acc then [97,99,99,101,112,116,101,100]else [111,112,101,110]]:=rfl;have Wb:1<=(dq V.an n).want/\(dq V.an n).want<=64:=Wb;generalize dq V.an n=y at VF Wb ⊢;unfold bV;rw[hof]at VF;cases hacc:y.acc with
 |true=>
  rw[hacc]at VF;refine Rs (A4 t0 t1 @aF @hacc) ?_;refine WF.res T.c206 (r206 T (o.ext Xx) l n) ?_;intro v2 g2 h2;refine Rs (A3 t0 t1 h2.aK) ?_;refine WF.ce T.c113 (Z.itoa Om Om (pw.ext Xx)) λg3=>?_
  rw[gJ Om];refine Rs (A2 t0 t1) ?_;refine WF.ce T.c113 (Z.itoa Om Om (pw.ext Xx)) λg4=>?_
  rw[gJ Om];refine Rs (A2 t0 t1) ?_;rw[VF];exact(Fr.push (es:=1) (N:=0) (aac _) (([jP ((V.aj.filter λx=>decide (x.1.line=n)).length:Nat),jP y.want,[97,99,99,101,112,116,101,100]] :List (By)).map ao) (by simp[ao])).aX
 |false=>
  rw[hacc]at VF;refine Rs (A4 t0 t1 @aF @hacc) ?_;refine WF.res T.c206 (r206 T (o.ext Xx) l n) ?_;intro v2 g2 h2;refine Rs (A3 t0 t1 h2.aK) ?_;refine WF.ce T.c113 (Z.itoa Om Om (pw.ext Xx)) λg3=>?_
  rw[gJ Om];refine Rs (A2 t0 t1) ?_;refine WF.ce T.c113 (Z.itoa Om Om (pw.ext Xx)) λg4=>?_
  rw[gJ Om];refine Rs (A2 t0 t1) ?_;rw[VF];exact(Fr.push (es:=1) (N:=0) (aac _) (([jP ((V.aj.filter λx=>decide (x.1.line=n)).length:Nat),jP y.want,[111,112,101,110]] :List (By)).map ao) (by simp[ao])).aX
end
end
def vV{n}(h:dQ n=true):n.length<=24:=by
 cases n with
 |nil=>cases h
 |cons c r=>
  unfold dQ at h;simp only[aad,aah]at h;rw[ZG];omega
def uf{l}(h:pY l){n}(hn:n∈l):n.length<=24:=vV (h.nm n hn)
theorem pM{c}:∀{l},(∀x∈l,x.length<=64)->(jv c l).length<=65*l.length
 |[],_=>aac _
 |x::r,h=>by
  have ih:=pM (c:=c) (l:=r) λy hy=>h y (Z8 _ hy)
  have hx:=h x Si;by_cases hr:r=[]
  ·subst hr;simp only[jv,ZG,ZJ];omega
  ·rw[nH hr,ZB,ZG,ZG];omega
theorem tu:∀{l m:List (By)},l.Nodup->(∀x∈l,x∈m)->l.length<=m.length
 |[],_,_,_=>aac _
 |x::r,m,hd,hs=>by
  rw[abX]at hd;have hm:=hs x Si;have:=tu (l:=r) (m:=m.erase x) hd.2 λy hy=>(List.mem_erase_of_ne (λe=>hd.1 (by rw[<-e];exact hy))).2 (hs y (Z8 _ hy))
  rw[List.length_erase_of_mem hm]at this;have:=List.length_pos_of_mem hm;rw[ZG];omega
def JB{R:dA}(w:eD R){n k:By}{q:Nat×Bool×Nat}(hq:lD k=some q)(hn:q.2.1=true->dW R q.2.2 n=true):(∀x∈kV R n q.1,x.length<=64)/\(kV R n q.1).length<=64:=by
 have dl:∀{y:Int},0<=y->y<99999999->(jP y).length<=64:=λ{y} h0 h1=>by have:=mE (k:=7) (u:=y.toNat) Om;rw[kU];omega
 unfold lD at hq
 repeat' split at hq
 all_goals cases hq
 ·have hm:n∈iA R:=aaU (hn rfl);have hj:=w.jb _ (fH (f:=kF.name) (l:=R.aE) (n:=n) (d:=vO) hm);have UL:=ke (l:=(cW R n).bd) (i:=0);have hj:(cW R n).bd.length<=32:=hj.2.2.1;refine⟨λx hx=>?_,?_⟩
  ·obtain⟨y,hy,rfl⟩:=Z3.1 hx;have:=rL y hy;exact z175
  ·show((cI _ _).map jP).length<=64;rw[ZL];omega
 ·refine⟨λx hx=>?_,?_⟩
  ·exact z109
  ·show(gD R n).length<=64;unfold gD;exact KD
 ·refine⟨λx hx=>?_,?_⟩
  ·obtain⟨y,hy,rfl⟩:=Z3.1 hx;have:=uf w.n0 (ZT (f:=dX.name) (aaq.1 hy).1);omega
  ·show((dV R n).map dX.name).length<=64;unfold dV;rw[ZL];have:=aaj (λl:dX=>decide (l.name∈(dP R n).map cQ.line)) R.lines;have:=w.l0;omega
 ·refine⟨λx hx=>?_,?_⟩
  ·exact z109
  ·show(kG R R.tick).length<=64;unfold kG;exact KD
 ·have hm:n∈nj R:=aaU (hn rfl);have hs:=w.sh _ (fH (f:=jX.name) (l:=R.aj) (n:=n) (d:=E1) hm);refine⟨λx hx=>?_,?_⟩
  ·have:=uf w.n1 (hs.2.2.2 x hx);omega
  ·have:=tu hs.2.2.1 hs.2.2.2;have h1:(jT R).length<=16:=by unfold jT;rw[ZL];exact w.l1
   exact aat this Om
 ·refine⟨λx hx=>?_,?_⟩
  ·obtain⟨l,hl,hx⟩:=List.mem_flatten.1 hx;obtain⟨p,hp,rfl⟩:=Z3.1 hl;have hpc:=w.pc p hp;split at hx
   ·simp only[aag,aaC,abh]at hx;rcases hx with rfl|rfl
    ·have:=uf w.n5 (ZT (f:=nP.name) hp);omega
    ·exact dl hpc.2.1 Om
   ·cases hx
  ·have:=ru (l:=R.aJ);have:=w.l5;show(sK R.aJ).length<=64;omega
 ·have hm:n∈gq R:=aaU (hn rfl);have hw:=w.ln _ (fH (f:=dX.name) (l:=R.lines) (n:=n) (d:=yq) hm);have hw:1<=(dq R n).want/\(dq R n).want<=64:=hw;have ho:(rC R n).length<=64:=aat (aaj _ _) w.l2;refine⟨λx hx=>?_,by show(3:Nat)<=64;omega⟩;have hx:x∈[jP (rC R n).length,jP (dq R n).want,if(dq R n).acc then [97,99,99,101,112,116,101,100]else [111,112,101,110]]:=hx;simp only[aag,aaC,abh]at hx;rcases hx with rfl|rfl|rfl
  ·exact z175
  ·exact z175
  ·split<;>decide
section
variable {P:Program}(T:fy P) {h:ah}
include T
def RZ{V}(o:aD h V)(w:eD V.an)(Z:qC P)(pw:Pw h){n k q}(hq:lD k=some q)(hn:q.2.1=true->dW V.an q.2.2 n=true):
  bE P (.func (.func (qF q.1)) [] []) [.agg V.row,.str n] h (λv k'=>aH k' v 1 ((kV V.an n q.1).map ao)):=by
 unfold lD at hq
 repeat' split at hq
 all_goals cases hq
 ·exact bE.of (a:=[]) (c:=[]) T.c198 (r198 T o w Z pw (aaU (hn rfl)))
 ·exact bE.of (a:=[]) (c:=[]) T.c126 (r126 T o w (aaU (hn rfl)))
 ·exact bE.of (a:=[]) (c:=[]) T.c200 (r200 T o w n)
 ·exact bE.of (a:=[]) (c:=[]) T.c201 (r201 T o w n)
 ·exact bE.of (a:=[]) (c:=[]) T.c202 (r202 T o w (aaU (hn rfl)))
 ·exact bE.of (a:=[]) (c:=[]) T.c203 (r203 T o w Z pw n)
 ·exact bE.of (a:=[]) (c:=[]) T.c204 (r204 T o w Z pw (aaU (hn rfl)))
end
def DP(k:Nat):ai:=(fn110).body.dr k
def Gh(k:Nat):ai:=(DP k).hd
def QM:fn110=⟨69,2,[(4,none),(5,none)],.seq (Gh 0) (.seq (Gh 1) (.seq (Gh 2) (.seq (Gh 3) (.seq (Gh 4) (DP 5)))))⟩:=rfl
def QL:DP 5=.seq (Gh 5) (.seq (Gh 6) (DP 7)):=rfl
def OR{k q}(hq:lD k=some q):q.2.2<6:=by
 unfold lD at hq
 repeat' split at hq
 all_goals cases hq
 all_goals decide
section
variable {P:Program}(T:fy P) {h W:ah}{ts:TS}
include T
def Hz{VN n k i wt b6 b8 nm}(oV:aD W VN)(wV:eD VN.an)(Z:qC P)(pw:Pw W)(hq:lD k=some (i,nm,wt))(hn:nm=true->dW VN.an wt n=true)
  (m6:W[b6]? =some (.b [.bool nm,.i (wt:Nat),.func (.func (qF i)) [] []])) (m8:W[b8]? =some (.b VN.row)) (hlen:ts.length=69) (t6:slot ts 6=.ptr b6 0) (t7:slot ts 7=.str n) (t8:slot ts 8=.ptr b8 0) (he:Ext h W):
  WC P bN (DP 7) [] ts W (FQ [(4,none),(5,none)] λv k=>Ext h k/\v=.dL [.str (yG (kV VN.an n i)),.i 0]):=by
 have l6:∀{k:ah}{n':Option Nat}{a:Nat},Ext W k->aq n' (.ptr b6 a) (λz=>k[z]?)=dJ n' a (.b [.bool nm,.i (wt:Nat),.func (.func (qF i)) [] []]):=λe=>aB (e.some m6)
 have l8:∀{k:ah}{n':Option Nat}{a:Nat},Ext W k->aq n' (.ptr b8 a) (λz=>k[z]?)=dJ n' a (.b VN.row):=λe=>aB (e.some m8)
 have Xp:=JB wV hq hn;have hv0:=RZ T oV wV Z pw hq hn;unfold DP fn110 gA;simp only[ai.j,ai.s,ai.r,ai.dr,ai.tl,ai.hd];refine Rs (A6 t6 t7 t8 @l6 @l8 @aF) ?_;refine WF.val hv0 ?_;intro v g hv;have Xp:(∀x∈kV VN.an n i,x.length<=64)/\(kV VN.an n i).length<=64:=Xp;have hv:aH (W++g) v 1 ((kV VN.an n i).map ao):=hv;generalize kV VN.an n i=L at Xp hv ⊢;by_cases hL:L=[]
 ·have d0:decide ((L.length:Int)=0)=true:=ZI (by rw[hL];rfl);refine Rs (A5 t6 t7 t8 hv.aK @d0) ?_;exact⟨he.trans Xx,by rw[yG,ZS hL]⟩
 ·have XW:0<L.length:=aby.2 hL;have d0:decide ((L.length:Int)=0)=false:=ZD Om;have hj:=pM (c:=32) Xp.1;refine Rs (A5 t6 t7 t8 hv.aK @d0) ?_;refine WF.ce T.c114 (Z.join hv ⟨by rw[rN];omega,Om⟩) λg2=>?_
  refine Rs t6 ?_;exact⟨he.trans Xx,by rw[yG,ZN hL,rN]⟩
def Hy{V b n k i wt b6 nm}(o:zZ h b V)(w:kY V.bS)(hl:V.cM.length<=1000)(Z:qC P)(pw:Pw h)(hq:lD k=some (i,nm,wt))(he:Ext h W)
  (m6:W[b6]? =some (.b [.bool nm,.i (wt:Nat),.func (.func (qF i)) [] []])) (hlen:ts.length=69) (t0:slot ts 0=.ptr b 0) (t6:slot ts 6=.ptr b6 0) (t7:slot ts 7=.str n) {R}
  (hR:R=if nm=true/\dW V.bS.now wt n=false then([],10)else(yG (kV V.bS.now n i),0)):
  WC P bN (DP 5) [] ts W (FQ [(4,none),(5,none)] λv k=>Ext h k/\v=.dL [.str R.1,.i R.2]):=by
 have l6:∀{k:ah}{n':Option Nat}{a:Nat},Ext W k->aq n' (.ptr b6 a) (λz=>k[z]?)=dJ n' a (.b [.bool nm,.i (wt:Nat),.func (.func (qF i)) [] []]):=λe=>aB (e.some m6)
 have hwt:wt<6:=OR hq;obtain⟨RR,Tx⟩:∃RR,RR=DP 7:=⟨_,rfl⟩;have o2:=o.ext he;have oV:=o2.now;have wV:eD V.now.an:=by rw[V.jL];exact w.now
 rw[<-V.jL]at hR;have st:=λ{b':Nat}{a0 a1 a2 a3 a4 a5 a6:AV}=>@aD.st _ _ oV b' a0 a1 a2 a3 a4 a5 a6 false
 rw[QL,<-Tx];unfold Gh DP fn110 gA;simp only[ai.j,ai.s,ai.r,ai.dr,ai.tl,ai.hd];refine Rs (A3 t0 t6 t7) ?_;refine WF.ce T.c79 (r79 T o2 hl) λg1=>?_
 cases nm with
 |false=>
  rw[ZN Si]at hR;refine Rs (A6 t0 t6 t7 @st @l6 @aF) ?_;rw[hR,Tx];exact Hz T (VN:=V.now) (b6:=b6) (b8:=(W++g1).length) (oV.ext Xx) wV Z (pw.ext (he.trans Xx)) hq (λe=>by cases e) (Ext.some Xx m6) (by rw[ZP (ZO _),aaG];rfl) (Sq t0) (Sq t6) (Sq t7) (Sq t0) (he.trans Xx)
 |true=>
  refine Rs (A6 t0 t6 t7 @st @l6 @aF) ?_;refine WF.ce T.c86 (r86 T (oV.ext Xx) wV.len hwt n) λg2=>?_
  cases hhs:dW V.now.an wt n with
  |false=>
   rw[ZS ⟨rfl,hhs⟩]at hR;refine Rs (A5 t0 t6 t7 @hhs @aab) ?_;exact⟨he.trans Xx,by rw[hR]⟩
  |true=>
   rw[ZN (by rw[hhs];simp)]at hR;refine Rs (A5 t0 t6 t7 @hhs @Z7) ?_;rw[hR,Tx];exact Hz T (VN:=V.now) (b6:=b6) (b8:=(W++g1).length) (oV.ext Xx) wV Z (pw.ext (he.trans Xx)) hq (λ_=>hhs) (Ext.some Xx m6) (Ext.some (h:=W++g1++[ak.b V.now.row]) Xx (by rw[ZP (ZO _),aaG];rfl)) (Sq t0) (Sq t6) (Sq t7) (Sq t0) (he.trans Xx)
end
def Bh:((false:Bool)==false)=true:=rfl
def Be:((true:Bool)==true)=true:=rfl
def Bf:((true:Bool)==false)=false:=rfl
def Bg:((false:Bool)==true)=false:=rfl
section
variable {P:Program}(T:fy P) {h:ah}
include T
def r110{V b}(o:zZ h b V)(w:kY V.bS)(hl:V.cM.length<=1000)(Z:qC P)(pw:Pw h){s ws}(hs:aH h s 1 (ws.map ao))(hne:0<ws.length)(hwl:ws.length<2^62){q}(hq:lD (ws.headD [])=some q):
  aA P 110 [.ptr b 0,s] h (λv _=>v=.dL [.str (nM V.bS.now ws q).1,.i (nM V.bS.now ws q).2]):=by
 refine .of T.mix (acd T.c110 (aai some QM)) ?_;obtain⟨ts,Sv⟩:∃ts,ts=aT 69 [.ptr b 0,s]:=⟨_,rfl⟩;have hlen:ts.length=69:=by rw[Sv];rfl
 have t0:slot ts 0=.ptr b 0:=by rw[Sv];rfl
 have t1:slot ts 1=s:=by rw[Sv];rfl
 obtain⟨RR,Tx⟩:∃RR,RR=DP 5:=⟨_,rfl⟩;obtain⟨i,nm,wt⟩:=q;show WC P bN _ [] (aT 69 [.ptr b 0,s]) h (FQ _ (λv k=>Ext h k/\v=.dL [.str (nM V.bS.now ws (i,nm,wt)).1,.i (nM V.bS.now ws (i,nm,wt)).2]));rw[<-Sv,<-Tx];clear Sv;have YX:ws[0]=ws.headD []:=by cases ws with|nil=>simp at hne|cons a r=>rfl
 have qM:=hs.qM (kk:=.i64) hne;have ld0:∀{k:ah},Ext h k->aq none (cT s 1 0) (λb=>k[b]?)=some (.str (ws.headD []),.ay):=λ{k} e=>by rw[<-YX];exact hs.kg (i:=0) hne rfl e
 unfold Gh DP fn110 gA;simp only[ai.j,ai.s,ai.r,ai.dr,ai.tl,ai.hd];refine Rs (A2 t0 t1) ?_;refine WF.res T.c109 (r109 T) ?_;rintro _ g1 ⟨rfl,hg⟩;have hg:g1=[.aR Cy]:=abq hg;subst hg;have lk:∀{z:AV},gZ .s z false (.map h.length) (.str (ws.headD [])) (λb=>(h++[ak.aR Cy])[b]?)=lQ z false ((lD (ws.headD [])).map jB):=C0 (by rw[ZP (ZO _),aaG];rfl);rw[hq]at lk;have Te:∀{z:AV},_=some (AV.agg [.bool nm,.i (wt:Nat),.func (.func (qF i)) [] []],iR.ay):=@lk;have m6:∀{k:ah},Ext (h++[ak.aR Cy]++[ak.b [.bool nm,.i (wt:Nat),.func (.func (qF i)) [] []]]) k->k[(h++[ak.aR Cy]).length]? =some (ak.b [.bool nm,.i (wt:Nat),.func (.func (qF i)) [] []]):=λe=>e.some (by rw[ZP (ZO _),aaG];rfl)
 have hsyn:∀{x:By×Int},x=([],25)->nM V.bS.now ws (i,nm,wt)=([],25)->∀{k:ah},Ext h k->(Ext h k/\AV.dL [.str [],.i 25]=.dL [.str (nM V.bS.now ws (i,nm,wt)).1,.i (nM V.bS.now ws (i,nm,wt)).2]):=λ_ he k e=>⟨e,by rw[he]⟩
 cases nm with
 |false=>
  have TV:nM V.bS.now ws (i,false,wt)=if ws.length≠1 then([],25)else(yG (kV V.bS.now [] i),0):=by
   unfold nM;simp
  by_cases e1:ws.length=1
  ·have d1:decide ((ws.length:Int)≠1)=false:=ZD (λz=>z Om);have d2:decide ((ws.length:Int)=2)=false:=ZD Om;refine Rs (D8 t0 t1 @qM @ld0 @bC @Te @iP @Bh @Be @Bf @Bg hs.aK @d1 @d2 @aab @Z7) ?_;rw[Tx];exact Hy T (n:=[]) o w hl Z pw hq Xx (m6 Xx) (Sq t0) (Sq t0) (Sq t0) (Sq t0) (by rw[TV,ZN (by simpa using e1),ZN Si])
  ·have d1:decide ((ws.length:Int)≠1)=true:=ZI Om;rw[ZS e1]at TV;by_cases e2:ws.length=2
   ·have d2:decide ((ws.length:Int)=2)=true:=ZI Om;have d3:decide (([] :By)≠[])=false:=rfl;refine Rs (Kh t0 t1 @qM @ld0 @bC @Te @iP @Bh @Be @Bf @Bg hs.aK @d1 @d2 @d3 @aab @Z7) ?_;rw[TV]
   ·have d2:decide ((ws.length:Int)=2)=false:=ZD Om;refine Rs (D8 t0 t1 @qM @ld0 @bC @Te @iP @Bh @Be @Bf @Bg hs.aK @d1 @d2 @aab @Z7) ?_;rw[TV]
 |true=>
  by_cases e2:ws.length=2
  ·have d2:decide ((ws.length:Int)=2)=true:=ZI Om;have hw1:ws[1]=ws.getD 1 []:=by rw[aaf,ZH Om];rfl
   have ix1:aZ 1 s (.i 1)=some (cT s 1 1,.ay):=hs.dE (kk:=.i64) (i:=1) Om;have Xw:∀{k:ah},Ext h k->aq none (cT s 1 1) (λb=>k[b]?)=some (.str (ws.getD 1 []),.ay):=λ{k} e=>by rw[<-hw1];exact hs.kg (i:=1) Om rfl e
   have TV:nM V.bS.now ws (i,true,wt)=if ws.getD 1 []=[]then([],25)else if dW V.bS.now wt (ws.getD 1 [])=false then([],10)else(yG (kV V.bS.now (ws.getD 1 []) i),0):=by
    unfold nM;simp only[e2,and_true,Z1,acb,ne_eq,Bool.true_eq_false,false_and,abh,aa2]
   generalize ws.getD 1 []=n at Xw TV;by_cases hn:n=[]
   ·have d3:decide (n≠[])=false:=ZD (λz=>z hn);rw[ZS hn]at TV;refine Rs (Ec t0 t1 @qM @ld0 @ix1 @Xw @bC @Te @iP @Bh @Be @Bf @Bg hs.aK @d2 @d3 @aab @Z7) ?_;rw[TV]
   ·have d3:decide (n≠[])=true:=ZI hn;rw[ZN hn]at TV;refine Rs (Ec t0 t1 @qM @ld0 @ix1 @Xw @bC @Te @iP @Bh @Be @Bf @Bg hs.aK @d2 @d3 @aab @Z7) ?_;rw[Tx];exact Hy T (n:=n) o w hl Z pw hq Xx (m6 Xx) (Sq t0) (Sq t0) (Sq t0) (Sq t0) (by rw[TV];simp)
  ·have d2:decide ((ws.length:Int)=2)=false:=ZD Om;have TV:nM V.bS.now ws (i,true,wt)=([],25):=by
    unfold nM;simp[e2]
   refine Rs (Bv t0 t1 @qM @ld0 @bC @Te @iP @Bh @Be @Bf @Bg hs.aK @d2 @aab @Z7) ?_;rw[TV]
end
def mO(B h0:ah)(b:Nat)(V:HV)(R:iK×By×Int)(v:AV)(k:ah):Prop:=∃g' V',k=B++g'/\v=.dL [.str R.2.1,.i R.2.2]/\cH B.length (B++g') b V'/\V'.bS=R.1/\
 (∀i,i<h0.length->some i∉V.ex b->(B++g')[i]? =h0[i]?)/\∀j,some j∈V'.ex b->some j∈V.ex b\/h0.length<=j
def mO.same{B W k b V m c}(o:cH B.length W b V)(e:Ext B W)(e2:Ext W k){R}(hR:R=(V.bS,m,c)):mO B W b V R (.dL [.str m,.i c]) k:=by
 obtain⟨z,rfl⟩:=e;obtain⟨y,rfl⟩:=e2;exact⟨z++y,V,by rw[ZE],by rw[hR],by rw[<-ZE];exact o.app y,by rw[hR],λi hi _=>by rw[<-ZE,ZF hi],λj hj=>.inl hj⟩
def mO.low{B h0 W k b V R v}(s:mO B W b V R v k)(e:Ext h0 W):mO B h0 b V R v k:=by
 obtain⟨g',V',h1,h2,h3,h4,h5,h6⟩:=s;obtain⟨z,rfl⟩:=e;refine⟨g',V',h1,h2,h3,h4,λi hi hn=>?_,λj hj=>?_⟩
 ·rw[h5 i (by rw[ZB];omega) hn,ZF hi]
 ·rcases h6 j hj with h|h
  ·exact .inl h
  ·exact .inr (by rw[ZB]at h;omega)
def rr(H:iK)(ws:List (By)):iK×By×Int:=
 if(eJ ws).2=false then(H,[],25)else
 if 1000<=H.da.length then(H,[],5)else
 if fJ H { (eJ ws).1 with num:=(H.da.length:Int)+1}≠0 then(H,[],fJ H { (eJ ws).1 with num:=(H.da.length:Int)+1})
 else(kX H { (eJ ws).1 with num:=(H.da.length:Int)+1},[100,111,110,101,32]++jP ((H.da.length:Int)+1),0)
def Dr{H s}:AS H s=if 4096<s.length then(H,[],26)else if s=[]then(H,[],25)else
  match lD ((bM 32 s).headD [])with
  |some q=>(H,nM H.now (bM 32 s) q)
  |none=>
   match gU ((bM 32 s).headD [])with
   |none=>(H,[],13)
   |some _=>rr H (bM 32 s):=by
 unfold AS;by_cases h1:4096<s.length
 ·rw[ZS h1,ZS h1]
 rw[ZN h1,ZN h1];by_cases h2:s=[]
 ·rw[ZS h2,ZS h2]
 rw[ZN h2,ZN h2];cases lD ((bM 32 s).headD [])with
 |some q=>rfl
 |none=>
  cases gU ((bM 32 s).headD [])with
  |none=>rfl
  |some d=>
   simp only;unfold rr;cases (eJ (bM 32 s)).2<;>rfl
def J8(k:Nat):ai:=(fn43).body.dr k
def Jm(k:Nat):ai:=(J8 k).hd
def Qw:fn43=⟨97,2,[(4,none),(5,none)],.seq (Jm 0) (.seq (Jm 1) (.seq (Jm 2) (.seq (Jm 3) (.seq (Jm 4) (.seq (Jm 5) (J8 6))))))⟩:=rfl
section
variable {P:Program}(T:fy P) {B W:ah}{ts:TS}
include T
def Nr{V b x}(he:Ext B W)(o:cH B.length W b V)(w:kY V.bS)(hl:V.da.length<1000)(ox:bh W x)(hxl:x.ev.names.length<=2^40/\x.ev.cB.length<=2^40)(gl:Gl B):
  du P 112 [.ptr b 0,.agg x.row] W (λv k=>Kf B W b V x.ev v k):=by
 obtain⟨g,rfl⟩:=he;exact MV T o w hl ox hxl gl
def Qv{V b}(he:Ext B W)(o:cH B.length W b V)(w:kY V.bS)(hl:V.da.length<=1000)(gl:Gl B)(pw:Pw B)(Z:qC P){sv ws}(hs:aH W sv 1 (ws.map ao))(hwl:∀x∈ws,x.length<=2^40)
  (hlen:ts.length=97) (t0:slot ts 0=.ptr b 0) (t7:slot ts 7=sv):WC P bN (J8 6) [] ts W (FQ [(4,none),(5,none)] λv k=>mO B W b V (rr V.bS ws) v k):=by
 have T4:=vD ws;have VX:V.bS.da.length=V.da.length:=by simp[HV.bS]
 have lb:=@eQ _ _ _ o.hb;have Vs:=o.rd.ie.aK;unfold J8 fn43;simp only[ai.j,ai.s,ai.r,ai.dr,ai.tl,ai.hd];refine Rs (A2 t0 t7) ?_;refine WF.res T.c111 (r111 T Z hs hwl) ?_;rintro _ g1 ⟨x,hx,rfl,fn,fv⟩;have ox:bh (W++g1) x:=⟨fn.aX,fv.aX⟩;obtain⟨x',SC⟩:∃x':EV,x' =⟨{x.ev with num:=(V.da.length:Int)+1},x.sn,x.sv⟩:=⟨_,rfl⟩;have hrow:x'.row=x.row.set 0 (.i ((V.da.length:Int)+1)):=by rw[SC];rfl
 have Ug:x'.ev.num=(V.da.length:Int)+1:=by rw[SC]
 have hev:({ (eJ ws).1 with num:=(V.bS.da.length:Int)+1}:dN)=x'.ev:=by rw[SC,hx,VX]
 have X5:bh (W++g1) x':=by rw[SC];exact⟨ox.n,ox.v⟩
 have SB:rr V.bS ws=if(eJ ws).2=false then(V.bS,[],25)else if 1000<=V.da.length then(V.bS,[],5)else if fJ V.bS x'.ev≠0 then(V.bS,[],fJ V.bS x'.ev)else(kX V.bS x'.ev,[100,111,110,101,32]++jP ((V.da.length:Int)+1),0):=by
  unfold rr;rw[hev,VX]
 have st:∀{b':Nat}{a0 a1 a2 a3 a4:AV},jI 5 0 (.agg x.row) b' (.b [a0,a1,a2,a3,a4])=some (az,.set b' (.b x.row)):=λ{_ _ _ _ _ _}=>ox.st
 have lB:∀{b':Nat},jI 1 0 (.i ((V.da.length:Int)+1)) b' (.b x.row)=some (az,.set b' (.b x'.row)):=λ{b'}=>by
  rw[hrow];exact bW rfl (by show 0+1<=5;omega)
 have hpost:rr V.bS ws=rr V.bS ws:=rfl;generalize hfm:(eJ ws).2=fm at SB ⊢;cases fm with
 |false=>
  refine Rs (A4 t0 t7 @st @aab) ?_;refine WF.ce T.c85 (r85 T _ _) λg2=>?_
  refine Rs (A4 t0 t7 @lb @Vs) ?_;refine WF.ce T.c85 (r85 T _ _) λg3=>?_
  refine Rs (A2 t0 t7) ?_;refine WF.ce T.c74 (r74 T (cC [_,_]) Si) λg4=>?_
  have e0:∀c,bD [cA true 25,cA c 5]=25:=λc=>by cases c<;>rfl
  have d0:decide ((25:Int)≠0)=true:=rfl;refine Rs (A3 t0 e0 @d0) ?_;exact mO.same o he Xx (by rw[SB];rfl)
 |true=>
  rw[ZN Si]at SB;refine Rs (A4 t0 t7 @st @Z7) ?_;refine WF.ce T.c85 (r85 T _ _) λg2=>?_
  refine Rs (A4 t0 t7 @lb @Vs) ?_;refine WF.ce T.c85 (r85 T _ _) λg3=>?_
  refine Rs (A2 t0 t7) ?_;refine WF.ce T.c74 (r74 T (cC [_,_]) Si) λg4=>?_
  by_cases hk:1000<=V.da.length
  ·have dk:decide ((1000:Int)<=(V.da.length:Int))=true:=ZI Om;have e0:bD [cA false 25,cA true 5]=5:=rfl;have d0:decide ((5:Int)≠0)=true:=rfl;rw[ZS hk]at SB;refine Rs (A4 t0 @dk e0 @d0) ?_;exact mO.same o he Xx SB
  ·have dk:decide ((1000:Int)<=(V.da.length:Int))=false:=ZD Om;have e0:bD [cA false 25,cA false 5]=0:=rfl;have d0:decide ((0:Int)≠0)=false:=rfl;rw[ZN hk]at SB;have w1:IntKind.i64.wrap ((V.da.length:Int)+1)=(V.da.length:Int)+1:=bj Om Om;refine Rs (A9 t0 @dk e0 @d0 @lb @Vs @w1 @lB @b9) ?_;obtain⟨Y,hY⟩:∃Y,Y=W++g1++[ak.b x'.row]++g2++g3++[ak.cells [.i (cA false 25),.i (cA false 5)] true true]++g4:=⟨_,rfl⟩;rw[<-hY];have Xn:Ext W Y:=by rw[hY];exact Xx
   have oY:cH B.length Y b V:=by obtain⟨z,hz⟩:=Xn;rw[hz];exact o.app z
   have oxY:bh Y x':=by rw[hY];exact X5.ext Xx
   have m12:Y[(W++g1).length]? =some (.b x'.row):=by rw[hY];exact Ext.some (h:=W++g1++[ak.b x'.row]) Xx (by rw[ZP (ZO _),aaG];rfl)
   refine WF.gen T.c112 (Nr T (he.trans Xn) oY w Om oxY ⟨by rw[SC];show x.ev.names.length<=_;rw[hx];omega,by rw[SC];show x.ev.cB.length<=_;rw[hx];omega⟩ gl) ?_;rintro _ _ ⟨g',V',rfl,rfl,YQ,XU,hkp,hexn⟩;have hYl:W.length<=Y.length:=by obtain⟨z,hz⟩:=Xn;rw[hz,ZB];omega
   have hkW:∀i,i<W.length->some i∉V.ex b->(B++g')[i]? =W[i]? :=λi hi hn=>by
    rw[hkp i Om hn];obtain⟨z,hz⟩:=Xn;rw[hz,ZF hi]
   have hexW:∀j,some j∈V'.ex b->some j∈V.ex b\/W.length<=j:=λj hj=>(hexn j hj).imp id λh=>by omega
   by_cases UB:fJ V.bS x'.ev=0
   ·have d:decide (fJ V.bS x'.ev≠0)=false:=ZD (λz=>z UB);rw[ZS UB]at XU;rw[ZN (λz=>z UB)]at SB;have m12':(B++g')[(W++g1).length]? =some (.b x'.row):=by
     rw[hkp _ (ZC.1 m12).1 (λhj=>by have:=o.Dl hj;simp only[ZB]at this;omega)];exact m12
    have l12:aq none (.ptr (W++g1).length 0) (λz=>(B++g')[z]?)=some (.i ((V.da.length:Int)+1),.ay):=by rw[aB m12',<-Ug];rfl
    refine Rs (A3 t0 @d @l12) ?_;refine WF.ce T.c113 (Z.itoa Om Om (pw.ext ⟨_,rfl⟩)) λg5=>?_
    have hdl:=mE (k:=7) (u:=((V.da.length:Int)+1).toNat) Om;rw[gJ Om];have hdl:(jP ((V.da.length:Int)+1)).length<=8:=by rw[kU];exact hdl
    have hbc:([100,111,110,101,32] :By).length+(jP ((V.da.length:Int)+1)).length<2^62:=by
     simp only[ZG,ZJ];omega
    have bc:=jR hbc;refine Rs (A2 t0 @bc) ?_;exact⟨g'++g5,V',by rw[ZE],by rw[SB],by rw[<-ZE];exact YQ.app g5,by rw[SB,XU],λi hi hn=>by
     rw[<-ZE,<-hkW i hi hn];have hil:i<(B++g').length:=by
      have e:=hkW i hi hn;rw[ZH hi]at e;exact(ZC.1 e).1
     exact ZF hil,hexW⟩
   ·have d:decide (fJ V.bS x'.ev≠0)=true:=ZI UB;rw[ZN UB]at XU;rw[ZS UB]at SB;refine Rs (A2 t0 @d) ?_;exact⟨g',V',rfl,by rw[SB],YQ,by rw[SB,XU],hkW,hexW⟩
end
def cH.ext{N h k b V}(o:cH N h b V)(e:Ext h k):cH N k b V:=by obtain⟨z,rfl⟩:=e;exact o.app z
def uw{b o}:oQ Q3.E3 (.ptr b o) .nilPtr=some false:=rfl
section
variable {P:Program}(T:fy P) {B g:ah}
include T
def Sa{V b}(o:cH B.length (B++g) b V)(w:kY V.bS)(hl:V.da.length<=1000)(gl:Gl B)(pw:Pw B)(X:DT P)(Z:qC P)(s:By)(hs:s.length<=2^36):
  du P 43 [.ptr b 0,.str s] (B++g) (λv k=>mO B (B++g) b V (AS V.bS s) v k):=by
 refine .of T.mix (acd T.c43 (aai some Qw)) ?_;obtain⟨ts,Sv⟩:∃ts,ts=aT 97 [.ptr b 0,.str s]:=⟨_,rfl⟩;have hlen:ts.length=97:=by rw[Sv];rfl
 have t0:slot ts 0=.ptr b 0:=by rw[Sv];rfl
 have t1:slot ts 1=.str s:=by rw[Sv];rfl
 obtain⟨RR,Tx⟩:∃RR,RR=J8 6:=⟨_,rfl⟩;show WC P bN _ [] (aT 97 [.ptr b 0,.str s]) (B++g) (FQ _ (λv k=>mO B (B++g) b V (AS V.bS s) v k));rw[<-Sv,<-Tx];clear Sv;have he:Ext B (B++g):=⟨g,rfl⟩;obtain⟨W,hW⟩:∃W,W=B++g:=⟨_,rfl⟩;rw[<-hW]at o he ⊢;have eW:Ext W W:=Ext.refl W;have hregs:V.cM.length<=1000:=by
  have e1:=w.ln;have e2:=w.le;exact K2
 have Uj:=Dr (H:=V.bS) (s:=s);unfold Jm J8 fn43;simp only[ai.j,ai.s,ai.r,ai.dr,ai.tl,ai.hd];refine Rs (A3 t0 t1 @uw) ?_;refine WF.ce T.c85 (r85 T _ _) λg1=>?_
 refine Rs (A2 t0 t1) ?_;refine WF.ce T.c85 (r85 T _ _) λg2=>?_
 refine Rs (A2 t0 t1) ?_;refine WF.ce T.c74 (r74 T (cC [_,_]) Si) λg3=>?_
 by_cases h1:4096<s.length
 ·have d1:decide ((4096:Int)<(s.length:Int))=true:=ZI Om;have e0:∀c,bD [cA true 26,cA c 25]=26:=λc=>by cases c<;>rfl
  have d0:decide ((26:Int)≠0)=true:=rfl;rw[ZS h1]at Uj;refine Rs (A5 t0 t1 @d1 e0 @d0) ?_;exact mO.same o he Xx Uj
 have d1:decide ((4096:Int)<(s.length:Int))=false:=ZD Om;rw[ZN h1]at Uj;by_cases h2:s=[]
 ·have d2:decide (s=[])=true:=ZI h2;have e0:bD [cA false 26,cA true 25]=25:=rfl;have d0:decide ((25:Int)≠0)=true:=rfl;rw[ZS h2]at Uj;refine Rs (A6 t0 t1 @d1 @d2 e0 @d0) ?_;exact mO.same o he Xx Uj
 have d2:decide (s=[])=false:=ZD h2;rw[ZN h2]at Uj;have e0:bD [cA false 26,cA false 25]=0:=rfl;have d0:decide ((0:Int)≠0)=false:=rfl;refine Rs (A6 t0 t1 @d1 @d2 e0 @d0) ?_;refine WF.res T.c64 (r64 T X s 32 Om) ?_;intro sv g4 hv;have hwl:=te (c:=32) (s:=s) (n:=2^40) Om;have hwn:(bM 32 s).length<=s.length+1:=by
  rw[rj];have:=List.count_le_length (a:=(32:UInt8)) (l:=s);omega
 have hne:0<(bM 32 s).length:=aby.2 j6;obtain⟨ws,V9⟩:∃ws,ws=bM 32 s:=⟨_,rfl⟩;rw[<-V9]at hv hwl hwn hne Uj;have YX:ws[0]=ws.headD []:=by
  clear hv hwl hwn Uj V9;cases ws with|nil=>simp at hne|cons a r=>rfl
 obtain⟨Y,hY⟩:∃Y,Y=W++g1++g2++[ak.cells [.i (cA false 26),.i (cA false 25)] true true]++g3++g4:=⟨_,rfl⟩;rw[<-hY]at hv ⊢;have Xn:Ext W Y:=by rw[hY];exact Xx
 have oY:cH B.length Y b V:=o.ext Xn;have eB:=he.trans Xn;have qM:=hv.qM (kk:=.i64) hne;have ld0:∀{k:ah},Ext Y k->aq none (cT sv 1 0) (λb=>k[b]?)=some (.str (ws.headD []),.ay):=λ{k} e=>by rw[<-YX];exact hv.kg (i:=0) hne rfl e
 clear o he;refine Rs (A2 t0 t1) ?_;refine WF.res T.c109 (r109 T) ?_;rintro _ g5 ⟨rfl,hg⟩;have hg:g5=[.aR Cy]:=abq hg;subst hg;have lk:∀{z:AV},gZ .s z true (.map Y.length) (.str (ws.headD [])) (λb=>(Y++[ak.aR Cy])[b]?)=lQ z true ((lD (ws.headD [])).map jB):=C0 (by rw[ZP (ZO _),aaG];rfl);cases hq:lD (ws.headD [])with
 |some q=>
  obtain⟨i,nm,wt⟩:=q;rw[hq]at lk Uj;have Te:∀{z:AV},_=some (AV.dL [.agg [.bool nm,.i (wt:Nat),.func (.func (qF i)) [] []],.bool true],iR.ay):=@lk;refine Rs (A7 t0 t1 @qM @ld0 @bC @Te @iP) ?_;refine WF.ce T.c110 (r110 T (oY.rd.ext Xx) w hregs Z (pw.ext (eB.trans Xx)) (hv.ext Xx) hne Om hq) λg6=>?_
  refine Rs t0 ?_;exact(mO.same oY eB Xx Uj).low Xn
 |none=>
  rw[hq]at lk Uj;have Te:∀{z:AV},_=some (AV.dL [z,.bool false],iR.ay):=@lk;refine Rs (A7 t0 t1 @qM @ld0 @bC @Te @iP) ?_;clear lk Te;refine WF.res T.c90 (r90 T) ?_;rintro _ g6 ⟨vf,rfl,hk⟩;obtain⟨Y2,UX⟩:∃Y2,Y2=Y++[ak.aR Cy]++[ak.b [.bool false,.i 0,.nilFunc]]:=⟨_,rfl⟩;rw[<-UX]at hk ⊢;have Vm:Ext Y Y2:=by rw[UX];exact Xx
  have ld2:∀{k:ah},Ext Y2 k->aq none (cT sv 1 0) (λb=>k[b]?)=some (.str (ws.headD []),.ay):=λ{k} e=>ld0 (Vm.trans e)
  have lk:∀{z:AV},gZ .s z true (.map Y2.length) (.str (ws.headD [])) (λb=>(Y2++g6)[b]?)=lQ z true ((gU (ws.headD [])).map vf):=hk.look;cases hd:gU (ws.headD [])with
  |none=>
   rw[hd]at lk Uj;have Te:∀{z:AV},_=some (AV.dL [z,.bool false],iR.ay):=@lk;refine Rs (A8 t0 t1 @qM @ld2 @bC @Te @iP @aab) ?_;exact(mO.same oY eB (Vm.trans Xx) Uj).low Xn
  |some d=>
   rw[hd]at lk Uj;have Te:∀{z:AV},_=some (AV.dL [vf d,.bool true],iR.ay):=@lk;obtain⟨rs,a,hvf,hr,ha,hab⟩:=(hk.k d).ex;rw[hvf]at Te;have c1:=mA d;have c2:=lS d;have c3:=hr.one;refine Rs (mZ t0 t1 @qM @ld2 @bC @Te @Z7 @c1 @c2 @c3 @ha) ?_;have Uj:AS V.bS s=rr V.bS ws:=Uj;rw[Tx,Uj];refine WC.zp (Qv T (eB.trans (Vm.trans Xx)) (oY.ext (Vm.trans Xx)) w hl gl pw Z (hv.ext (Vm.trans Xx)) hwl (Sq t0) (Sq t0) (Sq t0)) ?_;rintro e ts' h' ⟨q1,v,q2,q3⟩;exact⟨q1,v,q2,mO.low q3 (Xn.trans (Vm.trans Xx))⟩
end
def V0:HV:=⟨[],[],[],.af,.af,.af⟩
def Nz{h}:cH h.length (h++[.b [.af,.af,.af]]) h.length V0:=
 ⟨ZO _,by rw[ZP (ZO _),aaG];rfl,.nil,.nil,.nil,rW.2 ⟨λ_ _=>⟨by simp[sB,V0],by simp[sB,V0],by simp[sB,V0]⟩,λ_ z=>by simp[sB,V0]at z,λ_ z=>by simp[sB,V0]at z⟩,
  λx hx=>(by cases hx),λx hx=>(by cases hx),λx hx=>(by cases hx),λx hx=>(by cases hx)⟩
def NA{b}:∀j,some j∈V0.ex b->j=b:=λj hj=>by
 simp only[HV.ex,V0,sB,aag,aaC,abh,aaa,reduceCtorEq]at hj;exact hj
def HT{H ws}(w:kY H):kY (rr H ws).1/\(rr H ws).1.da.length<=H.da.length+1:=by
 unfold rr;split
 ·exact⟨w,aca _⟩
 split
 ·exact⟨w,aca _⟩
 split
 ·exact⟨w,aca _⟩
 ·rename_i h;exact⟨w.add (aa2.1 h),by rw[xA];omega⟩
def Lb{H s}(w:kY H):kY (AS H s).1/\(AS H s).1.da.length<=H.da.length+1:=by
 rw[Dr];split
 ·exact⟨w,aca _⟩
 split
 ·exact⟨w,aca _⟩
 split
 ·exact⟨w,aca _⟩
 split
 ·exact⟨w,aca _⟩
 exact HT w
def tq(x:By×By×Int):List AV:=[.str x.1,.str x.2.1,.i x.2.2]
def mX:iK->List (By×By×Int)->Option iK
 |H,[]=>some H
 |H,x::r=>if(AS H x.1).2.1=x.2.1/\(AS H x.1).2.2=x.2.2 then mX (AS H x.1).1 r else none
section
variable {P:Program}(T:fy P) {h:ah}
include T
def r70:aA P 70 [] h (λv h'=>v=.ptr h.length 0/\h' =h++[.b [.af,.af,.af]]):=by
 refine .of T.mix T.c70 ?_;unfold fn70 gA;exact Wn Tv
def r44{V b}(o:zZ h b V)(w:kY V.bS)(hl:V.da.length<=1000):
  aA P 44 [.ptr b 0] h (λv h'=>∃L':List EV,L'.map EV.ev=V.bS.da/\eE h' L' v):=by
 refine .lB 11 T.mix T.c44 ?_;intro ts hlen t0;unfold fn44 gA;have lb:=@eQ _ _ _ o.hb;refine Rs (A3 t0 @uw @lb) ?_;refine WF.res T.c87 (r87 T ⟨o.ie,o.ae⟩ Om (λx hx=>by
  obtain⟨d,we⟩:=w.ev x.ev (ZT hx);have h3:(bJ d).length<=3/\cD d<=3:=by cases d<;>decide
  have:=we.nl;have:=we.vl;exact⟨Om,Om⟩)) ?_
 rintro v g ⟨L',hL,hf,hx⟩;refine Rs t0 ?_;exact⟨L',hL,hf.aX,λx SC=>(hx x SC).ok⟩
end
def IW(d:Kd):(bz d).length<=16:=by cases d<;>decide
def Dm{e d}(we:jY e d):Q2 e/\(iV e).length<=520:=by
 have h3:(bJ d).length<=3/\cD d<=3:=by cases d<;>decide
 have h1:=we.nl;have h2:=we.vl;have h4:=we.nu;have dl:∀{y:Int},0<=y->y<=999999999->(jP y).length<=64:=λ{y} h0 h1=>by have:=mE (k:=9) (u:=y.toNat) Om;rw[kU];omega
 have hb:(iV e).length<=520:=by
  have hj:=pM (c:=32) (l:=wZ e) λx hx=>by
   unfold wZ at hx;simp only[ZK,aag,aaC,abh,Z3]at hx;rcases hx with((rfl|rfl)|hx)|⟨y,hy,rfl⟩
   ·exact z175
   ·have:=IW d;rw[cj we.kd];omega
   ·have:=vV (we.nm x hx);omega
   ·have:=we.vr y hy;exact dl Om Om
  have hl:(wZ e).length<=8:=by
   unfold wZ;simp only[ZB,ZG,ZJ,ZL];omega
  unfold iV;omega
 exact⟨⟨Om,λx hx=>by have:=we.vr x hx;omega,Om,Om,Om⟩,hb⟩
section
variable {P:Program}(T:fy P) {h:ah}
include T
def r45(Z:qC P)(pw:Pw h){V b}(o:zZ h b V)(w:kY V.bS)(hl:V.da.length<=1000):
  aA P 45 [.ptr b 0] h (λv _=>v=.str (v8 V.bS.da)):=by
 refine .lB 12 T.mix T.c45 ?_;intro ts hlen t0;unfold fn45 gA;have lb:=@eQ _ _ _ o.hb;refine Rs (A3 t0 @uw @lb) ?_;refine WF.res T.c115 (r115 T o.ie (λx hx=>⟨(o.ae x hx).n.one,(o.ae x hx).v.one⟩) Om (λx=>vC x.ev) (λx hx k e=>by
  obtain⟨d,we⟩:=w.ev x.ev (ZT hx);exact bE.of (a:=[]) (c:=[]) T.c97 (r97 T Z ((o.ae x hx).ext e) (Dm we).1 (pw.ext e)))) ?_
 rintro v g hf;refine Rs t0 ?_;have S4:(V.da.map λx=>vC x.ev).flatten.length<=V.da.length*529:=by
  have:∀L:List EV,(∀x∈L,(vC x.ev).length<=529)->(L.map λx=>vC x.ev).flatten.length<=L.length*529:=by
   intro L
   induction L with
   |nil=>intro _;simp
   |cons x r ih=>
    intro hx;have h1:=ih λy hy=>hx y (Z8 _ hy)
    have h2:=hx x Si;rw[aar,aaR,ZB,ZG,aaW];omega
  refine this _ λx hx=>?_
  obtain⟨d,we⟩:=w.ev x.ev (ZT hx);have:=(Dm we).2;rw[Cu T Z];omega
 refine WF.ce T.c114 (Z.join hf.aX ⟨by rw[C7];omega,by rw[ZL];omega⟩) λg2=>?_
 refine Rs t0 ?_;rw[C7,v8,HV.bS,abj];rfl
end
section
variable {P:Program}(T:fy P) {B:ah}
include T
def Qu{W V b}(he:Ext B W)(o:cH B.length W b V)(w:kY V.bS)(hl:V.da.length<=1000)(gl:Gl B)(pw:Pw B)(X:DT P)(Z:qC P)(s:By)(hs:s.length<=2^36):
  du P 43 [.ptr b 0,.str s] W (λv k=>mO B W b V (AS V.bS s) v k):=by
 obtain⟨g,rfl⟩:=he;exact Sa T o w hl gl pw X Z s hs
omit T in
theorem En{h k s es cs}(hs:aH h s es cs)(hk:∀j,sB s=some j->j<h.length->k[j]? =h[j]?):aH k s es cs:=by
 cases hs with
 |nil=>exact .nil
 |mk hb hf ho he=>
  have:=hk _ rfl (ZC.1 hb).1;exact .mk (this.trans hb) hf ho he
omit T in
theorem Lu{h s es cs}(hs:aH h s es cs){j}(hj:sB s=some j):j<h.length:=by
 cases hs with
 |nil=>cases hj
 |mk hb _ _ _=>cases hj;exact(ZC.1 hb).1
def R9{g V b}(o:cH B.length (B++g) b V)(w:kY V.bS)(gl:Gl B)(pw:Pw B)(X:DT P)(Z:qC P){s L}(hs:aH (B++g) s 3 (L.map tq))(hns:∀j,sB s=some j->some j∉V.ex b)
  (hlL:V.da.length+L.length<=1000) (bS:∀x∈L,x.1.length<=2^36) {H'}(ha:mX V.bS L=some H'):
  du P 71 [.ptr b 0,s] (B++g) (λv k=>v=.bool true/\∃g' V',k=B++g'/\cH B.length (B++g') b V'/\V'.bS=H'/\kY V'.bS/\V'.da.length<=1000):=by
 refine .eP 35 T.mix T.c71 ?_;intro ts hlen t0 t1;unfold fn71 gA;refine Rs (A4 t0 t1 @uw hs.aK) ?_;refine WL.inv T.mix (λn ts h'=>∃(k:Nat) (V':HV) (g':ah),k<=L.length/\n=L.length-k/\h' =B++g'/\cH B.length (B++g') b V'/\kY V'.bS/\V'.da.length<=V.da.length+k/\mX V'.bS (L.drop k)=some H'/\aH (B++g') s 3 (L.map tq)/\(∀j,sB s=some j->some j∉V'.ex b)/\
   ts.length=35/\slot ts 0=.ptr b 0/\slot ts 11=s/\slot ts 12=.i L.length/\slot ts 13=.i k) L.length
  ⟨0,V,g,Om,rfl,rfl,o,w,Om,ha,hs,hns,Sn,(Sq t0),(Sq t1),(Sq t0),gP⟩ ?_
 clear t0 t1 hlen o w hs hns ha;clear ts;rintro _ ts _ ⟨k,V',g',hk,rfl,rfl,o,w,hVl,ha,hs,hns,hlen,t0,t11,t12,t13⟩;by_cases hlt:k<L.length
 ·have e3:=eC hlt;have e5:=wrapN (n:=k) Om;have ix:=hs.dE (kk:=.i64) hlt;have ld:∀{k'},Ext (B++g') k'->aq (some 3) (cT s 3 k) (λb=>k'[b]?)=some (.agg (tq L[k]),.ay):=λ{k'} e=>hs.kf hlt e
  obtain⟨⟨a,m,c⟩,hx⟩:∃x,x=L[k]:=⟨_,rfl⟩;have hm:(a,m,c)∈L:=by rw[hx];exact ZR _
  have hd:L.drop k=(a,m,c)::L.drop (k+1):=by rw[hx];simp
  rw[<-hx]at ld;unfold tq at ld;rw[hd,mX]at ha;split at ha
  case isFalse=>cases ha
  case isTrue hc=>
  have hc1:(AS V'.bS a).2.1=m:=hc.1;have Zv:(AS V'.bS a).2.2=c:=hc.2;have hwd:=Lb (s:=a) w;obtain⟨W,hW⟩:∃W,W=B++g'++[ak.b [.str a,.str m,.i c]]:=⟨_,rfl⟩;have eW:Ext (B++g') W:=by rw[hW];exact Xx
  have mW:W[(B++g').length]? =some (.b [.str a,.str m,.i c]):=by rw[hW,ZP (ZO _),aaG];rfl
  have lW:∀{kk:ah}{n':Option Nat}{q:Nat},kk[(B++g').length]? =some (.b [.str a,.str m,.i c])->aq n' (.ptr (B++g').length q) (λz=>kk[z]?)=dJ n' q (.b [.str a,.str m,.i c]):=λe=>aB e
  refine Rs (A7 t0 t11 t12 t13 e3 ix @ld) ?_;rw[<-hW];have lW1:=λ{n':Option Nat}{q:Nat}=>@lW W n' q mW
  refine Rs (A5 t0 t11 t12 t13 @lW1) ?_;refine WF.gen T.c43 (Qu T ((Ext.app _ (Ext.refl _):Ext B (B++g')).trans eW) (o.ext eW) w Om gl pw X Z a (bS _ hm)) ?_;rintro _ _ ⟨g2,V2,rfl,rfl,o2,hV2,hkp,hex⟩;have hWl:W.length=(B++g').length+1:=by rw[hW,ZB];rfl
  have m2:(B++g2)[(B++g').length]? =some (.b [.str a,.str m,.i c]):=by
   rw[hkp _ Om (λhj=>by have:=o.Dl hj;omega)];exact mW
  have lW2:=λ{n':Option Nat}{q:Nat}=>@lW (B++g2) n' q m2
  have d1:decide (m≠m)=false:=ZD (λz=>z rfl);have d2:decide (c≠c)=false:=ZD (λz=>z rfl);rw[hc1,Zv];refine Rs (A8 t0 t11 t12 t13 @lW2 @d1 @d2 e5) ?_;have hsW:=hs.ext eW;refine⟨L.length-(k+1),Om,k+1,V2,g2,Om,rfl,rfl,o2,by rw[hV2];exact hwd.1,?_,by rw[hV2];exact ha,En hsW λj hj hl=>hkp j hl (hns j hj),λj hj hx=>?_,rfl⟩
  ·have e1:V2.da.length=V2.bS.da.length:=by simp[HV.bS]
   have e2:V'.da.length=V'.bS.da.length:=by simp[HV.bS]
   have:=hwd.2;rw[<-hV2]at this;omega
  ·rcases hex j hx with hx|hx
   ·exact hns j hj hx
   ·have:=Lu hs hj;omega
 ·have e3:=ff hlt;have e4:k=L.length:=Om
  rw[e4,aaF,mX]at ha;cases ha;refine Rs (A5 t0 t11 t12 t13 e3) ?_;exact⟨g',V',rfl,o,rfl,w,Om⟩
end
def Ka:List (By×By×Int):=[
 ([116,97,112,101,32,97,32,49,32,49,48],[100,111,110,101,32,49],0),
 ([116,97,112,101,32,98,32,53,32,49,48,48],[100,111,110,101,32,50],0),
 ([108,105,110,101,32,108,49,32,53,32,50],[100,111,110,101,32,51],0),
 ([115,104,111,116,32,115,49,32,108,49,32,97,32,54],[100,111,110,101,32,52],0),
 ([115,104,111,116,32,115,50,32,108,49,32,98,32,55],[100,111,110,101,32,53],0),
 ([99,111,112,121,32,97,32,98,32,56],[100,111,110,101,32,54],0),
 ([116,97,112,101,115,32,115,49],[97,32,98],0),
 ([99,111,112,121,32,97,32,98,32,49,50],[],30),
 ([119,97,110,116,32,108,49],[50,32,50,32,111,112,101,110],0),
 ([97,99,99,101,112,116,32,108,49,32,57],[100,111,110,101,32,55],0),
 ([115,104,111,116,32,115,51,32,108,49,32,98,32,57],[],23),
 ([115,111,117,114,99,101,32,109,49,32,108,49,32,57],[100,111,110,101,32,56],0),
 ([109,111,100,117,108,101,32,109,50,32,109,49,32,57,32,50],[100,111,110,101,32,57],0),
 ([109,111,100,117,108,101,32,109,51,32,109,50,32,57,32,51],[100,111,110,101,32,49,48],0),
 ([109,111,100,117,108,101,32,109,52,32,109,49,32,57,32,51],[],2),
 ([109,101,114,103,101,32,109,52,32,109,49,32,109,50,32,57],[],2),
 ([114,117,110,32,106,49,32,109,51,32,49,48,32,51],[100,111,110,101,32,49,49],0),
 ([116,105,108,101,32,106,49,32,49,48,32,50,32,55],[100,111,110,101,32,49,50],0),
 ([116,105,108,101,32,106,49,32,49,48,32,48,32,53],[100,111,110,101,32,49,51],0),
 ([108,101,102,116,32,106,49],[49],0),
 ([102,97,105,108,32,106,49,32,49,49,32,50],[100,111,110,101,32,49,52],0),
 ([108,101,102,116,32,106,49],[49,32,50],0),
 ([112,105,99,116,117,114,101,32,112,49,32,106,49,32,49,49],[],32),
 ([116,105,108,101,32,106,49,32,49,49,32,49,32,54],[100,111,110,101,32,49,53],0),
 ([116,105,108,101,32,106,49,32,49,49,32,50,32,55],[100,111,110,101,32,49,54],0),
 ([112,105,99,116,117,114,101,32,112,49,32,106,49,32,49,50],[100,111,110,101,32,49,55],0),
 ([102,114,111,109,32,112,49],[115,49,32,115,50],0),
 ([108,105,110,101,115,32,109,51],[108,49],0),
 ([117,110,115,97,102,101],[110,111,110,101],0),
 ([114,101,108,101,97,115,101,32,112,49,32,49,50],[100,111,110,101,32,49,56],0),
 ([117,110,100,111],[],21),
 ([114,101,108,101,97,115,101,100],[112,49,32,53,50,57,49,55,52],0)]
def uT:iK:=(mX iK.zero Ka).getD iK.zero
set_option maxRecDepth 100000 in
def Nh:(mX iK.zero Ka).isSome=true:=by decide+kernel
set_option maxRecDepth 100000 in
def Jw:uT.da.length=18:=by decide+kernel
set_option maxRecDepth 100000 in
def DH:vw (uT.da.take 5) [115,49] 12=(false,0):=by decide+kernel
set_option maxRecDepth 100000 in
def DG:vw uT.da [115,49] 105=(true,0):=by decide+kernel
set_option maxRecDepth 100000 in
def Js:qE uT.da 106=([[115,49],[115,50]],0):=by decide+kernel
set_option maxRecDepth 100000 in
def F7:tw uT.da [109,51]=([[109,49],[109,50],[109,51]],0):=by decide+kernel
set_option maxRecDepth 100000 in
def Jx:AX [5,6,7]=(529174,0):=by decide+kernel
set_option maxRecDepth 100000 in
def w8:(ni uT.da [108,49]).1.length=8/\(ni uT.da [108,49]).2=0:=by decide+kernel
set_option maxRecDepth 100000 in
def Jv:(v8 uT.da).length<=100000:=by decide+kernel
set_option maxRecDepth 100000 in
def Ju:(lL (v8 uT.da++[49])).2.2=28/\(lL (v8 uT.da++[49])).1.length=18/\(lL (v8 uT.da++[49])).2.1=(v8 uT.da).length:=by decide+kernel
set_option maxRecDepth 100000 in
def Jt:nR [49,49]=[48,49,51,49,53,56,49]:=by decide+kernel
def zN{h c N}:mU .NS (.slice h.length 0 1 1) (λb=>(h++[ak.cells [.int .u8 c] true true])[b]?) N=some (.str [UInt8.ofNat c.toNat],.ay):=by
 simp only[mU,fq,Z1,aV];rfl
def zI{n}(h0:0<=n)(h1:n<10):UInt8.ofNat (IntKind.u8.wrap (IntKind.i64.wrap (48+n))).toNat=UInt8.ofNat (48+n.toNat):=by
 rw[bj Om Om,HS Om Om];congr 1;omega
section
variable {P:Program}(T:fy P)
include T
set_option maxRecDepth 10000 in
def r197:∀{k}{n}{h},0<=n->n<10^(k+1)->k<=15->aA P 197 [.i n] h (λv _=>v=.str (jP n)):=by
 intro k
 induction k with
 |zero=>
  intro n h h0 h1 _;refine .of T.mix T.c197 ?_;unfold fn197 gA;have h10:n<10:=by simpa using h1
  have d0:decide (n<0)=false:=ZD Om;exact Q9
 |succ k ih=>
  intro n h h0 h1 hk;refine .of T.mix T.c197 ?_;unfold fn197 gA;have d0:decide (n<0)=false:=ZD Om;by_cases h10:n<10
  ·exact Q9
  ·have d1:decide (n<10)=false:=ZD h10;have hb:n<=10^17:=by
    have:(10:Int)^(k+1+1)<=10^17:=by
     have:=Nat.pow_le_pow_right (n:=10) De (show k+1+1<=17 by omega)
     exact_mod_cast this
    omega
   have eq:n.tdiv 10=n / 10:=Int.tdiv_eq_ediv_of_nonneg h0;have em:n.tmod 10=n%10:=Int.tmod_eq_emod_of_nonneg h0;have w1:IntKind.i64.wrap (n / 10)=n / 10:=bj Om Om;have bq:eF .quo (.i n) (.i 10)=some (.i (n / 10)):=by rw[FU De,eq,w1]
   have bm:eF .rem (.i n) (.i 10)=some (.i (n%10)):=by rw[oZ De,em]
   refine Ws (A4 @d0 @d1 @bq @bm) ?_;refine WF.ce T.c197 (ih Om (by rw[Int.pow_succ]at h1;omega) Om) λg1=>?_
   have hd:=mE (k:=k) (u:=(n / 10).toNat) (by
    have h2:n / 10<10^(k+1):=by rw[Int.pow_succ]at h1;omega
    have h3:(((n / 10).toNat:Nat):Int)<((10^(k+1):Nat):Int):=by rw[Int.toNat_of_nonneg Om];exact_mod_cast h2
    exact_mod_cast h3)
   have bc:∀{c:UInt8},eF .add (.str (jP (n / 10))) (.str [c])=some (.str (jP (n / 10)++[c])):=jR (by rw[kU];simp;omega);refine Ws (A5 @bq @bm @uM @zN @bc) ?_;rw[zI Om Om,kU,kU,Lib.decDigits.eq_def n.toNat,dif_neg Om];congr 3
   ·omega
   ·congr 2;omega
def r108{k n h}(h0:0<=n)(h1:n<10^(k+1))(hk:k<=15):aA P 108 [.i n] h (λv _=>v=.str (jP n)):=by
 refine .of T.mix T.c108 ?_;unfold fn108 gA;refine Wn ?_;refine WF.ce T.c197 (r197 T h0 h1 hk) λg=>?_
 exact Wn Tv
set_option maxRecDepth 10000 in
def r72{h}(s:By)(hs:s.length<=2^40):aA P 72 [.str s] h (λv _=>v=.str (nR s)):=by
 refine .lB 28 T.mix T.c72 ?_;intro ts hlen t0;unfold fn72 gA;refine Rs t0 ?_;refine WL.inv T.mix (λn ts' h'=>∃k:Nat,k<=s.length/\n=s.length-k/\h' =h/\ts'.length=28/\slot ts' 0=.str s/\slot ts' 3=.i (iL (s.take k))/\slot ts' 4=.i k) s.length
  ⟨0,Om,rfl,rfl,(Sq t0),(Sq t0),gP,gP⟩ ?_
 rintro _ ts' hz ⟨k,hk,rfl,hh,TN,u0,u3,u4⟩;rw[hh];clear hh hz;clear hlen t0;have hlen:=TN;clear TN;by_cases hlt:k<s.length
 ·have e3:=eC hlt;have hb:=nS (s.take k);have hcn:=UInt8.toNat_lt s[k];have w1:IntKind.i64.wrap (339*iL (s.take k))=339*iL (s.take k):=bj Om Om;have w2:IntKind.i64.wrap (s[k].toNat:Int)=(s[k].toNat:Int):=bj Om Om;have w3:IntKind.i64.wrap (339*iL (s.take k)+(s[k].toNat:Int))=339*iL (s.take k)+(s[k].toNat:Int):=bj Om Om;have er:=oZ (k:=.i64) (a:=339*iL (s.take k)+(s[k].toNat:Int)) (b:=9999749) De;rw[<-vh,<-nh hlt]at er
  repeat (first|simp (config:={maxSteps:=1000000}) only[aS,aW,bo,bp,reduceAdd,reduceMul,reduceLeDiff,reduceEqDiff,bw,hlen,ZY,Z1,u0,u3,u4,e3,jU hlt,w1,w2,w3,er,wrapN (show k+1<2^63 by omega)]|simp (config:={maxSteps:=1000000}) (disch:=first|(simp only[ZB,ZG,ZJ]<;>omega)|rfl|omega|fail) only[fN,aS,aW,bo,bp,reduceAdd,reduceMul,reduceLeDiff,reduceEqDiff,bw,hlen,ZY,Z1,u0,u3,u4,e3,jU hlt,w1,w2,w3,er,wrapN (show k+1<2^63 by omega)])
  exact KC
 ·have e3:=ff hlt;have ek:k=s.length:=Om
  rw[ek,aam]at u3;have hb:=nS s;have hl:=tY s;refine Rs (A4 @u0 @u3 @u4 e3) ?_;refine WF.ce T.c108 (r108 T (k:=7) hb.1 Om Om) λg=>?_
  refine Rs @u0 ?_;generalize hd:jP (iL s)=d at hl;have hT:nR s=List.replicate (7-d.length) 48++d:=by unfold nR;rw[hd]
  refine WL.inv T.mix (λn ts' h'=>∃j:Nat,d.length+j<=7/\n=7-(d.length+j)/\Ext h h'/\ts'.length=28/\slot ts' 5=.str (List.replicate j 48++d)) (7-d.length)
   ⟨0,Om,rfl,Xx,(Sq @u0),gP⟩ ?_
  rintro _ VI _ ⟨j,hj,rfl,⟨g2,rfl⟩,Wr,v5⟩;clear hlen;have hlen:=Wr;by_cases h7:d.length+j<7
  ·have e7:decide (((List.replicate j (48:UInt8)++d).length:Int)<7)=true:=ZI (by rw[ZB,aaK];omega);have hbc:([48] :By).length+(List.replicate j (48:UInt8)++d).length<2^62:=by rw[ZB,aaK];simp only[ZG,ZJ];omega
   have bc:=jR hbc;refine Rs (A3 @v5 e7 @bc) ?_;exact⟨7-(d.length+(j+1)),Om,j+1,Om,rfl,rfl⟩
  ·have e7:decide (((List.replicate j (48:UInt8)++d).length:Int)<7)=false:=ZD (by rw[ZB,aaK];omega);have ej:j=7-d.length:=Om
   refine Rs (A2 @v5 e7) ?_;rw[hT,ej]
end
def J9(k:Nat):ai:=(fn15).body.dr k
def F5(k:Nat):ai:=(J9 k).hd
def Ng:fn15=⟨158,0,[(0,none)],.seq (F5 0) (.seq (F5 1) (.seq (F5 2) (J9 3)))⟩:=rfl
def wy{h:ah}{M:List (By)}:aH (h++[ak.cells (M.map ao).flatten true true]) (.slice h.length 0 (M.map ao).length 1) 1 (M.map ao):=(Fr.push (es:=1) (N:=0) (aac _) (M.map ao) (by simp[ao])).aX
section
variable {P:Program}(T:fy P) {h:ah}
include T
omit T in
theorem F6:mX iK.zero Ka=some uT:=by
 have:=Nh;unfold uT;generalize mX iK.zero Ka=o at this ⊢;cases o with
 |none=>cases this
 |some x=>rfl
def Nl{B W V b}(he:Ext B W)(o:cH B.length W b V)(w:kY V.bS)(gl:Gl B)(pw:Pw B)(X:DT P)(Z:qC P){s L}(hs:aH W s 3 (L.map tq))(hns:∀j,sB s=some j->some j∉V.ex b)
  (hlL:V.da.length+L.length<=1000) (bS:∀x∈L,x.1.length<=2^36) {H'}(ha:mX V.bS L=some H'):
  du P 71 [.ptr b 0,s] W (λv k=>v=.bool true/\∃g' V',k=B++g'/\cH B.length (B++g') b V'/\V'.bS=H'/\kY V'.bS/\V'.da.length<=1000):=by
 obtain⟨g,rfl⟩:=he;exact R9 T o w gl pw X Z hs hns hlL bS ha
def QJ(X:DT P)(Z:qC P){W:ah}(gl:Gl W)(pw:Pw W){V:HV}{b:Nat}(o:zZ W b V)(w:kY V.bS)(hl:V.da.length<=1000)(hV:V.bS=uT){ts:TS}(hlen:ts.length=158)(t1:slot ts 1=.ptr b 0)(he:Ext h W):
  WC P bN (J9 3) [] ts W (FQ [(0,none)] λv k=>Ext h k/\v=.bool true):=by
 unfold J9 fn15 gA;simp only[ai.j,ai.s,ai.r,ai.dr,ai.tl,ai.hd];refine Rs t1 ?_;refine WF.res T.c44 (r44 T o w hl) ?_;rintro sv g1 ⟨L,hL,oL⟩;rw[hV]at hL;have XW:L.length=18:=by have:=aai List.length hL;rw[ZL,Jw]at this;exact this
 have hsh:∀x∈L,x.ev.names.length<=2^30/\x.ev.cB.length<=2^30:=λx hx=>by
  obtain⟨d,we⟩:=w.ev x.ev (by rw[hV,<-hL];exact ZT hx);have h3:(bJ d).length<=3/\cD d<=3:=by cases d<;>decide
  have:=we.nl;have:=we.vl;exact⟨Om,Om⟩
 have sh:uV L:=⟨Om,hsh⟩;have d18:decide ((L.length:Int)≠18)=false:=ZD (λz=>z Om);obtain⟨s5,e5,h5⟩:=oL.sl.GR (lo:=none) (hi:=some (.i 5)) (l:=0) (u:=5) (jQ (k:=5) Om);have h5':aH (W++g1) s5 5 ((L.take 5).map EV.row):=h5;have o5:eE (W++g1) (L.take 5) s5:=⟨h5',λx hx=>oL.all x (aaD hx)⟩;have sh5:uV (L.take 5):=⟨by rw[aaB];omega,λx hx=>hsh x (aaD hx)⟩;have m5:(L.take 5).map EV.ev=uT.da.take 5:=by rw[List.map_take,hL]
 refine Rs (A4 t1 oL.sl.aK @d18 e5) ?_;refine WF.ce T.c16 (r16 T o5 sh5 (gl.ext Xx) [115,49] 12) λg2=>?_
 rw[m5,DH];refine Rs t1 ?_;refine WF.ce T.c16 (r16 T (oL.ext Xx) sh (gl.ext Xx) [115,49] 105) λg3=>?_
 rw[hL,DG];refine Rs t1 ?_;refine WF.res T.c17 (r17 T (oL.ext Xx) sh (gl.ext Xx) 106) ?_;rintro _ g4 ⟨su,rfl,hu⟩;rw[hL,Js]at hu ⊢;refine Rs t1 ?_;refine WF.res T.c51 (r51 T (oL.ext Xx) sh (gl.ext Xx) [109,51]) ?_;rintro _ g5 ⟨sn,rfl,hn⟩;rw[hL,F7]at hn ⊢;refine Rs t1 ?_;refine WF.ce T.c27 (r27 T (cC [5,6,7]) De) λg6=>?_
 rw[Jx];refine Rs t1 ?_;refine WF.res T.c26 (r26 T (oL.ext Xx) sh (gl.ext Xx) [108,49]) ?_;rintro _ g7 ⟨ss,Ls,rfl,os,hLs⟩;rw[hL]at hLs ⊢;have hLsl:Ls.length=8:=by have:=aai List.length hLs;rw[ZL,w8.1]at this;exact this
 rw[w8.2];refine Rs t1 ?_;refine WF.ce T.c45 (r45 T Z (pw.ext Xx) (o.ext Xx) w hl) λg8=>?_
 rw[hV];have hlg:=Jv;have hrc:=Ju;generalize v8 uT.da=lg at hlg hrc ⊢;have bc:=jR (show lg.length+([49] :By).length<2^62 by simp only[ZG,ZJ];omega);refine Rs (A2 t1 @bc) ?_;refine WF.res T.c37 (r37 T X Z (pw.ext Xx) (lg++[49]) (by rw[ZB];simp only[ZG,ZJ];omega)) ?_;rintro _ g9 ⟨Lr,sr,hLr,rfl,fr,-⟩;have hLrl:Lr.length=18:=by have:=aai List.length hLr;rw[ZL,hrc.2.1]at this;exact this
 rw[hrc.1,hrc.2.2];have d8:decide ((Ls.length:Int)=8)=true:=ZI Om;have d19:decide ((Lr.length:Int)=18)=true:=ZI Om;have wz:IntKind.i64.wrap ((0:Int)+0)=0:=rfl;have z0:decide ((0:Int)=0)=true:=rfl;refine Rs (A5 t1 @wz @z0 @aab @Z5) ?_;refine WF.res T.c25 (r25 T (L:=[[115,49],[115,50]]) (M:=[[115,49],[115,50]]) ?hu (wy (M:=[[115,49],[115,50]])) De De) ?_
 case hu=>exact hu.ext Xx
 rintro _ k1 rfl;have q1:decide (([[115,49],[115,50]] :List (By))=[[115,49],[115,50]])=true:=rfl;have q2:decide (([[109,49],[109,50],[109,51]] :List (By))=[[109,49],[109,50],[109,51]])=true:=rfl;rw[q1];refine Rs (A2 t1 @Z5) ?_;refine WF.res T.c25 (r25 T (L:=[[109,49],[109,50],[109,51]]) (M:=[[109,49],[109,50],[109,51]]) ?hn (wy (M:=[[109,49],[109,50],[109,51]])) De De) ?_
 case hn=>exact hn.ext Xx
 rintro _ k2 rfl;rw[q2];have q3:decide ((529174:Int)=529174)=true:=rfl;have q4:decide ((28:Int)=28)=true:=rfl;have q5:decide ((lg.length:Int)=(lg.length:Int))=true:=ZI rfl;refine Rs (A9 t1 q3 q4 q5 @d8 @d19 os.sl.aK fr.aX.aK @Z5) ?_;refine WF.ce T.c72 (r72 T [49,49] De) λk3=>?_
 have q6:decide (([48,49,51,49,53,56,49] :By)=[48,49,51,49,53,56,49])=true:=ZI rfl;rw[Jt];refine Rs (A3 t1 q6 @Z5) ?_;exact⟨he.trans Xx,trivial⟩
def r15(X:DT P)(Z:qC P)(gl:Gl h)(pw:Pw h):aA P 15 [] h (λv _=>v=.bool true):=by
 refine .of T.mix (acd T.c15 (aai some Ng)) ?_;obtain⟨ts,Sv⟩:∃ts,ts=aT 158 []:=⟨_,rfl⟩;have hlen:ts.length=158:=by rw[Sv];rfl
 obtain⟨RR,Tx⟩:∃RR,RR=J9 3:=⟨_,rfl⟩;show WC P bN _ [] (aT 158 []) h (FQ _ _);rw[<-Sv,<-Tx];clear Sv;unfold F5 J9 fn15 gA;simp only[ai.j,ai.s,ai.r,ai.dr,ai.tl,ai.hd];refine Rs @hlen ?_;refine WF.res T.c70 (r70 T) ?_;rintro _ g0 ⟨rfl,hg⟩;have hg:g0=[.b [.af,.af,.af]]:=abq hg;subst hg;refine Rs @hlen ?_;refine WF.gen T.c71 (Nl T (B:=h) (V:=V0) (b:=h.length) (L:=Ka) (H':=uT) Xx (Nz.app _) kY.zero gl pw X Z (Fr.push (N:=0) (h:=h++[ak.b [.af,.af,.af]]) (es:=3) (aac _) (Ka.map tq) (λx hx=>by obtain⟨y,_,rfl⟩:=Z3.1 hx;rfl)).aX (λj hj hx=>by
  have:=NA j hx;have e:(h++[ak.b [.af,.af,.af]]).length=j:=aaE hj;rw[ZB]at e;simp at e;omega) De De F6) ?_
 rintro _ _ ⟨rfl,g',V',rfl,oV,hV,wV,hVl⟩;refine Rs (A2 @hlen @Z7) ?_;rw[Tx];exact QJ T X Z (gl.ext ⟨_,rfl⟩) (pw.ext ⟨_,rfl⟩) oV.rd wV hVl hV (Sq @hlen) (Sq @hlen) ⟨_,rfl⟩
end
def yn:Go.Proofs.Tryz.prog.globals.size=9:=by kernel_rfl
def Fv:Fw Go.Proofs.Tryz.prog 2=20:=by kernel_rfl
open Go.RowKit in
def Fp{h:ah}{n:Int}(h0:-9223372036854775808<=n)(h1:n<=9223372036854775807){mu tl:Bool}(hb:h[2]? =some (.cells (Lib.pow10Tab.map (AV.int .u64)) mu tl)):
  l9 Go.Proofs.Tryz.prog 113 [.int .i64 n] h (.str (Lib.itoa n)) h:=by
 intro m w vs hr ha;obtain⟨v,vs1,rfl,hv,hr1⟩:=aQ.1 ha;rw[bB]at hr1;subst hr1;rw[VR]at hv;subst hv;obtain⟨e,he,hcb,hd,-,eG⟩:=hr.gu 2 (by rw[yn];omega);obtain⟨cc,el,fz,hw,⟨hle,Va,hsz2⟩,SF,-,-⟩:=hr.dU 2 e _ he hb;have htab:Lib.TabIs Go.Proofs.Tryz.prog w "internal/strconv.uint64pow10" .u64 Lib.pow10Tab:=by
  unfold Lib.TabIs World.var?;rw[Go.Proofs.Tryz.zu.m17];show(match w.heap[2]? with|some (.cells cs _ _)=>some cs|_=>none)=_;rw[hcb]at hw;rw[hw];have h20:cc.size=20:=by rw[hsz2,eG,Fv]
  refine aai some (Array.ext_getElem? λi=>?_);by_cases hi:i<20
  ·have hl:i<Lib.pow10Tab.length:=by rw[Lib.pow10Tab_length];exact hi
   obtain⟨_,cv,Uy,SA⟩:=SF i (.int .u64 Lib.pow10Tab[i]) (by rw[aa8,ZH hl];rfl);rw[VR]at SA;rw[hd,aau]at Uy;rw[Uy,SA,aa7,aa8,ZH hl];rfl
  ·rw[aba Om,aba (by rw[List.size_toArray,ZL,Lib.pow10Tab_length];omega)]
 refine(Go.Proofs.Any.strconv_Itoa Go.Proofs.Tryz.zu n h0 h1 w htab).mono ?_;rintro e' w' ⟨rfl,k,os,rfl⟩;have hh:∀i,i<w.heap.size->(Go.Sort.grow (w.drewN k) os).heap[i]? =w.heap[i]? :=λi hi=>by
  show(w.heap++os)[i]? =_;rw[Array.getElem?_append_left hi]
 have hs:w.heap.size<=(Go.Sort.grow (w.drewN k) os).heap.size:=by
  show w.heap.size<=(w.heap++os).size;simp
 exact⟨_,m,rfl,rfl,⟨hr.cN,λb' e' k' a1 a2=>(hr.dU b' e' k' a1 a2).heap (hh _ (hr.lt b' e' a1)),hr.sep,hr.gu,λb' e' a1=>aax (hr.lt b' e' a1) hs⟩,
  ⟨λ_ _=>rfl,ZO _,λb' e' a1 a2=>absurd (hr.cN b' e' a2) Om,λ_ _ x=>x,hs,rfl,rfl,rfl,λi hi _=>hh i hi⟩⟩
theorem s9:∀xs:List (By),(xs.map λx=>[AV.str x]).flatten=xs.map AV.str
 |[]=>rfl
 |x::xs=>by rw[aar,aaR,s9 xs];rfl
def aH.inv{h:ah}{b o n e es:Nat}{cs:List (List AV)}(hs:aH h (.slice b o n e) es cs):n=cs.length/\∃c mu tl,h[b]? =some (.cells c mu tl)/\(c.drop o).take (cs.length*es)=cs.flatten:=by
 generalize hx:AV.slice b o n e=x at hs;cases hs with
 |nil=>cases hx
 |mk hb hf ho he=>cases hx;exact⟨rfl,_,_,_,hb,hf⟩
open Go.RowKit in
def Fo{h:ah}{s:AV}{sep:By}{xs:List (By)}(hs:aH h s 1 (xs.map λx=>[AV.str x]))(hl:(Lib.join xs sep).length<=140737488355328/\xs.length<=140737488355328):l9 Go.Proofs.Tryz.prog 114 [s,.str sep] h (.str (Lib.join xs sep)) h:=by
 intro m w vs hr hargs;obtain⟨v1,vs1,rfl,Xf,hr1⟩:=aQ.1 hargs;obtain⟨v2,vs2,rfl,Wc,TK⟩:=aQ.1 hr1;rw[bB]at TK;subst TK;rw[VR]at Wc;subst Wc;have fin:∀e w',(e=.returned (.string ⟨(Lib.join xs sep).toArray⟩)/\Below w.heap.size w w')->Rel Go.Proofs.Tryz.prog m h w (.str (Lib.join xs sep)) h e w':=by
  rintro e w' ⟨rfl,hb⟩;exact⟨_,m,rfl,rfl,⟨hr.cN,λb e k h1 h2=>(hr.dU b e k h1 h2).heap (hb.block _ (hr.lt b e h1)),hr.sep,hr.gu,λb e h1=>aax (hr.lt b e h1) hb.size⟩,
   ⟨λ_ _=>rfl,ZO _,λb e h1 h2=>absurd (hr.cN b e h2) Om,λ_ _ h=>h,hb.size,hb.os,hb.output,hb.tape,λi hi _=>hb.block i hi⟩⟩
 have zero:xs=[]->∀(a:Option Addr) (c:Nat),Calls Go.Proofs.Tryz.prog 114 #[.slice a 0 c,.string ⟨⟨sep⟩⟩] w (Rel Go.Proofs.Tryz.prog m h w (.str (Lib.join xs sep)) h):=λhx a c=>by
  refine(Go.Proofs.Tryz.strings_Join_none a c ⟨⟨sep⟩⟩ w).mono λe w' ⟨he,hw⟩=>fin e w' ⟨?_,hw▸Below.refl _ _⟩
  rw[he,hx];rfl
 have hlen:=hs.aK (λ_=>none);cases s with
 |af=>
  rw[VR]at Xf;subst Xf;simp only[Go.Abs.ju,Z1,aaa]at hlen;exact zero (aay.1 hlen.symm) none 0
 |slice b o n es=>
  simp only[Go.Abs.ju,Z1,aaa]at hlen;subst hlen;rw[VR]at Xf;obtain⟨ent,ca,cap,he,rfl,hcap,Ti,eG⟩:=Xf;by_cases hz:xs.length=0
  ·have Ur:=aay.1 hz;have:=zero Ur (some ca) cap;rw[hz];exact this
  ·have hca':=Ti Om;subst hca';generalize UW:xs.map (λx=>[AV.str x])=cs at hs;have hcl:cs.length=xs.length:=by rw[<-UW];simp
   obtain⟨_,c,mu,tl,hb,hf⟩:=hs.inv
   ·obtain⟨cc,el,fz,hheap,_,Tr,_⟩:=hr.dU b ent _ he hb;have key:=Go.Proofs.Tryz.strings_Join ent.cb (o+ent.d) cap (xs.map λl=>⟨⟨l⟩⟩) ⟨⟨sep⟩⟩ w ?_ (hr.lt b ent he) (by rw[ZL];exact hl.2) (by rw[ZL];omega) ?_
    ·rw[ZL]at key;refine key.mono λe w' ⟨he,hw⟩=>fin e w' ⟨?_,hw⟩
     rw[he,abj];simp[ab0]
    ·intro j x hx;rw[aa8,Z2]at hx;obtain⟨l,SI,rfl⟩:=hx;have hj:j<xs.length:=(ZC.1 SI).1;have Yn:cs.flatten[j]? =some (.str l):=by
      rw[<-UW];have:=s9 xs;rw[this,aa8,SI];rfl
     rw[<-hf,List.getElem?_take,ZS Om,abT]at Yn;obtain⟨_,cv,Uy,SA⟩:=Tr _ _ Yn;rw[VR]at SA;subst SA;simp only[World.cell?,hheap,Option.isSome_none,aav,ZY];rw[show o+ent.d+j=ent.d+(o+j) by omega];exact Uy
    ·rw[abj]
     simpa [ab0]using hl.1
 |_=>cases hs
open Go.RowKit in
def tj{P:Program}{m:bY}{h:ah}{w:World}(hr:HR P m h w){a:AV}{v:Value}{e:Ending}{w':World}(hv:VR m a v)(he:e=.returned v)(hb:Below w.heap.size w w'):Rel P m h w a h e w':=
 ⟨v,m,he,hv,⟨hr.cN,λb e k h1 h2=>(hr.dU b e k h1 h2).heap (hb.block _ (hr.lt b e h1)),hr.sep,hr.gu,λb e h1=>aax (hr.lt b e h1) hb.size⟩,
  ⟨λ_ _=>rfl,ZO _,λb e h1 h2=>absurd (hr.cN b e h2) Om,λ_ _ h=>h,hb.size,hb.os,hb.output,hb.tape,λi hi _=>hb.block i hi⟩⟩
theorem qt:∀{s:By}{a:Nat},s.all fo=true->∃n,Lib.decFrom a s=some n/\(n:Int)=s.foldl (λn c=>10*n+((c.toNat:Int)-48)) (a:Int)
 |[],a,_=>⟨a,rfl,rfl⟩
 |c::s,a,h=>by
  simp only[abc,aad]at h;have hc:=kT.1 h.1;have hd:Lib.digitVal c=some (c.toNat-48):=by unfold Lib.digitVal;rw[ZS hc]
  obtain⟨n,h1,h2⟩:=qt (s:=s) (a:=a*10+(c.toNat-48)) h.2;refine⟨n,by rw[Lib.decFrom,hd];exact h1,?_⟩;rw[h2,abV];congr 1;omega
def DJ{s:By}(h:s.all fo=true)(hn:s≠[]):Lib.atoi s=some (Ds s):=by
 obtain⟨n,h1,h2⟩:=qt (a:=0) h;cases s with
 |nil=>exact absurd rfl hn
 |cons c r=>
  have hc:=kT.1 (by simp only[abc,aad]at h;exact h.1);have n1:(c==45)=false:=by
   exact Kv
  have n2:(c==43)=false:=by
   exact Kv
  rw[Lib.atoi,n1,n2,ZN De,ZN De,Lib.decNat,ZN Si,h1,abv,h2];rfl
open Go.RowKit in
def F8{h:ah}{s:By}(hd:s.all fo=true)(hn:s≠[])(hl:s.length<=9):l9 Go.Proofs.Tryz.prog 254 [.str s] h (.dL [.int .i64 (Ds s),.kN]) h:=by
 intro m w vs hr ha;obtain⟨v,vs1,rfl,hv,hr1⟩:=aQ.1 ha;rw[bB]at hr1;subst hr1;rw[VR]at hv;subst hv;refine(Go.Proofs.Any.strconv_Atoi Go.Proofs.Tryz.Fe ⟨⟨s⟩⟩ (Ds s) (by show s.length<=18;omega) (DJ hd hn) w).mono ?_;rintro e' w' ⟨rfl,t,rfl⟩;exact tj hr ⟨_,rfl,aQ.2 ⟨_,_,rfl,rfl,aQ.2 ⟨_,_,rfl,rfl,rfl⟩⟩⟩ rfl (Lib.bytesWorld_below _ _ _)
open Go.RowKit in
def Ij{h:ah}{n:Nat}(hn:n<=7):l9 Go.Proofs.Tryz.prog 252 [.str [48],.int .i64 (n:Nat)] h (.str (List.replicate n 48)) h:=by
 intro m w vs hr ha;obtain⟨v1,vs1,rfl,Xf,hr1⟩:=aQ.1 ha;obtain⟨v2,vs2,rfl,Wc,TK⟩:=aQ.1 hr1;rw[bB]at TK;subst TK;have Xf:v1=.string ⟨⟨[48]⟩⟩:=Xf;have Wc:v2=.int .i64 (n:Int):=Wc;subst Xf;subst Wc;have hs:(⟨⟨[48]⟩⟩:ByteArray).size=1:=rfl;refine(Go.Proofs.Any.strings_Repeat Go.Proofs.Tryz.Ff Go.Proofs.Tryz.pz ⟨⟨[48]⟩⟩ n w Om (by rw[hs];omega)).mono ?_;rintro e' w' ⟨rfl,hb⟩;have er:Lib.repeatL [48] n=List.replicate n 48:=by
  have:=Lib.repeatL_replicate 48 1 n;rw[abM]at this;exact this
 refine tj (v:=.string ⟨(Lib.repeatL [48] n).toArray⟩) hr ?_ rfl hb;show Value.string ⟨(Lib.repeatL [48] n).toArray⟩=.string ⟨⟨List.replicate n 48⟩⟩;rw[er]
def R6:qC Go.Proofs.Tryz.prog:=by
 refine⟨λh0 h1 w=>?_,λhs hl=>⟨_,[],by rw[Z6];exact Fo hs hl,rfl⟩,λh1 h2 h3=>⟨_,[],by rw[Z6];exact F8 h1 h2 h3,rfl⟩,λh1=>⟨_,[],by rw[Z6];exact Ij h1,rfl⟩⟩;obtain⟨mu,tl,hb⟩:=w;exact⟨_,[],by rw[Z6];exact Fp h0 h1 hb,rfl⟩
def RY:DT Go.Proofs.Tryz.prog:=
 ⟨run_callFunc_extern Go.Proofs.Tryz.func288 (by kernel_rfl) (by kernel_rfl) (by kernel_rfl) (by kernel_rfl),run_callFunc_extern Go.Proofs.Tryz.func262 (by kernel_rfl) (by kernel_rfl) (by kernel_rfl) (by kernel_rfl)⟩
open Go.ChangeShapes Go.WideShapes Go.Deep
inductive CT where
 |int (k:IntKind)
 |bool
 |str
 |sl (row:List CT)
def lV(P:Program)(f:TypeId->Option (List CT)):List Field->Nat->Option (List CT)
 |[],_=>some []
 |x::r,o=>
  match f x.type with
  |some a=>
   if x.offset=o/\a.length=P.cellsOf x.type then
    match lV P f r (o+a.length)with
    |some b=>some (a++b)
    |none=>none
   else none
  |none=>none
def AZ(P:Program):Nat->TypeId->Option (List CT)
 | 0,_=>none
 |n+1,t=>
  match P.underlying t with
  |some (.int k)=>some [.int k]
  |some .bool=>some [.bool]
  |some .string=>some [.str]
  |some (.slice e)=>
   match AZ P n e with
   |some r=>if r.length=P.cellsOf e/\0<r.length then some [.sl r]else none
   |none=>none
  |some (.struct fs)=>
   match lV P (AZ P n) fs.toList 0 with
   |some r=>if r.length=P.cellsOf t then some r else none
   |none=>none
  |_=>none
mutual
def TY(h:ah):CT->AV->Prop
 |.int k,a=>∃z,a=.int k z/\(Lit.int k z).wf=true
 |.bool,a=>∃b,a=.bool b
 |.str,a=>∃s:By,a=.str s/\s.length<=maxLen
 |.sl r,a=>∃cs:List (List AV),aH h a r.length cs/\cs.length<=maxLen/\∀c∈cs,jj h r c
def jj(h:ah):List CT->List AV->Prop
 |[],l=>l=[]
 |t::ts,l=>∃a l',l=a::l'/\TY h t a/\jj h ts l'
end
mutual
theorem TY.ext{h k}(e:Ext h k):∀{t}{a},TY h t a->TY k t a
 |.int _,a,x=>x
 |.bool,a,x=>x
 |.str,a,x=>x
 |.sl r,a,x=>by
  rw[TY]at x ⊢;obtain⟨cs,h1,h2,h3⟩:=x;exact⟨cs,h1.ext e,h2,λc hc=>jj.ext e (h3 c hc)⟩
theorem jj.ext{h k}(e:Ext h k):∀{ts}{l},jj h ts l->jj k ts l
 |[],l,x=>x
 |t::ts,l,x=>by
  rw[jj]at x ⊢;obtain⟨a,l',h1,h2,h3⟩:=x;exact⟨a,l',h1,TY.ext e h2,jj.ext e h3⟩
end
theorem TY.one{h}:∀{t}{a},TY h t a->a.one=true
 |.int _,a,x=>by rw[TY]at x;obtain⟨z,rfl,_⟩:=x;rfl
 |.bool,a,x=>by rw[TY]at x;obtain⟨z,rfl⟩:=x;rfl
 |.str,a,x=>by rw[TY]at x;obtain⟨z,rfl,_⟩:=x;rfl
 |.sl r,a,x=>by rw[TY]at x;obtain⟨z,h1,_⟩:=x;exact h1.one
theorem jj.one{h}:∀{ts}{l},jj h ts l->l.all AV.one=true
 |[],l,x=>by rw[jj]at x;subst x;rfl
 |t::ts,l,x=>by
  rw[jj]at x;obtain⟨a,l',rfl,h1,h2⟩:=x;rw[abc,h1.one,jj.one h2];rfl
theorem jj.length{h}:∀{ts}{l},jj h ts l->l.length=ts.length
 |[],l,x=>by rw[jj]at x;subst x;rfl
 |t::ts,l,x=>by
  rw[jj]at x;obtain⟨a,l',rfl,h1,h2⟩:=x;rw[ZG,ZG,jj.length h2]
theorem jj.append{h}:∀{ts us}{l m},jj h ts l->jj h us m->jj h (ts++us) (l++m)
 |[],us,l,m,x,y=>by rw[jj]at x;subst x;exact y
 |t::ts,us,l,m,x,y=>by
  rw[jj]at x;obtain⟨a,l',rfl,h1,h2⟩:=x;show jj h (t:: (ts++us)) (a:: (l'++m));rw[jj];exact⟨a,_,rfl,h1,jj.append h2 y⟩
def gM(E:List sW):bY:=λb=>E[b]?
def ko(E F:List sW):(gM E).le (gM (E++F)):=λb e hb=>by
 unfold gM at hb ⊢;rw[ZF (ZC.1 hb).1];exact hb
structure AW(P:Program)(w:World)(E:List sW)(B:ah):Prop where
 len:E.length=B.length
 own:∀(b:Nat) e,E[b]? =some e->e.own=false/\e.cb<w.heap.size
 dU:∀(b:Nat) e k,E[b]? =some e->B[b]? =some k->BR P (gM E) w e k/\(k=.dead\/∃c,k=.cells c false false)
 gu:∀g,g<P.globals.size->∃e,E[g]? =some e/\e.cb=g/\e.d=0/\e.own=false/\e.sz=Fw P g
variable {P:Program}{w:World}{E:List sW}{B:ah}
def AW.hr(a:AW P w E B):HR P (gM E) B w where
 cN:=λb e hb=>by rw[<-a.len];exact(ZC.1 hb).1
 dU:=λb e k hb hk=>(a.dU b e k hb hk).1
 sep:=λb1 b2 e1 e2 k1 k2 _ h1 h2 hk1 Sz _=>by
  rcases(a.dU b1 e1 k1 h1 hk1).2 with rfl|⟨c1,rfl⟩
  ·cases k2<;>trivial
  ·rcases(a.dU b2 e2 k2 h2 Sz).2 with rfl|⟨c2,rfl⟩
   ·trivial
   ·exact⟨rfl,rfl,λx=>by cases x⟩
 gu:=a.gu
 lt:=λb e hb=>(a.own b e hb).2
def AW.push(a:AW P w E B){e k}(ho:e.own=false)(hlt:e.cb<w.heap.size)(hb:BR P (gM E) w e k)(hk:k=.dead\/∃c,k=.cells c false false):AW P w (E++[e]) (B++[k]) where
 len:=by simp[a.len]
 own:=λb e' h=>by
  by_cases hlb:b<E.length
  ·rw[ZF hlb]at h;exact a.own b e' h
  ·have:=(ZC.1 h).1;simp at this;have:b=E.length:=Om
   subst this;simp at h;subst h;exact⟨ho,hlt⟩
 dU:=λb e' k' h h'=>by
  by_cases hlb:b<E.length
  ·rw[ZF hlb]at h;rw[ZF (by rw[<-a.len];exact hlb)]at h';exact⟨(a.dU b e' k' h h').1.mono (ko E [e]),(a.dU b e' k' h h').2⟩
  ·have:=(ZC.1 h).1;simp at this;have TZ:b=E.length:=Om
   have hbb:b=B.length:=by rw[TZ,a.len]
   rw[TZ]at h;rw[hbb]at h';simp at h h';subst h;subst h';exact⟨hb.mono (ko E [e]),hk⟩
 gu:=λg hg=>by
  obtain⟨e',h1,h2⟩:=a.gu g hg;exact⟨e',ko E [e] g e' h1,h2⟩
def Laid(P:Program)(w:World)(E:List sW)(B:ah)(row:List CT)(cs:List Value):Prop:=
 ∃F C ax,AW P w (E++F) (B++C)/\cK (gM (E++F)) ax cs/\jj (B++C) row ax
def Laid.app{row row2 cs Vu}(h1:Laid P w E B row cs)(h2:∀F C,AW P w (E++F) (B++C)->Laid P w (E++F) (B++C) row2 Vu):Laid P w E B (row++row2) (cs++Vu):=by
 obtain⟨F,C,ax,a1,a2,a3⟩:=h1;obtain⟨F',C',ax',b1,b2,b3⟩:=h2 F C a1;refine⟨F++F',C++C',ax++ax',by rw[<-ZE,<-ZE];exact b1,?_,?_⟩
 ·rw[<-ZE];exact(cK.mono (ko _ _) _ _ a2).append b2
 ·rw[<-ZE];exact jj.append (a3.ext ⟨C',rfl⟩) b3
def C4(a:AW P w E B):Laid P w E B [] []:=⟨[],[],[],by simpa using a,by rw[bB],rfl⟩
def oE(a:AW P w E B){t x v}(hv:VR (gM E) x v)(ht:TY B t x):Laid P w E B [t] [v]:=
 ⟨[],[],[x],by simpa using a,by simpa using aQ.2 ⟨v,[],rfl,hv,by rw[bB]⟩,by
  rw[Z6,jj];exact⟨x,[],rfl,ht,rfl⟩⟩
section
variable {H:Type}{enc:TypeId×Value->H}{base:Nat}{held:Bool}
theorem tC{es:Nat}{r:List CT}{a:Addr}{m:Nat}(row:∀i,i<m->∃cs,w.cells? base (a.add (i*es)) es=some cs/\∀E B,AW P w E B->Laid P w E B r cs):∀(k:Nat) {E:List sW}{B:ah},k<=m->AW P w E B->
  ∃(F:List sW) (C:ah) (rows:List (List AV)) (VL:List Value),AW P w (E++F) (B++C)/\rows.length=k/\cK (gM (E++F)) rows.flatten VL/\(∀c∈rows,jj (B++C) r c)/\VL.length=k*es/\∀i,i<k*es->w.cell? (a.add i)=VL[i]?
 | 0,E,B,_,aw=>⟨[],[],[],[],by rw[Z6,Z6];exact aw,rfl,rfl,λc hc=>by(cases hc),by rw[abI];rfl,λi hi=>by rw[abI]at hi;exact absurd hi (Nat.not_lt_zero _)⟩
 |k+1,E,B,hkm,aw=>by
  obtain⟨F,C,rows,VL,h1,h2,h3,h4,h5,h6⟩:=tC row k Om aw;obtain⟨cs,UW,hl⟩:=row k Om;obtain⟨F',C',ax,a1,a2,a3⟩:=hl _ _ h1;obtain⟨_,hlen,Tr⟩:=World.cells?_some UW;refine⟨F++F',C++C',rows++[ax],VL++cs,by rw[<-ZE,<-ZE];exact a1,by rw[ZB,h2];rfl,?_,?_,by rw[ZB,h5,hlen,aaW],?_⟩
  ·rw[<-ZE,abl];refine(cK.mono (ko _ _) _ _ h3).append ?_;have:[ax].flatten=ax:=Si
   rw[this];exact a2
  ·intro c Xo;rw[<-ZE];rcases ZK.1 Xo with hm|hm
   ·exact(h4 c hm).ext ⟨C',rfl⟩
   ·rw[ZW]at hm;subst hm;exact a3
  ·intro i hi;rw[aaW]at hi;by_cases hlt:i<k*es
   ·rw[h6 i hlt,ZF Om]
   ·rw[ZP Om,h5,<-Tr (i-k*es) Om,add_add,show k*es+(i-k*es)=i by omega]
theorem qm{f:TypeId->Option (List CT)}{cs:List Value}:∀(l:List Field) (o:Nat) {row:List CT},lV P f l o=some row->
  (∀x∈l,∀a,f x.type=some a->∀E B,AW P w E B->Laid P w E B a ((cs.drop x.offset).take (P.cellsOf x.type)))->∀E B,AW P w E B->Laid P w E B row ((cs.drop o).take row.length)
 |[],o,row,h,_,E,B,aw=>by
  unfold lV at h;cases h;rw[ZJ,List.take_zero];exact C4 aw
 |x::l,o,row,h,hf,E,B,aw=>by
  unfold lV at h;split at h
  case h_2=>cases h
  rename_i a ha;split at h
  case isFalse=>cases h
  rename_i hc;split at h
  case h_2=>cases h
  rename_i b hb;cases h;have h1:=hf x (aan ..) a ha E B aw;rw[hc.1,<-hc.2]at h1;rw[ZB,List.take_add,abb];exact h1.app λF C aw'=>qm l _ hb (λy hy=>hf y (Z8 _ hy)) _ _ aw'
theorem jc(hz:∃(z:Nat) (cc:Array Value) (el:TypeId) (fz:Nat×Nat),w.heap[z]? =some (Obj.cells cc el fz)):∀(n:Nat) (t:TypeId) (row:List CT),AZ P n t=some row->∀(fuel:Nat) (cs:List Value) (x:DataW H×List MemPlace),
  DataW.trod enc P w base (λ_=>true) held fuel t cs=some x->∀E B,AW P w E B->Laid P w E B row cs
 | 0,t,row,h,_,_,_,_,_,_,_=>by cases h
 |n+1,t,row,h,fuel,cs,x,ht,E,B,aw=>by
  unfold AZ at h;split at h
  ·rename_i k hu;cases h;obtain⟨z,rfl,_,hwf⟩:=DataW.trod_int hu ht;exact oE aw (x:=.int k z) (by rw[VR]) (by rw[TY];exact⟨z,rfl,hwf⟩)
  ·rename_i hu;cases h;obtain⟨b,rfl,_⟩:=DataW.trod_bool hu ht;exact oE aw (x:=.bool b) (by rw[VR]) (by rw[TY];exact⟨b,rfl⟩)
  ·rename_i hu;cases h;obtain⟨s,rfl,_,hs⟩:=DataW.trod_string hu ht;refine oE aw (x:=.str s.data.toList) (by rw[VR]) (by rw[TY];exact⟨_,rfl,by simpa using hs⟩)
  ·rename_i e hu;split at h
   case h_2=>cases h
   rename_i r hr;split at h
   case isFalse=>cases h
   rename_i hc;cases h;obtain⟨T4,hpos⟩:=hc;rcases open_slice hu ht with⟨rfl,_⟩|⟨a,len,cap,m,n',D,Pl,rfl,hb,hl,hm,XG,_,hx⟩
   ·exact oE aw (x:=.af) (by rw[VR]) (by rw[TY];exact⟨[],.nil,aac _,λc hc=>by cases hc⟩)
   simp only[Z1]at XG;subst XG;rw[<-T4]at hx;by_cases hcap:m=0
   ·have SP:len=0:=Om
    subst SP;subst hcap;obtain⟨z,cc,el,fz,YU⟩:=hz;have h0lt:z<w.heap.size:=(ZX.1 YU).1;have hbr:BR P (gM E) w ⟨z,0,cc.size,false⟩ (.cells [] false false):=
     ⟨cc,el,fz,YU,⟨aac _,aac _,rfl⟩,λi x hx=>by(rw[List.getElem?_nil]at hx;cases hx),⟨λx=>absurd x abB,λx=>by rcases x with x|x<;>exact absurd x abB⟩⟩
    have aw2:=aw.push (e:=⟨z,0,cc.size,false⟩) (k:=.cells [] false false) rfl h0lt hbr (.inr ⟨[],rfl⟩);refine⟨[⟨z,0,cc.size,false⟩],[.cells [] false false],[.slice B.length 0 0 r.length],aw2,?_,?_⟩
    ·refine aQ.2 ⟨_,[],rfl,?_,by rw[bB]⟩;rw[VR];exact⟨⟨z,0,cc.size,false⟩,a,0,by unfold gM;rw[<-aw.len];simp,rfl,ZO _,λx=>absurd x Om,by rw[abI];exact aac _⟩
    ·rw[jj];refine⟨_,[],rfl,?_,by rw[jj]⟩;rw[TY];refine⟨[],?_,aac _,λc hc=>by cases hc⟩;exact aH.mk (cs:=[]) (b:=B.length) (o:=0) (c:=[]) (mu:=false) (tl:=false) Si Si Si (λx hx=>by cases hx)
   ·obtain⟨cs0,h00,_⟩:=hx 0 Om;obtain⟨csl,UL,_⟩:=hx (m-1) Om;obtain⟨_,SP,hc0⟩:=World.cells?_some h00;obtain⟨_,hlenl,hcl⟩:=World.cells?_some UL;have Tw:=hc0 0 hpos;have hlast:=hcl (r.length-1) Om;rw[add_add]at hlast;rw[add_add,abI,ab6]at Tw;have ha0:a.add 0=a:=by unfold Addr.add;simp
    rw[ha0,ZH Om]at Tw;unfold World.cell? at Tw;split at Tw
    case h_2=>cases Tw
    rename_i cc el fz US;split at Tw
    ·cases Tw
    rename_i hspot;have WJ:a=⟨a.block,a.off,none⟩:=by
     cases a with
     |mk b o s=>cases s with
      |none=>rfl
      |some s=>exact absurd rfl hspot
    have Vi:∀i,a.add i=⟨a.block,a.off+i,none⟩:=λi=>by
     unfold Addr.add;by_cases hi:i=0
     ·subst hi;rw[ZS rfl];exact WJ
     ·rw[ZN hi]
    have Vt:∀i,w.cell? (a.add i)=cc[a.off+i]? :=λi=>by
     rw[Vi];unfold World.cell?;simp only[US,Option.isSome_none,aav,ZY]
    have hmr:(m-1)*r.length+(r.length-1)+1=m*r.length:=by
     obtain⟨m',rfl⟩:∃m',m=m'+1:=⟨m-1,Om⟩;rw[aaW];simp only[Nat.add_sub_cancel];omega
    have eG:a.off+m*r.length<=cc.size:=by
     rw[Vt,ZH Om]at hlast;have:=(ZX.1 hlast).1;omega
    obtain⟨F,C,rows,VL,h1,h2,h3,h4,h5,h6⟩:=tC (P:=P) (w:=w) (base:=base) (es:=r.length) (r:=r) (a:=a) (m:=m)
     (λi hi=>by
      obtain⟨cs',q1,q2⟩:=hx i hi;exact⟨cs',q1,λE B aw=>jc hz n e r hr _ _ _ q2 E B aw⟩) len hl aw
    have S4:rows.flatten.length=len*r.length:=by rw[<-h5,h3.length]
    have hmul:len*r.length<=m*r.length:=aaJ _ hl;have Un:∀c∈rows,c.length=r.length:=λc hc=>(h4 c hc).length
    have hone:∀x∈rows.flatten,x.one=true:=λx hx=>by
     obtain⟨c,hc,Xe⟩:=List.mem_flatten.1 hx;exact aae.1 (h4 c hc).one x Xe
    have hlt:a.block<w.heap.size:=(ZX.1 US).1;have hbr:BR P (gM (E++F)) w ⟨a.block,a.off,cc.size,false⟩ (.cells rows.flatten false false):=
     ⟨cc,el,fz,US,⟨by rw[S4];show a.off+_<=_;omega,by rw[S4];show a.off+_<=cc.size;omega,rfl⟩,λi x hx=>by
       refine⟨hone x (aaz hx),?_⟩;obtain⟨v,hv,SA⟩:=h3.get hx;have hi:i<len*r.length:=by rw[<-S4];exact(ZC.1 hx).1
       refine⟨v,?_,SA⟩;show cc[a.off+i]? =some v;rw[<-Vt,h6 i hi,hv],⟨λx=>absurd x abB,λx=>by rcases x with x|x<;>exact absurd x abB⟩⟩
    have aw2:=h1.push (e:=⟨a.block,a.off,cc.size,false⟩) (k:=.cells rows.flatten false false) rfl hlt hbr (.inr ⟨_,rfl⟩);rw[ZE,ZE]at aw2;refine⟨F++[⟨a.block,a.off,cc.size,false⟩],C++[.cells rows.flatten false false],[.slice (B++C).length 0 len r.length],aw2,?_,?_⟩
    ·refine aQ.2 ⟨_,[],rfl,?_,by rw[bB]⟩;rw[VR];refine⟨⟨a.block,a.off,cc.size,false⟩,a,m,?_,rfl,hl,λ_=>?_,?_⟩
     ·unfold gM;rw[<-h1.len,<-ZE,ZP (ZO _),aaG];rfl
     ·show a=⟨a.block,0+a.off,none⟩;rw[aau];exact WJ
     ·show 0+a.off+m*r.length<=cc.size;omega
    ·rw[jj];refine⟨_,[],rfl,?_,by rw[jj]⟩;rw[TY];refine⟨rows,?_,Om,λc hc=>?_⟩
     ·rw[<-h2];refine aH.mk (c:=rows.flatten) (mu:=false) (tl:=false) ?_ ?_ ?_ Un
      ·rw[<-ZE,ZP (ZO _),aaG];rfl
      ·rw[aa0,h2,<-S4,aam]
      ·rw[h2,S4];omega
     ·rw[<-ZE];exact(h4 c hc).ext ⟨_,rfl⟩
  ·rename_i fs hu;split at h
   case h_2=>cases h
   rename_i r hr;split at h
   case isFalse=>cases h
   rename_i hc;cases h;obtain⟨xs,n',rfl,rfl,hlen,hxl,hf⟩:=DataW.trod_struct hu ht;have:=qm (P:=P) (w:=w) (cs:=cs) fs.toList 0 hr (λx hx a ha E B aw=>by
    obtain⟨i,hi⟩:=List.getElem?_of_mem hx;have hi':fs[i]? =some x:=by rw[<-aa6];exact hi
    have hlt:i<xs.length:=by rw[hxl];exact(ZX.1 hi').1
    have h1:=hf i x hi';rw[ZH hlt]at h1;exact jc hz n x.type a ha _ _ _ h1 E B aw) E B aw
   rw[aa0,hc,<-hlen,aam]at this;exact this
  ·cases h
inductive AT where
 |one (t:CT)
 |agg (r:List CT)
def Hw(P:Program)(e:TypeId):Option CT:=
 match P.underlying e with
 |some (.int k)=>some (.int k)
 |some .string=>some .str
 |_=>none
def Jz(P:Program)(n:Nat)(t:TypeId):Option AT:=
 match P.underlying t with
 |some (.struct _)=>
  match AZ P n t with
  |some r=>some (.agg r)
  |none=>none
 |some (.int k)=>some (.one (.int k))
 |some .bool=>some (.one .bool)
 |some .string=>some (.one .str)
 |some (.slice _)=>
  match AZ P n t with
  |some [c]=>some (.one c)
  |_=>none
 |some (.array m e)=>
  match Hw P e with
  |some c=>if P.cellsOf e=1/\P.cellsOf t=m then some (.agg (List.replicate m c))else none
  |none=>none
 |_=>none
def ue{w r b0}{t e:TypeId}{m v}(ht:P.underlying t=some (.array m e))(h:Value.okWide P w r b0 t v):∃cs,v=.agg cs/\cs.size=P.cellsOf t:=by
 simp only[Value.okWide,ht]at h;obtain⟨cs,h1,h2,_⟩:=h;exact⟨cs,h1,h2⟩
theorem tt{M B c}:∀(L:List Value),(∀i (hi:i<L.length),∃a,VR M a L[i]/\TY B c a)->∃l:List AV,cK M l L/\jj B (List.replicate L.length c) l
 |[],_=>⟨[],by rw[bB],by rw[ZJ,ab3,jj]⟩
 |v::L,h=>by
  obtain⟨a,e,hz⟩:=h 0 Si;obtain⟨l,h1,h2⟩:=tt L λi hi=>h (i+1) (by simpa using hi)
  simp only[abR]at e;refine⟨a::l,aQ.2 ⟨_,_,rfl,e,h1⟩,?_⟩;rw[ZG,abe,jj];exact⟨_,_,rfl,hz,h2⟩
def tR(P:Program)(n:Nat):List TypeId->Option (List AT)
 |[]=>some []
 |t::ts=>
  match Jz P n t,tR P n ts with
  |some a,some l=>some (a::l)
  |_,_=>none
def JW(h:ah):AT->AV->Prop
 |.one t,a=>TY h t a
 |.agg r,a=>∃l,a=.agg l/\jj h r l
theorem JW.ext{h k}(e:Ext h k):∀{t}{a},JW h t a->JW k t a
 |.one _,_,x=>TY.ext e x
 |.agg _,_,⟨l,e1,x⟩=>⟨l,e1,jj.ext e x⟩
def sS(h:ah):List AT->List AV->Prop
 |[],l=>l=[]
 |t::ts,l=>∃a l',l=a::l'/\JW h t a/\sS h ts l'
def C5(hz:∃(z:Nat) (cc:Array Value) (el:TypeId) (fz:Nat×Nat),w.heap[z]? =some (Obj.cells cc el fz)){n}{t:TypeId}{at'}(h:Jz P n t=some at'){v d ps}(ht:DataW.Trod enc P w base (λ_=>true) held t v d ps)
  {r}{b0}(ho:Value.okWide P w r b0 t v) (aw:AW P w E B):∃(F:List sW) (C:ah) (a:AV),AW P w (E++F) (B++C)/\VR (gM (E++F)) a v/\JW (B++C) at' a:=by
 obtain⟨fuel,ht⟩:=ht;unfold Jz at h;split at h
 ·rename_i fs hu;split at h
  case h_2=>cases h
  rename_i r hr;cases h;obtain⟨cs,rfl,_⟩:=okWide_struct hu ho;obtain⟨F,C,ax,h1,h2,h3⟩:=jc hz n t r hr fuel _ _ ht E B aw;refine⟨F,C,.agg ax,h1,?_,ax,rfl,h3⟩;rw[VR];exact⟨_,rfl,h2⟩
 ·rename_i k hu;cases h;obtain⟨z,rfl⟩:=okWide_int hu ho;obtain⟨z',e,_,hwf⟩:=DataW.trod_int hu ht;cases e;exact⟨[],[],.int k z,by rw[Z6,Z6];exact aw,by rw[VR],by show TY _ _ _;rw[TY];exact⟨z,rfl,hwf⟩⟩
 ·rename_i hu;cases h;obtain⟨z,rfl⟩:=okWide_bool hu ho;exact⟨[],[],.bool z,by rw[Z6,Z6];exact aw,by rw[VR],by show TY _ _ _;rw[TY];exact⟨z,rfl⟩⟩
 ·rename_i hu;cases h;obtain⟨s,rfl⟩:=okWide_string hu ho;obtain⟨s',e,_,hs⟩:=DataW.trod_string hu ht;cases e;exact⟨[],[],.str s.data.toList,by rw[Z6,Z6];exact aw,by rw[VR],by show TY _ _ _;rw[TY];exact⟨_,rfl,by simpa using hs⟩⟩
 ·rename_i e hu;split at h
  case h_2=>cases h
  rename_i c hc;cases h;obtain⟨a,len,cap,rfl⟩:=okWide_slice hu ho;obtain⟨F,C,ax,h1,h2,h3⟩:=jc hz n t _ hc fuel _ _ ht E B aw;rw[jj]at h3;obtain⟨x,l',rfl,h4,h5⟩:=h3;rw[jj]at h5;subst h5;obtain⟨y,ys,e,h6,_⟩:=aQ.1 h2;cases e;exact⟨F,C,x,h1,h6,h4⟩
 ·rename_i m e hu;split at h
  case h_2=>cases h
  rename_i c hk;split at h
  case isFalse=>cases h
  rename_i hc;cases h;obtain⟨cs,rfl,UW⟩:=ue hu ho;obtain⟨xs,n',rfl,_,hlen,hxl,hf⟩:=DataW.trod_array hu ht;have hcl:(Value.agg cs).cells.toList=cs.toList:=rfl;rw[hcl]at hlen hf;rw[hc.2]at hlen;obtain⟨l,h1,h2⟩:=tt (M:=gM E) (B:=B) (c:=c) cs.toList λi hi=>by
   have hi':i<xs.length:=Om
   have h3:=hf i Om;rw[hc.1,abM,ZH hi',abD hi,abu,List.take_zero]at h3;unfold Hw at hk;split at hk
   ·rename_i k hk';cases hk;obtain⟨z,e1,_,hwf⟩:=DataW.trod_int hk' h3;exact⟨.int k z,by rw[(List.cons.inj e1).1,VR],by rw[TY];exact⟨z,rfl,hwf⟩⟩
   ·rename_i hk';cases hk;obtain⟨s',e1,_,hs⟩:=DataW.trod_string hk' h3;exact⟨.str s'.data.toList,by rw[(List.cons.inj e1).1,VR],by rw[TY];exact⟨_,rfl,by simpa using hs⟩⟩
   ·cases hk
  rw[hlen]at h2;exact⟨[],[],.agg l,by rw[Z6,Z6];exact aw,by rw[VR,Z6];exact⟨_,rfl,h1⟩,l,rfl,by rw[Z6];exact h2⟩
 ·cases h
theorem tD(hz:∃(z:Nat) (cc:Array Value) (el:TypeId) (fz:Nat×Nat),w.heap[z]? =some (Obj.cells cc el fz)){n r b0}:∀(tys:List TypeId) {ats},tR P n tys=some ats->∀(vs:List Value) (ds:List (DataW H)) (ps:List MemPlace),
  DataW.TrodAll enc P w base (λ_=>true) held tys vs ds ps->(∀(j:Nat) t v,tys[j]? =some t->vs[j]? =some v->Value.okWide P w r b0 t v)->∀{E}{B},AW P w E B->
  ∃(F:List sW) (C:ah) (ax:List AV),AW P w (E++F) (B++C)/\cK (gM (E++F)) ax vs/\sS (B++C) ats ax
 |[],ats,h,vs,ds,ps,ht,_,E,B,aw=>by
  unfold tR at h;cases h;cases vs with
  |cons v vs=>cases ds<;>exact ht.elim
  |nil=>exact⟨[],[],[],by rw[Z6,Z6];exact aw,by rw[bB],by rw[sS]⟩
 |t::tys,ats,h,vs,ds,ps,ht,ho,E,B,aw=>by
  unfold tR at h;split at h
  case h_2=>cases h
  rename_i a l ha hl;cases h;cases vs with
  |nil=>cases ds<;>exact ht.elim
  |cons v vs=>
   cases ds with
   |nil=>exact ht.elim
   |cons d ds=>
    obtain⟨p,q,h1,h2,_⟩:=ht;obtain⟨F,C,x,a1,a2,a3⟩:=C5 hz ha h1 (ho 0 t v rfl rfl) aw;obtain⟨F',C',xs,b1,b2,b3⟩:=tD hz tys hl vs ds q h2 (λj t v h h'=>ho (j+1) t v h h') a1;refine⟨F++F',C++C',x::xs,by rw[<-ZE,<-ZE];exact b1,?_,?_⟩
    ·rw[<-ZE];exact aQ.2 ⟨v,vs,rfl,VR.mono (ko _ _) _ _ a2,b2⟩
    ·rw[<-ZE,sS];exact⟨x,xs,rfl,a3.ext ⟨C',rfl⟩,b3⟩
end
open Go.ChangeShapes Go.WideShapes Go.RowKit
def DI(f:DataW Unit->Option (List AV)):List (DataW Unit)->Option (List AV)
 |[]=>some []
 |d::r=>
  match f d,DI f r with
  |some a,some b=>some (a++b)
  |_,_=>none
def zO(P:Program):Nat->TypeId->DataW Unit->Option (List AV)
 | 0,_,_=>none
 |n+1,t,d=>
  match P.underlying t with
  |some (.int k)=>
   match d with
   |.lit (.int _ z)=>some [.int k z]
   |_=>none
  |some .string=>
   match d with
   |.lit (.string s)=>some [.str s]
   |_=>none
  |some (.array m e)=>
   match d with
   |.agg l=>
    match DI (zO P n e) l with
    |some r=>if P.cellsOf t=m*P.cellsOf e then some r else none
    |none=>none
   |_=>none
  |_=>none
section
variable {P:Program}{w:World}{base:Nat}{sp:Nat->Bool}{held:Bool}
theorem zP{f:DataW Unit->Option (List AV)}{m:bY}{ce:Nat}{cs:List Value}{g:List Value->Option (DataW Unit×List MemPlace)}(hf:∀c d p ax,g c=some (d,p)->f d=some ax->cK m ax c/\ax.all AV.one=true):
  ∀(l:List (DataW Unit×List MemPlace)) (o:Nat) {ax:List AV},DI f (l.map (·.1))=some ax->(∀i (hi:i<l.length),g ((cs.drop ((o+i)*ce)).take ce)=some l[i])->cK m ax ((cs.drop (o*ce)).take (l.length*ce))/\ax.all AV.one=true
 |[],o,ax,h,_=>by
  unfold DI at h;cases h;rw[ZJ,abI,List.take_zero];exact⟨by rw[bB],rfl⟩
 |x::l,o,ax,h,hx=>by
  rw[aar]at h;unfold DI at h;split at h
  case h_2=>cases h
  rename_i a b ha hb;cases h;have h0:=hx 0 (by rw[ZG];omega);rw[ab6,abR]at h0;obtain⟨p1,p2⟩:=hf _ x.1 x.2 a h0 ha;obtain⟨q1,q2⟩:=zP hf l (o+1) hb (λi hi=>by
   have:=hx (i+1) (by rw[ZG];omega);rw[List.getElem_cons_succ]at this;rw[show o+1+i=o+(i+1) by omega];exact this)
  refine⟨?_,by rw[List.all_append,p2,q2];rfl⟩;rw[ZG,aaW,Nat.add_comm (l.length*ce) ce,List.take_add,abb];refine p1.append ?_;rw[<-aaW];exact q1
theorem w9{m:bY}:∀(n:Nat) (t:TypeId) (fuel:Nat) (cs:List Value) (d:DataW Unit) (p:List MemPlace) (ax:List AV),
  DataW.trod (λ_=>()) P w base sp held fuel t cs=some (d,p)->zO P n t d=some ax->cK m ax cs/\ax.all AV.one=true
 | 0,_,_,_,_,_,_,_,h=>by cases h
 |n+1,t,fuel,cs,d,p,ax,ht,h=>by
  unfold zO at h;split at h
  ·rename_i k hu;obtain⟨z,rfl,e,_⟩:=DataW.trod_int hu ht;cases e;cases h;exact⟨aQ.2 ⟨_,[],rfl,by rw[VR],by rw[bB]⟩,rfl⟩
  ·rename_i hu;obtain⟨s,rfl,e,_⟩:=DataW.trod_string hu ht;cases e;cases h;exact⟨aQ.2 ⟨_,[],rfl,rfl,by rw[bB]⟩,rfl⟩
  ·rename_i mm e hu;obtain⟨xs,m',_,ex,hlen,hxl,hf⟩:=DataW.trod_array hu ht;cases ex;simp only at h;split at h
   case h_2=>cases h
   rename_i r hr;split at h
   case isFalse=>cases h
   rename_i hc;cases h;have:=zP (m:=m) (ce:=P.cellsOf e) (cs:=cs) (g:=DataW.trod (λ_=>()) P w base sp held m' e) (λc d p ax h1 h2=>w9 n e m' c d p ax h1 h2) xs 0 hr (λi hi=>by
    have:=hf i Om;rw[ZH hi]at this;rw[aau];exact this)
   rw[abI,aa0,hxl,<-hc,<-hlen,aam]at this;exact this
  ·cases h
def Hh(P:Program)(laid:List (String×DataW Unit))(n:Nat)(g:Nat):ak:=
 match laid.find? (λx=>P.globalNamed x.1==some g)with
 |some x=>
  match (P.globals[g]?).map (·.type)with
  |some t=>
   match zO P n t x.2 with
   |some ax=>if ax.length=Fw P g then .cells ax false false else .dead
   |none=>.dead
  |none=>.dead
 |none=>.dead
def tG(P:Program):List sW:=(List.range P.globals.size).map λg=>⟨g,0,Fw P g,false⟩
def wF(P:Program)(laid:List (String×DataW Unit))(n:Nat):ah:=(List.range P.globals.size).map (Hh P laid n)
theorem kP:∀{laid}{ps},DataW.LaidVars P w laid ps->∀x∈laid,∃g t cs fuel p,P.globalNamed x.1=some g/\(P.globals[g]?).map (·.type)=some t/\w.var? P x.1=some cs/\
  DataW.trod (λ_=>()) P w 0 (λ_=>true) false fuel t cs.toList=some (x.2,p)
 |[],_,_,x,hx=>by cases hx
 |(n,d)::r,ps,h,x,hx=>by
  obtain⟨g,t,cs,fuel,p,q,h1,h2,h3,h4,h5,_⟩:=h;rcases aag.1 hx with rfl|hx
  ·exact⟨g,t,cs,fuel,p,h1,h2,h3,h4⟩
  ·exact kP h5 x hx
def yR{n g cs}(hg:P.globalNamed n=some g)(h:w.var? P n=some cs):∃el fz,w.heap[g]? =some (.cells cs el fz):=by
 unfold World.var? at h;rw[hg]at h;simp only[Option.bind_some]at h;split at h
 ·rename_i c el fz hb;cases h;exact⟨el,fz,hb⟩
 ·cases h
theorem AW.globals{X6 laid}(hl:laidMet P X6 w)(hsub:∀x∈laid,x∈X6)(n:Nat){nm d}(hlast:(nm,d)∈laid)(hg:P.globalNamed nm=some (P.globals.size-1)):
  AW P w (tG P) (wF P laid n)/\∃(z:Nat) (cc:Array Value) (el:TypeId) (fz:Nat×Nat),w.heap[z]? =some (Obj.cells cc el fz):=by
 obtain⟨ps,hv,_,_⟩:=hl;obtain⟨g0,t0,cs0,_,_,a1,_,a3,_⟩:=kP hv _ (hsub _ hlast);obtain⟨el0,fz0,TM⟩:=yR a1 a3;have eG:P.globals.size-1<w.heap.size:=by
  have e:g0=P.globals.size-1:=aaE (a1.symm.trans hg);rw[<-e];exact(ZX.1 TM).1
 have hE:∀(b:Nat) e,(tG P)[b]? =some e->b<P.globals.size/\e=⟨b,0,Fw P b,false⟩:=λb e h=>by
  unfold tG at h;rw[aa8]at h;have hb:b<P.globals.size:=by
   cases hr:(List.range P.globals.size)[b]? with
   |none=>rw[hr]at h;cases h
   |some y=>have:=(ZC.1 hr).1;simpa using this
  rw[List.getElem?_range hb]at h;exact⟨hb,(aaE h).symm⟩
 refine⟨⟨by simp[tG,wF],λb e h=>?_,λb e k h h'=>?_,λg hg=>⟨⟨g,0,Fw P g,false⟩,?_,rfl,rfl,rfl,rfl⟩⟩,⟨g0,cs0,el0,fz0,TM⟩⟩
 ·obtain⟨hb,rfl⟩:=hE b e h;exact⟨rfl,by show b<_;omega⟩
 ·obtain⟨hb,rfl⟩:=hE b e h;unfold wF at h';rw[aa8,List.getElem?_range hb]at h';have h':=(aaE h').symm;subst h';unfold Hh;split
  case h_2=>exact⟨trivial,.inl rfl⟩
  rename_i x hx;split
  case h_2=>exact⟨trivial,.inl rfl⟩
  rename_i t ht;split
  case h_2=>exact⟨trivial,.inl rfl⟩
  rename_i ax has;split
  case isFalse=>exact⟨trivial,.inl rfl⟩
  rename_i hlen;refine⟨?_,.inr ⟨ax,rfl⟩⟩;obtain⟨g,t',cs,fuel,p,b1,b2,b3,b4⟩:=kP hv x (hsub _ (List.mem_of_find?_eq_some hx));have hgb:P.globalNamed x.1=some b:=by have:=ab7 hx;simpa using this
  have e1:g=b:=aaE (b1.symm.trans hgb);subst e1;have e2:t' =t:=aaE (b2.symm.trans ht);subst e2;obtain⟨el,fz,US⟩:=yR b1 b3;obtain⟨c1,c2⟩:=w9 (m:=gM (tG P)) n t' fuel _ _ _ _ b4 has;have hcl:cs.size=ax.length:=by have:=c1.length;simpa using this
  refine⟨cs,el,fz,US,⟨by show 0+_<=_;omega,by show 0+_<=Fw P g;omega,by show cs.size=Fw P g;omega⟩,λi x hx=>?_,⟨λx=>absurd x abB,λx=>by rcases x with x|x<;>exact absurd x abB⟩⟩;refine⟨aae.1 c2 x (aaz hx),?_⟩;obtain⟨v,Xf,Wc⟩:=c1.get hx;refine⟨v,?_,Wc⟩;show cs[0+i]? =some v;rw[aau,<-aa6];exact Xf
 ·unfold tG;rw[aa8,List.getElem?_range hg];rfl
end
section
variable {P:Program}{W W':World}{E:List sW}{B h':ah}{m':bY}
def AW.below(aw:AW P W E B)(g:Grow (gM E) B W m' h' W'):Below W.heap.size W W':=
 ⟨g.os,g.tape,g.out,g.size,λk hk=>g.frame k hk λb e hb ho=>by rw[(aw.own b e hb).1]at ho;cases ho⟩
def yE(b:Below W.heap.size W W')(may:MemPlace->Prop):W.keptBut W' may:=by
 refine⟨b.os,b.output,λi hi=>?_⟩;rw[b.block i hi];split
 ·rename_i h1 h2;rw[h1]at h2;simp only[aaa,Obj.cells.injEq]at h2;obtain⟨rfl,rfl,rfl⟩:=h2;exact⟨rfl,rfl,rfl,λ_ _=>rfl⟩
 ·rename_i h1 h2;rw[h1]at h2;simp only[aaa,Obj.map.injEq]at h2;obtain⟨rfl,rfl⟩:=h2;exact .inr ⟨rfl,rfl⟩
 ·rfl
variable {H:Type}{enc:TypeId×Value->H}
theorem mQ(hlo:laidOutB P=true)(hb:Below W.heap.size W W'){sp}:∀{tys}{vs}{ds}{ps},(∀t∈tys,P.readableRec t=true/\t<P.types.size)->
  DataW.TrodAll enc P W 0 (λ_=>true) true tys vs ds ps->(∀p∈ps,p.block<W.heap.size)->(∀p∈ps,sp p.block=true)->DataW.TrodAll enc P W' 0 sp true tys vs ds ps
 |[],[],[],ps,_,h,_,_=>h
 |[],[],_::_,_,_,h,_,_=>h.elim
 |[],_::_,_,_,_,h,_,_=>h.elim
 |_::_,[],_,_,_,h,_,_=>h.elim
 |_::_,_::_,[],_,_,h,_,_=>h.elim
 |t::tys,v::vs,d::ds,ps,hr,h,hl,hs=>by
  obtain⟨p,q,h1,h2,rfl⟩:=h;exact⟨p,q,WideElems.Trod_stays hlo (hr t (aan ..)).1 (hr t (aan ..)).2 h1 (λx hx=>hb.same (hl x (List.mem_append_left _ hx))) (λx hx=>hs x (List.mem_append_left _ hx)),
   mQ hlo hb (λt ht=>hr t (Z8 _ ht)) h2 (λx hx=>hl x (List.mem_append_right _ hx)) (λx hx=>hs x (List.mem_append_right _ hx)),rfl⟩
def Ax{f:Func}{s:ChangeSpec}{apart fresh handsOn again:Bool}{args:Array Value}{ds gs:List (DataW H)}{before:List MemPlace}{tb:TypeId}
  (hlo:laidOutB P=true) (hpar:∀t∈f.params.toList,P.readableRec t=true/\t<P.types.size) (hrt:f.resultTypes=#[tb]) (htb:P.underlying tb=some .bool) (hvars:s.vars=[])
  (hfn:(s.fn H (ds++gs))={results:=[.lit (.bool true)],args:=ds}) (hW:DataW.Whole enc P f.params.toList s.vars apart W args.toList ds gs before) (hb:Below W.heap.size W W'):
  s.post enc P f apart fresh handsOn again W args (.bool true) W':=by
 have hlt:=hW.lt;have hW':=hW;obtain⟨p,q,hA,hV,rfl,hz,hn⟩:=hW';rw[hvars]at hV;obtain⟨rfl,rfl⟩:=trodVars_none hV;rw[Z6]at hlt;have hres:∀(b:Nat) (sp:Nat->Bool) (hd:Bool),DataW.TrodAll enc P W' b sp hd f.resultTypes.toList ((Value.bool true).resultList f.resultTypes.size) (s.fn H (ds++[])).results []:=λb sp hd=>by
  rw[hfn,hrt];exact trodAll_mk1 (shut_bool htb _)
 have hargs:∀sp:Nat->Bool,(∀x∈p,sp x.block=true)->DataW.TrodAll enc P W' 0 sp true f.params.toList args.toList (s.fn H (ds++[])).args p:=λsp hs=>by
  rw[hfn];exact mQ hlo hb hpar hA hlt hs
 have Tu:∀sp:Nat->Bool,DataW.TrodVars enc P W' sp s.vars (s.fn H (ds++[])).vars []:=λsp=>by
  rw[hfn,hvars];rfl
 refine⟨ds,[],p++[],[],p,[],hW,hres _ _ _,hargs _ (λx hx=>by simpa using hlt x hx),Tu _,yE hb _,λ_=>?_⟩;refine⟨?_,_,_,([]++p)++[],⟨[]++p,[],trodAll_append (hargs _ (λ_ _=>rfl)) (hres _ _ _),Tu _,rfl,?_,?_⟩,?_⟩
 ·exact ok_one hrt rfl (okWide_bool_mk htb _)
 ·intro b off hp;have hp:MemPlace.cell b off∈p:=by simpa using hp
  have:=hz b off (by simpa using hp);unfold World.frozen? at this ⊢;rw[hb.block b (hlt _ hp)];exact this
 ·intro ha;have:=hn ha
  simpa using this
 ·intro x hx _
  simpa using hx
def Cm{f:Func}{fid:FuncId}{s:ChangeSpec}{apart fresh handsOn again:Bool}{args:Array Value}{ds gs:List (DataW H)}{before:List MemPlace}{tb:TypeId}{n:Nat}{ats:List AT}{r:Reach}{b0:Nat}
  (hlo:laidOutB P=true) (hpar:∀t∈f.params.toList,P.readableRec t=true/\t<P.types.size) (hrt:f.resultTypes=#[tb]) (htb:P.underlying tb=some .bool) (hvars:s.vars=[])
  (hfn:(s.fn H (ds++gs))={results:=[.lit (.bool true)],args:=ds}) (hats:tR P n f.params.toList=some ats)
  (hval:∀(j:Nat) t v,f.params[j]? =some t->args[j]? =some v->Value.okWide P W r b0 t v)
  (hW:DataW.Whole enc P f.params.toList s.vars apart W args.toList ds gs before) (aw:AW P W E B) (hz:∃(z:Nat) (cc:Array Value) (el:TypeId) (fz:Nat×Nat),W.heap[z]? =some (Obj.cells cc el fz))
  (call:∀k ax,Ext B k->sS k ats ax->aA P fid ax k λv _=>v=.bool true):
  Calls P fid args W λe W'=>∃v,e=.returned v/\s.post enc P f apart fresh handsOn again W args v W':=by
 obtain⟨p,q,hA,_⟩:=id hW;obtain⟨F,C,ax,h1,h2,h3⟩:=tD hz f.params.toList hats args.toList ds p hA (λj t v h h'=>hval j t v (by rw[<-aa6];exact h) (by rw[<-aa6];exact h')) aw;obtain⟨v,g,hs,rfl⟩:=call (B++C) ax ⟨C,rfl⟩ h3;refine(hs (gM (E++F)) W args.toList h1.hr h2).mono λe W' ⟨cv,m',he,hv,_,hg⟩=>?_
 rw[VR]at hv;subst hv;exact⟨_,he,Ax hlo hpar hrt htb hvars hfn hW (h1.below hg)⟩
end
end Go.Abs
namespace Go.Proofs.YtgplmdgpmbegiaaGreatDoor
open Go.Abs
noncomputable def wG:ah:=wF Tryz.prog Rows.houseSafeRow.laid 6
def Fy:wG[0]? =some (.cells RK false false):=by kernel_rfl
def Fx:wG[2]? =some (.cells (Lib.pow10Tab.map (AV.int .u64)) false false):=by kernel_rfl
def RP{k:ah}(e:Ext wG k):Gl k:=⟨_,_,e.some Fy⟩
def R5{k:ah}(e:Ext wG k):Pw k:=⟨_,_,e.some Fx⟩
end Go.Proofs.YtgplmdgpmbegiaaGreatDoor
namespace Go.Proofs.YtgplmdgpmbegiaaGreatDoor
open Go.ChangeShapes Go.WideShapes Go.RowKit Go.Abs
def gx{a b:Bool}(h:a=true)(h':b=true):(a&&b)=true:=by rw[h,h'];rfl
def own:ownKnob Tryz.prog.godebug=none:=by kernel_rfl
def laidOut:laidOutB Tryz.prog=true:=by kernel_rfl
def Er:mapsRowed Tryz.prog=true:=by kernel_rfl
def B8:(Tryz.prog.stops==[])=true:=by kernel_rfl
def Cb:(Tryz.prog.stopKnobs==[])=true:=by kernel_rfl
def Cc:Tryz.prog.stopsHeard=true:=by kernel_rfl
def Cd:Tryz.prog.mayEnter=true:=by kernel_rfl
def Ca:(Rows.houseSafeRow.lifted==Tryz.prog.liftsFinal)=true:=by kernel_rfl
def Es:(Tryz.prog.make==some Rows.houseSafeRow.make)=true:=by kernel_rfl
def Ew:(Rows.houseSafeRow.plainKeys==Tryz.prog.plainKeys)=true:=by kernel_rfl
def Et:Tryz.prog.mainIs=some (true, "99e684478f8cae51b056da3a355f6848a653f6e5f09f29bc4422acb306b2dd43".toList):=by kernel_rfl
def B9:true=Tryz.prog.looks []:=by kernel_rfl
def Am(os:Os)(args:Array Value):((World.laidAll Tryz.prog os Rows.houseSafeRow.laid).forCall (λ_ _=>0) ⟨#[],args,[]⟩).Shaped Tryz.prog:=World.shaped_of_ZipB (by kernel_rfl) (by kernel_rfl)
def Eu(os:Os)(args:Array Value):laidMetH Tryz.prog Rows.houseSafeRow.laid ((World.laidAll Tryz.prog os Rows.houseSafeRow.laid).forCall (λ_ _=>0) ⟨#[],args,[]⟩).memory:=by
 rw[MakeChecks.laidMetH_plain _ _ _ (by kernel_rfl)];exact laidMet_laidAll _ (by kernel_rfl) (by kernel_rfl)
end Go.Proofs.YtgplmdgpmbegiaaGreatDoor
namespace Go.Abs
def WR.CA{P:Program}{ro:Option Nat->Prop}{ks:List Kt}{ts:TS}{Q:Ex->TS->ah->Prop}{α:Type}{row:α->List AV}{L:List α}{B Y:ah}{s v:AV}{es i off:Nat}{x':α}{d:Option Nat}{l:List bL}
  (hs:Fr B.length Y s es (L.map row)) (he:Ext B Y) (hi:i<L.length) (ho:off<es) (hv:v.one=true) (hx:row x' =(row L[i]).set off v)
  (K:∀W5:ah,Ext B W5->W5.length=Y.length->Fr B.length W5 s es ((L.set i x').map row)->(∀b,sB s≠some b->W5[b]? =Y[b]?)->WP P ro l ks (put ts d az) W5 Q):
  WR P ro (aU 1 (mD s es i off) v (λb=>Y[b]?)) false d l ks ts Y Q:=by
 obtain⟨g,rfl⟩:=he;refine WR.vE (h0:=B) hs hi ho hv hx ?_;intro g' SI hff hkp;exact K _ ⟨_,rfl⟩ (by simp[SI]) hff λb hb=>hkp b λb0 o n e he z=>hb (by rw[he,z];rfl)
set_option maxRecDepth 10000
attribute [local irreducible] WP WC WE WB WR WF WL WG gk WM
section
variable {P:Program}(T:fy P) {B X W:ah}{ts:TS}{V:RV}{x:EV}
include T
def As(w:eD V.an)(ox:bh B x)(we:jY x.ev .accept)(nk:sU V.an x.ev .accept)(s:cG B X x V W V)(hlen:ts.length=250)(t2:slot ts 2=.ptr X.length 0)(t3:slot ts 3=.ptr (X.length+1) 0)(t4:slot ts 4=.ptr (X.length+2) 0):
  WC P bN At [] ts W (FQ [(4,some (some 7)),(5,none)] (sF B X V (bn V.an x.ev .accept) (dt V.an x.ev .accept))):=by
 have ow:=ox.ext s.ex;have oV:=s.bk.o.ok;have SD:x.ev.kind=bz .accept:=cj we.kd;obtain⟨lr,le,sb,gm⟩:=cG.fa s;obtain⟨i0,d0⟩:=bO ow we 0 0 rfl De;obtain⟨j0,f0,q0⟩:=cX ow we 0 0 rfl De;unfold At fn225;simp only[ai.tl];have k0:aL x.ev 0∈gq V.an:=nk.kn 0 0 rfl;have Wh:x.ev.names=[aL x.ev 0]:=by
  have h1:=we.nl;obtain⟨n,hn⟩:∃n,x.ev.names=[n]:=List.length_eq_one_iff.1 h1;rw[aL,hn];rfl
 have hlt:a8 (gq V.an) (aL x.ev 0)<V.lines.length:=by have:=cL k0;simpa [gq,RV.an]using this
 have ei:dm (λy:dX=>decide (y.name=aL x.ev 0)) V.lines=(a8 (gq V.an) (aL x.ev 0):Int):=fk (f:=dX.name) k0;have sp:dq V.an (aL x.ev 0)=V.lines[a8 (gq V.an) (aL x.ev 0)]:=cS k0;obtain⟨p,hp⟩:∃p,p=a8 (gq V.an) (aL x.ev 0):=⟨_,rfl⟩;rw[<-hp]at ei;have hlt:p<V.lines.length:=by rw[hp];exact hlt
 have sp:dq V.an (aL x.ev 0)=V.lines[p]:=by rw[sp];congr 1;exact hp.symm
 refine pA (Kh t2 t3 t4 @le @lr @bA @aO @aY @aF @SD @gV @Z9 @Z5 @j0 @f0 @i0 @d0) ?_;refine WF.ce T.c28 (r28 T (oV.ext Xx) w.len _) λg1=>?_
 rw[ei];obtain⟨W2,S0⟩:∃Z,Z=W++g1:=⟨_,rfl⟩;rw[<-S0];have SS:cG B X x V W2 V:=by rw[S0];exact fc.grow s ⟨g1,rfl⟩
 have ow:=ox.ext SS.ex;have oV:=SS.bk.o.ok;obtain⟨lr,le,sb,gm⟩:=cG.fa SS;have on:=ow.n;rw[Wh]at on;have on1:=ow.n.one;refine Rs (A7 t2 t3 t4 @le @lr @aF @aO) ?_;refine WF.res T.c127 (r127 T (oV.ext Xx) w.len on Si) ?_;rintro ns g2 hns;obtain⟨W3,SR⟩:∃Z,Z=W2++g2:=⟨_,rfl⟩;rw[<-SR];have SZ:cG B X x V W3 V:=by rw[SR];exact fc.grow SS ⟨g2,rfl⟩
 have ow:=ox.ext SZ.ex;have oV:=SZ.bk.o.ok;obtain⟨lr,le,sb,gm⟩:=cG.fa SZ;rw[<-SR]at hns;obtain⟨S,hS⟩:∃S,S=rC V.an (aL x.ev 0):=⟨_,rfl⟩;have hfS:(V.an.aj.filter λy=>decide (y.line∈[aL x.ev 0]))=S:=by
  rw[hS,rC];refine abH λy _=>?_
  simp
 rw[hfS]at hns;have hSm:∀y∈S,y∈V.an.aj:=λy hy=>by rw[hS,rC]at hy;exact(aaq.1 hy).1
 have hSl:S.length<=64:=by
  have h1:S.length<=V.an.aj.length:=by rw[hS,rC];exact aaj _ _
  have:=w.l2;omega
 rw[abj]at hns;have ix:aZ 3 V.s0 (.i (p:Int))=some (cT V.s0 3 p,.ay):=oV.i0.dE hlt;have l2:∀{k:ah},Ext W3 k->aq none (mD V.s0 3 p 2) (λb=>k[b]?)=some (.bool (dq V.an (aL x.ev 0)).acc,.ay):=λ{k} e=>by rw[sp];exact oV.i0.qz hlt rfl e
 have l1:∀{k:ah},Ext W3 k->aq none (mD V.s0 3 p 1) (λb=>k[b]?)=some (.i (dq V.an (aL x.ev 0)).want,.ay):=λ{k} e=>by rw[sp];exact oV.i0.qz hlt rfl e
 cases h1:(dq V.an (aL x.ev 0)).acc with
 |true=>
  rw[h1]at l2;refine Rs (na t2 t3 t4 ix @l2 @lr @aF @fR @sb @gm) ?_;rw[bn,ZS h1];exact Ed
 |false=>
 rw[h1]at l2;by_cases h2:(S.length:Int)<(dq V.an (aL x.ev 0)).want
 case pos=>
  have e2:decide ((S.length:Int)<(dq V.an (aL x.ev 0)).want)=true:=ZI h2;refine Rs (Ad t2 t3 t4 ix @l2 @l1 hns.aK @lr @aF @fR e2 @sb @gm) ?_;rw[bn,ZN (by rw[h1];decide),ZS (by rw[<-hS];exact h2)];exact Ed
 have e2:decide ((S.length:Int)<(dq V.an (aL x.ev 0)).want)=false:=ZD h2;refine Rs (mZ t2 t3 t4 ix @l2 @l1 hns.aK @lr @aF @fR e2) ?_;refine WL.inv T.mix (λm ts h'=>∃(k:Nat) (g:ah),k<=S.length/\m=S.length-k/\h' =W3++g/\(∀y∈S.take k,gX V.an y (bI x.ev 0)=true)/\ts.length=250/\slot ts 2=.ptr X.length 0/\slot ts 4=.ptr (X.length+2) 0/\slot ts 6=.i (bI x.ev 0)/\slot ts 9=.i (p:Int)/\slot ts 10=ns/\slot ts 11=.i k) S.length
  ⟨0,[],Om,rfl,by rw[Z6],(λy hy=>by cases hy),Sn,(Sq t2),(Sq t4),Sw,Sw,Sw,gP⟩ ?_
 clear t2 t3 t4 hlen;rintro _ ts _ ⟨k,g,hk,rfl,rfl,hsf,hlen,t2,t4,t6,t9,t10,t11⟩;obtain⟨W4,Ts⟩:∃Z,Z=W3++g:=⟨_,rfl⟩;rw[<-Ts];have Ue:cG B X x V W4 V:=by rw[Ts];exact fc.grow SZ ⟨g,rfl⟩
 have ow:=ox.ext Ue.ex;have oV:=Ue.bk.o.ok;obtain⟨lr,le,sb,gm⟩:=cG.fa Ue;have e34:Ext W3 W4:=⟨g,Ts⟩;have hns:=hns.ext e34;by_cases TE:k<S.length
 ·have e3:decide ((k:Int)<S.length)=true:=ZI Om;have e5:=wrapN (n:=k) Om;have iy:=hns.dE (kk:=.i64) TE;obtain⟨y,hy⟩:∃y,y=S[k]:=⟨_,rfl⟩;have TQ:y∈V.an.aj:=hSm y (by rw[hy];exact ZR _);have lf:∀{kk:ah},Ext W4 kk->aq none (cT ns 1 k) (λb=>kk[b]?)=some (.str y.name,.ay):=λ{kk} e=>hns.kg TE (by rw[<-hy];rfl) e
  have U9:y.name∈nj V.an:=ZT TQ;have hps:=cL U9;have UK:a8 (nj V.an) y.name<V.aj.length:=by simpa [nj,RV.an]using hps
  have iz:aZ 3 V.s2 (.i ((a8 (nj V.an) y.name:Nat):Int))=some (cT V.s2 3 (a8 (nj V.an) y.name),.ay):=oV.i2.dE UK;obtain⟨u,hu⟩:∃u,u=V.aj[a8 (nj V.an) y.name]:=⟨_,rfl⟩;have hum:u∈V.aj:=by rw[hu];exact ZR _
  have huy:u.1=y:=by
   have a1:rm V.an y.name=y:=jd w.n2.nd TQ;rw[rm,cS (f:=jX.name) (l:=V.an.aj) (d:=E1) U9]at a1;rw[<-a1,hu];exact Eh
  have ly:∀{kk:ah},Ext W4 kk->aq (some 3) (cT V.s2 3 (a8 (nj V.an) y.name)) (λb=>kk[b]?)=some (.agg (bf u),.ay):=λ{kk} e=>by rw[hu];exact oV.i2.kf UK e
  have ou:=oV.e2 u hum;have hul:=(w.zB.sh u hum);refine Rs (Ad t2 t4 t6 t9 t10 t11 hns.aK e3 @lr @fB @aF @iy @lf) ?_;refine WF.ce T.c22 (r22 T (oV.ext Xx) w.len _) λg3=>?_
  have ej:dm (λy':jX×AV=>decide (y'.1.name=y.name)) V.aj=(a8 (nj V.an) y.name:Int):=by
   rw[ka];exact fk (f:=λy:jX×AV=>y.1.name) (by rw[<-ka];exact U9)
  rw[ej];refine Rs (A8 t2 t4 t6 t9 t10 t11 @iz @ly) ?_;refine WF.ce T.c23 (r23 T (oV.ext Xx) w.len (ou.ext Xx) hul.2 hul.1 _) λg4=>?_
  rw[huy];cases h4:gX V.an y (bI x.ev 0)with
  |false=>
   refine Rs (mZ t2 t4 t6 t9 t10 t11 @aab @lr @aF @sb @gm) ?_;rw[bn,ZN (by rw[h1];decide),ZN (by rw[<-hS];exact h2),ZS (by rw[<-hS];exact aaY.2 ⟨y,by rw[hy];exact ZR _,by rw[h4];rfl⟩)];exact cG.fin (fc.grow Ue (by rw[ZE];exact⟨_,rfl⟩)) (λz=>absurd z De)
  |true=>
   refine Rs (A8 t2 t4 t6 t9 t10 t11 @Z7 e5) ?_;refine⟨_,Om,k+1,g++g3++g4,Om,rfl,by rw[Ts];simp only[ZE],?_,rfl⟩;intro y' hy';exact Rj
 ·have e3:decide ((k:Int)<S.length)=false:=ZD Om;have e4:k=S.length:=Om
  rw[e4,aam]at hsf;have TU:bn V.an x.ev .accept=0:=by
   rw[bn,ZN (by rw[h1];decide),ZN (by rw[<-hS];exact h2),ZN];exact KN
  refine Rs (mZ t2 t4 t6 t9 t10 t11 hns.aK e3 @lr @fR ix) ?_;refine WR.CA (B:=B) (x':={V.lines[p]with acc:=true}) (row:=bV) Ue.bk.o.i0 Ue.ex hlt De rfl rfl ?_;intro W5 x5 l5 hff hk5;have s5:cG B X x V W5 {V with lines:=V.lines.set p {V.lines[p]with acc:=true} }:=fc.q0 Ue hff (λi _ hne=>hk5 i hne) x5 Om;obtain⟨lr,_,sb,gm⟩:=cG.fa s5;refine Rs (na t2 t4 t6 t9 t10 t11 @lr @aF @sb @gm) ?_;exact Kz
end
structure HC(X:ah)(x:EV)(U:RV)(h:ah):Prop where
 r:h[X.length]? =some (.b U.row)
 e:h[X.length+1]? =some (.b x.row)
 n:bh h x
theorem HC.ext{X h k x U}(s:HC X x U h)(e:Ext h k):HC X x U k:=⟨e.some s.r,e.some s.e,s.n.ext e⟩
section
variable {P:Program}(T:fy P) {B X W:ah}{ts:TS}{V:RV}{x:EV}
include T
def ER(w:eD V.an)(ox:bh B x)(we:jY x.ev .copy)(nk:sU V.an x.ev .copy)(s:cG B X x V W V)(hlen:ts.length=250)(t2:slot ts 2=.ptr X.length 0)(t3:slot ts 3=.ptr (X.length+1) 0)(t4:slot ts 4=.ptr (X.length+2) 0):
  WC P bN At [] ts W (FQ [(4,some (some 7)),(5,none)] (sF B X V (bn V.an x.ev .copy) (dt V.an x.ev .copy))):=by
 have ow:=ox.ext s.ex;have oV:=s.bk.o.ok;have SD:x.ev.kind=bz .copy:=cj we.kd;obtain⟨lr,le,sb,gm⟩:=cG.fa s;obtain⟨i0,d0⟩:=bO ow we 0 0 rfl De;obtain⟨i1,d1⟩:=bO ow we 1 1 rfl De;obtain⟨j0,f0,q0⟩:=cX ow we 0 0 rfl De;unfold At fn225;simp only[ai.tl];have k0:aL x.ev 0∈jT V.an:=nk.kn 0 1 rfl;have k1:aL x.ev 1∈jT V.an:=nk.kn 1 1 rfl;have UL:V.aj.length<=64:=by have:=w.l2;simpa [RV.an]using this
 have htp:∀y∈V.aj,y.1.aG.length<2^30:=λy hy=>(w.zB.sh y hy).2
 by_cases h1:aL x.ev 0=aL x.ev 1
 case pos=>
  have e1:decide (aL x.ev 0=aL x.ev 1)=true:=ZI h1;refine pA (Kg t2 t3 t4 @le @lr @bA @aO @aY @aF @SD @gV @Z9 @Z5 @j0 @f0 @i0 @d0 @i1 @d1 e1 @sb @gm) ?_;rw[bn,ZS h1];exact HL
 have e1:decide (aL x.ev 0=aL x.ev 1)=false:=ZD h1;refine pA (NV t2 t3 t4 @le @lr @bA @aO @aY @aF @SD @gV @Z9 @Z5 @j0 @f0 @i0 @d0 @i1 @d1 e1) ?_;refine WF.ce T.c84 (r84 T (oV.ext Xx) w.len k0 _) λg1=>?_
 obtain⟨W2,S0⟩:∃Z,Z=W++g1:=⟨_,rfl⟩;rw[<-S0];have SS:cG B X x V W2 V:=by rw[S0];exact fc.grow s ⟨g1,rfl⟩
 have ow:=ox.ext SS.ex;have oV:=SS.bk.o.ok;obtain⟨lr,le,sb,gm⟩:=cG.fa SS;obtain⟨i0,d0⟩:=bO ow we 0 0 rfl De;obtain⟨i1,d1⟩:=bO ow we 1 1 rfl De;obtain⟨j0,f0,q0⟩:=cX ow we 0 0 rfl De;cases h2:jJ V.an (bI x.ev 0) (aL x.ev 0)with
 |false=>
  refine Rs (A8 t2 t3 t4 @aab @lr @aF @sb @gm) ?_;rw[bn,ZN h1,ZS (by rw[h2];rfl)];exact z87
 |true=>
 refine Rs (na t2 t3 t4 @Z7 @le @lr @aF @aO @i1 @d1) ?_;refine WF.ce T.c84 (r84 T (oV.ext Xx) w.len k1 _) λg2=>?_
 obtain⟨W3,SR⟩:∃Z,Z=W2++g2:=⟨_,rfl⟩;rw[<-SR];have SZ:cG B X x V W3 V:=by rw[SR];exact fc.grow SS ⟨g2,rfl⟩
 have ow:=ox.ext SZ.ex;have oV:=SZ.bk.o.ok;obtain⟨lr,le,sb,gm⟩:=cG.fa SZ;obtain⟨i0,d0⟩:=bO ow we 0 0 rfl De;obtain⟨i1,d1⟩:=bO ow we 1 1 rfl De;obtain⟨j0,f0,q0⟩:=cX ow we 0 0 rfl De;cases h3:jJ V.an (bI x.ev 0) (aL x.ev 1)with
 |false=>
  refine Rs (A8 t2 t3 t4 @aab @lr @aF @sb @gm) ?_;rw[bn,ZN h1,ZN (by rw[h2];decide),ZS (by rw[h3];rfl)];exact Ed
 |true=>
 have TU:bn V.an x.ev .copy=0:=by rw[bn,ZN h1,ZN (by rw[h2];decide),ZN (by rw[h3];decide)]
 refine Rs (A4 t2 t3 t4 @Z7) ?_;obtain⟨a,ha⟩:∃a,a=aL x.ev 0:=⟨_,rfl⟩;obtain⟨z,hz⟩:∃z,z=aL x.ev 1:=⟨_,rfl⟩;refine WL.inv T.mix (λm ts W=>∃(k:Nat) (U:RV),k<=V.aj.length/\m=V.aj.length-k/\cG B X x V W U/\U.s2=V.s2/\U.aj.length=V.aj.length/\
   {U.an with aj:=V.an.aj} =V.an/\(∀i (hi:i<U.aj.length) (hi':i<V.aj.length),(U.aj[i]).1=if i<k then je a z (V.aj[i]).1 else(V.aj[i]).1)/\
   ts.length=250/\slot ts 2=.ptr X.length 0/\slot ts 3=.ptr (X.length+1) 0/\slot ts 4=.ptr (X.length+2) 0/\slot ts 7=.i k) V.aj.length
  ⟨0,V,Om,rfl,SZ,rfl,rfl,rfl,λi hi hi'=>by rw[ZN Om],Sn,(Sq t2),(Sq t3),(Sq t4),gP⟩ ?_
 clear t2 t3 t4 hlen i0 i1 d0 d1 j0 f0 oV ow lr le sb gm;rintro _ ts W4 ⟨k,U,hk,rfl,s,Tb,UC,hreg,hU,hlen,t2,t3,t4,t7⟩;have ow:=ox.ext s.ex;have oU:=s.bk.o.ok;obtain⟨lr,le,sb,gm⟩:=cG.fa s;by_cases hlt:k<V.aj.length
 ·have VB:k<U.aj.length:=Om
  have e3:=eC hlt;have e5:=wrapN (n:=k) Om;have ll:∀(G:Nat->Option ak),Go.Abs.ju .sl G U.s2=some V.aj.length:=λG=>by rw[oU.i2.aK,UC]
  have ix:aZ 3 U.s2 (.i (k:Int))=some (cT U.s2 3 k,.ay):=oU.i2.dE VB;have Tm:U.aj[k]∈U.aj:=ZR _;have hx1:(U.aj[k]).1=(V.aj[k]).1:=by rw[hU k VB hlt,ZN Om]
  have hxl:(U.aj[k]).1.aG.length<2^30:=by rw[hx1];exact htp _ (ZR _)
  have Wy:=s.bk.o.e2 _ Tm;have next:∀(U2:RV),U2.aj.length=V.aj.length->(∀i (hi:i<U2.aj.length) (hi':i<U.aj.length),(U2.aj[i]).1=if i=k then je a z (U.aj[i]).1 else(U.aj[i]).1)->
    ∀i (hi:i<U2.aj.length) (hi':i<V.aj.length),(U2.aj[i]).1=if i<k+1 then je a z (V.aj[i]).1 else(V.aj[i]).1:=by
   intro U2 a3 a5 i hi hi';exact Rm
  obtain⟨y,hy⟩:∃y,y=U.aj[k]:=⟨_,rfl⟩;have ly:∀{kk:ah},Ext W4 kk->aq none (mD U.s2 3 k 2) (λb=>kk[b]?)=some (y.2,.ay):=λ{kk} e=>oU.i2.qz VB (by rw[<-hy];rfl) e
  rw[<-hy]at Wy hxl;have oy:=Wy.aX.one;obtain⟨i0,d0⟩:=bO ow we 0 0 rfl De;obtain⟨i1,d1⟩:=bO ow we 1 1 rfl De;rw[<-ha]at d0;rw[<-hz]at d1;refine Rs (xJ t2 t3 t4 t7 @lr @le @fB @ll e3 ix @ly @aO @i0 @d0) ?_;refine WF.ce T.c35 (r35 T (Wy.aX.ext Xx) Om a) λg3=>?_
  by_cases c1:a∈y.1.aG
  case neg=>
   have u1:decide (a∈y.1.aG)=false:=ZD c1;rw[u1];refine Rs (A5 t2 t3 t4 t7 e5) ?_;refine⟨_,Om,k+1,U,Om,rfl,fc.grow s ⟨g3,rfl⟩,Tb,UC,hreg,next U UC (λi hi hi'=>?_),rfl⟩;split
   ·rename_i Uw;subst Uw;rw[<-hy,je,ZN (λw=>c1 w.1)]
   ·rfl
  have u1:decide (a∈y.1.aG)=true:=ZI c1;rw[u1];refine Rs (A8 t2 t3 t4 t7 @le @aO @i1 @d1) ?_;refine WF.ce T.c35 (r35 T (Wy.aX.ext Xx) Om z) λg4=>?_
  by_cases c2:z∈y.1.aG
  ·have u2:decide (z∈y.1.aG)=true:=ZI c2;rw[u2];refine Rs (A6 t2 t3 t4 t7 @Z7 e5) ?_;refine⟨_,Om,k+1,U,Om,rfl,fc.grow s (by rw[ZE];exact⟨_,rfl⟩),Tb,UC,hreg,next U UC (λi hi hi'=>?_),rfl⟩;split
   ·rename_i Uw;subst Uw;rw[<-hy,je,ZN (λw=>w.2 c2)]
   ·rfl
  have u2:decide (z∈y.1.aG)=false:=ZD c2;rw[u2];refine Rs (A5 t2 t3 t4 t7 @aab) ?_;obtain⟨W5,UY⟩:∃Z,Z=W4++g3++g4:=⟨_,rfl⟩;rw[<-UY];have Yx:Ext W4 W5:=by rw[UY,ZE];exact⟨_,rfl⟩
  have s5:cG B X x V W5 U:=fc.grow s Yx;have S5:HC X x U W5:=⟨s5.bk.m,cG.MT s5,ox.ext s5.ex⟩;have hfx5:=s5.bk.o.e2 y (by rw[hy];exact Tm);refine pr (HC X x U) ?_;refine db S5 rfl rfl ?_;refine Rs (A4 t2 t3 t4 t7) ?_;refine lA S5 (v:=U.s2) (λg hg=>?_) ?_
  ·simp only[aS,aW,bo,bp,reduceAdd,reduceMul,reduceLeDiff,reduceEqDiff,bw,hlen,ZY,Z1,t2,aB hg.r,fB]
  refine Rs (A4 t2 t3 t4 t7) ?_;refine db S5 rfl rfl ?_;refine Rs (A4 t2 t3 t4 t7) ?_;refine db S5 rfl rfl ?_;refine Rs (A4 t2 t3 t4 t7) ?_;have S6:HC X x U (W5++[ak.b []]):=S5.ext ⟨_,rfl⟩;refine db S6 rfl rfl ?_;refine Rs (A4 t2 t3 t4 t7) ?_;refine db S6 rfl rfl ?_;refine Rs (A4 t2 t3 t4 t7) ?_;obtain⟨n5,hn5⟩:∃n,n=W5.length:=⟨_,rfl⟩;refine WR.pQ (N:=n5) (w:=16) aV (Nat.le_of_eq hn5) (hfx5.aX.ext Xx) (by simp only[ZL];omega) λt0 g5 ft=>?_
  obtain⟨W6,Ul⟩:∃Z,Z=W5++[ak.b []]++g5:=⟨_,rfl⟩;rw[<-Ul]at ft ⊢;have e56:Ext W5 W6:=by rw[Ul,ZE];exact⟨_,rfl⟩
  have S7:HC X x U W6:=S5.ext e56;have oq:=S7.n;have iq:aZ 1 x.sn (.i 1)=_:=(wR oq we (i:=1) De).1;have p0:=ft.aX.one;refine Rs (A4 t2 t3 t4 t7) ?_;refine db S7 rfl rfl ?_;refine Rs (A4 t2 t3 t4 t7) ?_;refine lA S7 (v:=x.sn) (λg hg=>?_) ?_
  ·simp only[aS,aW,bo,bp,reduceAdd,reduceMul,reduceLeDiff,reduceEqDiff,bw,hlen,ZY,Z1,t3,aB hg.e,aO]
  refine Rs (A4 t2 t3 t4 t7) ?_;refine db S7 rfl rfl ?_;refine Rs (A5 t2 t3 t4 t7 @iq) ?_;refine lA S7 (v:=.str z) (λg hg=>?_) ?_
  ·have h9:=@(wR hg.n we (i:=1) De).2;rw[<-hz]at h9;refine Zs t3 ?_;exact h9 (Ext.refl _)
  refine Rs (A4 t2 t3 t4 t7) ?_;refine db S7 rfl rfl ?_;refine Rs (A4 t2 t3 t4 t7) ?_;refine db (S7.ext ⟨_,rfl⟩) rfl rfl ?_;refine Rs (A4 t2 t3 t4 t7) ?_;rw[hn5]at ft;have s6:cG B X x V W6 U:=fc.grow s5 e56;refine WR.qB (B:=W5) (cs:=y.1.aG.map ao) ft rfl e56 De (by simp only[ZL];omega) ?_;intro W7 t' x7 hff hn7 q7 l7 hk7;have hrow:y.1.aG.map ao++[[AV.str z]]=(y.1.aG++[z]).map ao:=by rw[ZM];rfl
  rw[hrow]at hff;have k7:∀i,i<W5.length->W7[i]? =W5[i]? :=λi hi=>x7.get hi
  have s7:cG B X x V W7 U:=fc.grow s5 x7;have S8:HC X x U W7:=S5.ext x7;refine Rs (A4 t2 t3 t4 t7) ?_;refine pq S8 rfl ?_;have hs27:Fr B.length W7 U.s2 3 (U.aj.map bf):=s7.bk.o.i2;have ix:aZ 3 U.s2 (.i (k:Int))=some (cT U.s2 3 k,.ay):=oU.i2.dE VB;refine Rs (A6 t2 t3 t4 t7 ix q7) ?_;refine WR.CA (B:=B) (x':=(⟨y.1.name,y.1.line,y.1.aG++[z]⟩,t')) (row:=bf) hs27 s7.ex VB De q7 (by rw[<-hy];rfl) ?_;intro W8 x8 l8 hf8 hk8;have ft8:Fr B.length W8 t' 1 ((y.1.aG++[z]).map ao):=(hff.aC λi hi=>hk8 i λe=>by
   have h1:=(hff.bP hi).1;have h2:=(s5.bk.o.dU (b:=i) (by rw[<-e];simp[RV.bl])).2;omega).low s5.ex.len
  have s8:cG B X x V W8 {U with aj:=U.aj.set k (⟨y.1.name,y.1.line,y.1.aG++[z]⟩,t') }:=fc.qS s VB hf8 ft8 (λj hj=>by have h1:=(hff.bP hj).1;have:=Yx.len;omega) (λj hj n1 n2=>by
   rw[hk8 j n1,k7 j (by have:=Yx.len;omega)];exact Yx.get hj) x8 (by have:=Yx.len;have:=e56.len;omega)
  refine Rs (A5 t2 t3 t4 t7 e5) ?_;refine⟨_,Om,k+1,_,Om,rfl,s8,Tb,(by simp only[aap];exact UC),hreg,next _ (by simp only[aap];exact UC) (λi hi hi'=>?_),rfl⟩;by_cases Uw:i=k
  ·subst Uw;simp only[abA,Z1];rw[<-hy,je,ZS ⟨c1,c2⟩]
  ·exact Kk
 ·have e3:decide ((k:Int)<V.aj.length)=false:=ZD Om;have e4:k=V.aj.length:=Om
  have ll:∀(G:Nat->Option ak),Go.Abs.ju .sl G U.s2=some V.aj.length:=λG=>by rw[oU.i2.aK,UC]
  refine Rs (mZ t2 t3 t4 t7 @lr @fB @ll e3 @aF @sb @gm) ?_;rw[TU];refine cG.fin s (λ_=>?_);exact z31
def Df{d}(hd:d=.line\/d=.tape\/d=.gp\/d=.copy\/d=.accept)(o:cJ B.length X V)(w:eD V.an)(hx:Ext B X)(ox:bh B x)(we:jY x.ev d)(nk:sU V.an x.ev d):
  du P 225 [.agg V.row,.agg x.row] X (sF B X V (bn V.an x.ev d) (dt V.an x.ev d)):=by
 refine .of T.mix (acd T.c225 (aai some OQ)) ?_;obtain⟨ts,Sv⟩:∃ts,ts=aT 250 [.agg V.row,.agg x.row]:=⟨_,rfl⟩;have hlen:ts.length=250:=by rw[Sv];rfl
 have t0:slot ts 0=.agg V.row:=by rw[Sv];rfl
 have t1:slot ts 1=.agg x.row:=by rw[Sv];rfl
 show WC P bN (.seq ((fn225).body.hd) At) [] (aT 250 [.agg V.row,.agg x.row]) X (FQ [(4,some (some 7)),(5,none)] (sF B X V (bn V.an x.ev d) (dt V.an x.ev d)));rw[<-Sv];clear Sv;have Su:=@aD.box _ _ o.ok;have hex:=@bh.box _ _ (ox.ext hx);have s:cG B X x V (X++[.b V.row]++[.b x.row]++[.b k9]) V:=by
  exact z20
 unfold k9 at s;generalize hB:At=R;unfold fn225;simp only[ai.hd];refine Rs (A4 t0 t1 @Su @hex) ?_;rw[<-hB];rcases hd with rfl|rfl|rfl|rfl|rfl
 ·exact EP T w ox we nk s Sn Sw (by simp only[aS,aW,bo,bp,reduceAdd,reduceMul,reduceLeDiff,reduceEqDiff,bw,hlen,ZY,Z1];simp) (by simp only[aS,aW,bo,bp,reduceAdd,reduceMul,reduceLeDiff,reduceEqDiff,bw,hlen,ZY,Z1];simp)
 ·exact EN T w ox we nk s Sn Sw (by simp only[aS,aW,bo,bp,reduceAdd,reduceMul,reduceLeDiff,reduceEqDiff,bw,hlen,ZY,Z1];simp) (by simp only[aS,aW,bo,bp,reduceAdd,reduceMul,reduceLeDiff,reduceEqDiff,bw,hlen,ZY,Z1];simp)
 ·exact EO T w ox we nk s Sn Sw (by simp only[aS,aW,bo,bp,reduceAdd,reduceMul,reduceLeDiff,reduceEqDiff,bw,hlen,ZY,Z1];simp) (by simp only[aS,aW,bo,bp,reduceAdd,reduceMul,reduceLeDiff,reduceEqDiff,bw,hlen,ZY,Z1];simp)
 ·exact ER T w ox we nk s Sn Sw (by simp only[aS,aW,bo,bp,reduceAdd,reduceMul,reduceLeDiff,reduceEqDiff,bw,hlen,ZY,Z1];simp) (by simp only[aS,aW,bo,bp,reduceAdd,reduceMul,reduceLeDiff,reduceEqDiff,bw,hlen,ZY,Z1];simp)
 ·exact As T w ox we nk s Sn Sw (by simp only[aS,aW,bo,bp,reduceAdd,reduceMul,reduceLeDiff,reduceEqDiff,bw,hlen,ZY,Z1];simp) (by simp only[aS,aW,bo,bp,reduceAdd,reduceMul,reduceLeDiff,reduceEqDiff,bw,hlen,ZY,Z1];simp)
end
def fc.MB{B W0 W W2 b K U}(s:fc B W0 b K W U)(hk:∀i,i<W.length->W2[i]? =W[i]?)(hl:W.length<=W2.length)(hx:Ext B W2):fc B W0 b K W2 U:=by
 refine⟨⟨s.bk.o.ay λi hi=>hk i (s.bk.o.dU hi).2,s.bk.hN,(hk _ s.bk.lt).trans s.bk.m,s.bk.ne⟩,hx,aat s.ln hl,λi hi=>?_,s.kl⟩;rw[hk i (aax (s.kl i hi).1 s.ln)];exact s.kp i hi
structure uX(B W Y:ah)(mb:Nat)(c:List AV)(t:AV)(ins:List (By)):Prop where
 k:∀i,i<W.length->Y[i]? =W[i]?
 b:B.length<=W.length
 l:W.length<=mb
 x:Ext B Y
 m:Y[mb]? =some (.b c)
 f:Fr W.length Y t 1 (ins.map ao)
 n:∀i,sB t=some i->i≠mb
def uX.lt{B W Y mb c t ins}(s:uX B W Y mb c t ins):mb<Y.length:=(ZC.1 s.m).1
def uX.grow{B W Y Y2 mb c t ins}(s:uX B W Y mb c t ins)(e:Ext Y Y2):uX B W Y2 mb c t ins:=by
 have h1:=s.lt;have h2:=s.l;exact⟨λi hi=>by rw[e.get Om,s.k i hi],s.b,s.l,s.x.trans e,e.some s.m,s.f.ext e,s.n⟩
theorem uX.set{B W Y mb c t ins}(s:uX B W Y mb c t ins)(c':List AV):uX B W (Y.set mb (.b c')) mb c' t ins:=by
 have h1:=s.lt;have h2:=s.l;have h3:=s.b;exact⟨λi hi=>by rw[ZV Om,s.k i hi],s.b,s.l,s.x.hP Om,ZU h1,s.f.aC λi hi=>ZV (aa3 (s.n i hi)),s.n⟩
def uX.rc{B X W Y x V mb c t ins}(s:uX B W Y mb c t ins)(r:cG B X x V W V):cG B X x V Y V:=
 fc.MB r s.k (by have:=s.lt;have:=s.l;omega) s.x
def uX.st{B W Y mb c t ins}(s:uX B W Y mb c t ins){i v}(hv:v.one=true)(hi:i+1<=c.length):aU 1 (.ptr mb i) v (λz=>Y[z]?)=some (az,.set mb (.b (c.set i v))):=
 (aN s.m).trans (bW hv hi)
def w7(k:Nat):ai:=(fn226).body.dr k
def F4(k:Nat):ai:=((fn226).body.dr k).hd
def QH:w7 1=.seq (F4 1) (w7 2):=rfl
def Jr:w7 2=.seq (F4 2) (w7 3):=rfl
def QI:fn226=⟨96,2,[(4,some (some 7)),(5,none)],.seq (F4 0) (w7 1)⟩:=rfl
section
variable {P:Program}(T:fy P) {B X W Y:ah}{ts:TS}{V:RV}{x:EV}{mb:Nat}
include T
theorem uz(w:eD V.an)(s:cG B X x V W V){y t ins}(hb:uX B W Y mb [.str y.name,.str y.gives,.str y.line,t] t ins)(hy:y.aI=ins)(hlen:ts.length=96)(t2:slot ts 2=.ptr X.length 0)(t4:slot ts 4=.ptr (X.length+2) 0)(t6:slot ts 6=.ptr mb 0):
  WC P bN (w7 3) [] ts Y (FQ [(4,some (some 7)),(5,none)] (sF B X V (if 32<=V.an.ar.length then 5 else 0) {V.an with ar:=V.an.ar++[y] })):=by
 have sY:=hb.rc s;have oV:=sY.bk.o.ok;have lm:=@eQ _ _ _ hb.m;have hml:V.an.ar.length=V.ar.length:=by simp[RV.an]
 have ot:=hb.f.aX.one;obtain⟨lr,le,sb,gm⟩:=cG.fa sY;unfold w7 fn226;simp only[ai.j,ai.s,ai.r,ai.dr,ai.tl];by_cases h1:32<=V.ar.length
 case pos=>
  have e1:decide ((32:Int)<=(V.ar.length:Int))=true:=ZI Om;refine Rs (na t2 t4 t6 @lr @fx oV.i3.aK e1 @aF @sb @gm) ?_;rw[hml,ZS h1];exact z91
 have e1:decide ((32:Int)<=(V.ar.length:Int))=false:=ZD Om;obtain⟨z,hz⟩:∃z:List AV,z=aP (y,t):=⟨_,rfl⟩;have Ur:[AV.str y.name,.str y.gives,.str y.line,t]=z:=by rw[hz];rfl
 refine Rs (A9 t2 t4 t6 @lr @fx oV.i3.aK e1 @lm @ot) ?_;rw[Ur];refine WR.qB (B:=B) (cs:=V.ar.map aP) (sY.bk.o.i3) (by rw[hz];rfl) sY.ex De (by rw[ZL];omega) ?_;intro W5 s' x5 hff hn5 q5 l5 hk5;have hrow:V.ar.map aP++[z]=(V.ar++[(y,t)]).map aP:=by rw[ZM,hz];rfl
 rw[hrow]at hff;have hlW:W.length<=Y.length:=by have:=hb.lt;have:=hb.l;omega
 have bS:∀i,sB t=some i->sB V.s3≠some i:=λi hi e=>by
  have h1:=(hb.f.bP hi).1;have h2:=(s.bk.o.dU (b:=i) (by rw[<-e];simp[RV.bl])).2;omega
 have f5:Fr B.length W5 t 1 (y.aI.map ao):=by
  rw[hy];exact(hb.f.aC λi hi=>hk5 i (hb.f.bP hi).2 (bS i hi)).low hb.b
 have s5:cG B X x V (W5.set X.length (.b (V.row.set 4 s'))) {V with ar:=V.ar++[(y,t)],s3:=s'}:=fc.p3 s hff f5 (λi hi=>.inr (by have:=hn5 i hi;omega)) (λi hi=>⟨(hb.f.bP hi).1,λe=>by have:=hn5 i e;have:=(hb.f.bP hi).2;omega⟩) (λi hi hne=>(hk5 i Om hne).trans (hb.k i hi)) x5 Om;have mB:W5[X.length]? =some (.b V.row):=(hk5 _ sY.bk.lt (λz=>sY.bk.ne (by rw[<-z];simp[RV.bl]))).trans sY.bk.m;have Ud:aU 1 (.ptr X.length 4) s' (λz=>W5[z]?)=some (az,.set X.length (.b (V.row.set 4 s'))):=(aN mB).trans (bW q5 (by show 4+1<=7;omega));refine Rs (A5 t2 t4 t6 @Ud q5) ?_;obtain⟨W6,Ul⟩:∃Z,Z=W5.set X.length (.b (V.row.set 4 s')):=⟨_,rfl⟩
 rw[<-Ul]at s5 ⊢;obtain⟨lr,le,sb,gm⟩:=cG.fa s5;refine Rs (A7 t2 t4 t6 @lr @aF @sb @gm) ?_;rw[hml,ZN h1];exact cG.fin s5 (λ_=>by simp only[RV.an,ZM,aar,abn])
variable {t:AV}
def Bd(w:eD V.an)(ox:bh B x)(we:jY x.ev .source)(nk:sU V.an x.ev .source)(s:cG B X x V W V)(hb:uX B W Y mb [.str (aL x.ev 0),.str [],.str [],t] t (x.ev.names.drop 1))(ht:t.one=true)(hlen:ts.length=96)(t2:slot ts 2=.ptr X.length 0)(t3:slot ts 3=.ptr (X.length+1) 0)(t4:slot ts 4=.ptr (X.length+2) 0)(t6:slot ts 6=.ptr mb 0):
  WC P bN (w7 2) [] ts Y (FQ [(4,some (some 7)),(5,none)] (sF B X V (bn V.an x.ev .source) (dt V.an x.ev .source))):=by
 have sY:=hb.rc s;have ow:=ox.ext sY.ex;have oV:=sY.bk.o.ok;have SD:x.ev.kind=bz .source:=cj we.kd;have lm:=@eQ _ _ _ hb.m;obtain⟨lr,le,sb,gm⟩:=cG.fa sY;rw[Jr];generalize hR:w7 3=R;unfold F4 fn226;simp only[ai.j,ai.s,ai.r,ai.dr,ai.tl,ai.hd];refine pA (pB t2 t3 t4 t6 @le @bA @SD @iC @ki @jn @Z9 @Z5) ?_;refine pr (λg=>cG B X x V g V) ?_;refine db sY rfl rfl ?_;refine Rs (A4 t2 t3 t4 t6) ?_;refine lA sY (v:=x.sn) (λg hg=>?_) ?_
 ·simp only[aS,aW,bo,bp,reduceAdd,reduceMul,reduceLeDiff,reduceEqDiff,bw,hlen,ZY,Z1,t3,cG.le hg (Ext.refl _),aO]
 refine Rs (A4 t2 t3 t4 t6) ?_;have i1:aZ 1 x.sn (.i 1)=_:=(wR ow we (i:=1) De).1;refine db sY rfl rfl ?_;refine Rs (A5 t2 t3 t4 t6 @i1) ?_;refine lA sY (v:=.str (aL x.ev 1)) (λg hg=>?_) ?_
 ·have h9:=@(wR (ox.ext (fc.ex hg)) we (i:=1) De).2;refine Zs t3 ?_;exact h9 (Ext.refl _)
 refine Rs (A4 t2 t3 t4 t6) ?_;refine db sY rfl rfl ?_;refine Rs (A4 t2 t3 t4 t6) ?_;have S9:=hb.set [.str (aL x.ev 0),.str dM,.str [],t];have lB:aU 1 (.ptr mb 1) (.str [115,104,111,116,115]) (λz=>Y[z]?)=some (az,.set mb (.b [.str (aL x.ev 0),.str dM,.str [],t])):=hb.st rfl (by show 1+1<=4;omega);obtain⟨Y1,WN⟩:∃Z,Z=Y.set mb (.b [.str (aL x.ev 0),.str dM,.str [],t]):=⟨_,rfl⟩;rw[<-WN]at S9;refine db sY rfl rfl ?_;refine Rs (A5 t2 t3 t4 t6 @lB) ?_;rw[<-WN];have S1:=S9.rc s;refine pq S1 rfl ?_;have Tk:=S9.set [.str (aL x.ev 0),.str dM,.str (aL x.ev 1),t];have eP:aU 1 (.ptr mb 2) (.str (aL x.ev 1)) (λz=>Y1[z]?)=some (az,.set mb (.b [.str (aL x.ev 0),.str dM,.str (aL x.ev 1),t])):=S9.st rfl (by show 2+1<=4;omega)
 have VE:=Tk.set [.str (aL x.ev 0),.str dM,.str (aL x.ev 1),.af];have nW:aU 1 (.ptr mb 3) .af (λz=>(Y1.set mb (.b [.str (aL x.ev 0),.str dM,.str (aL x.ev 1),t]))[z]?)=some (az,.set mb (.b [.str (aL x.ev 0),.str dM,.str (aL x.ev 1),.af])):=Tk.st rfl (by show 3+1<=4;omega);have hb4:uX B W _ mb [.str (aL x.ev 0),.str dM,.str (aL x.ev 1),.af] .af []:=⟨VE.k,VE.b,VE.l,VE.x,VE.m,.nil,λi hi=>by cases hi⟩;refine Rs (A6 t2 t3 t4 t6 @eP @nW) ?_;rw[<-hR];exact uz T w s (y:=⟨aL x.ev 0,dM,aL x.ev 1,[]⟩) hb4 rfl Sn (Sq t2) (Sq t4) (Sq t6)
def F3(w:eD V.an)(ox:bh B x)(we:jY x.ev .gg)(nk:sU V.an x.ev .gg)(s:cG B X x V W V)(hb:uX B W Y mb [.str (aL x.ev 0),.str [],.str [],t] t (x.ev.names.drop 1))(ht:t.one=true)(hlen:ts.length=96)(t2:slot ts 2=.ptr X.length 0)(t3:slot ts 3=.ptr (X.length+1) 0)(t4:slot ts 4=.ptr (X.length+2) 0)(t6:slot ts 6=.ptr mb 0):
  WC P bN (w7 2) [] ts Y (FQ [(4,some (some 7)),(5,none)] (sF B X V (bn V.an x.ev .gg) (dt V.an x.ev .gg))):=by
 have sY:=hb.rc s;have ow:=ox.ext sY.ex;have oV:=sY.bk.o.ok;have SD:x.ev.kind=bz .gg:=cj we.kd;have lm:=@eQ _ _ _ hb.m;obtain⟨lr,le,sb,gm⟩:=cG.fa sY;obtain⟨i1,d1⟩:=bO ow we 1 1 rfl De;obtain⟨j1,f1,q1⟩:=cX ow we 1 1 rfl De;have k1:aL x.ev 1∈fL V.an:=nk.kn 1 3 rfl;rw[Jr];generalize hR:w7 3=R;unfold F4 fn226;simp only[ai.j,ai.s,ai.r,ai.dr,ai.tl,ai.hd];refine pA (Ec t2 t3 t4 t6 @le @lr @aO @aY @aF @bA @SD @iC @ki @jn @Z9 @Z5 @j1 @f1) ?_;refine WF.ce T.c20 (r20 T _ _ _) λg1=>?_
 obtain⟨Y1,WN⟩:∃Z,Z=Y++g1:=⟨_,rfl⟩;rw[<-WN];have hb:=hb.grow (show Ext Y Y1 from⟨g1,WN⟩);have sY:=hb.rc s;have ow:=ox.ext sY.ex;have oV:=sY.bk.o.ok;have lm:=@eQ _ _ _ hb.m;obtain⟨lr,le,sb,gm⟩:=cG.fa sY;obtain⟨i1,d1⟩:=bO ow we 1 1 rfl De;obtain⟨j1,f1,q1⟩:=cX ow we 1 1 rfl De;by_cases h1:bg (bI x.ev 1) 1 4=0
 case neg=>
  have e1:decide (bg (bI x.ev 1) 1 4≠0)=true:=ZI h1;refine Rs (A8 t2 t3 t4 e1 @lr @aF @sb @gm) ?_;rw[bn,ZS h1];exact z91
 have e1:decide (bg (bI x.ev 1) 1 4≠0)=false:=ZD (λz=>z h1);refine Rs (pB t2 t3 t4 t6 @le @lr @aO @aY @aF e1 @j1 @f1) ?_;refine WF.ce T.c263 (r263 T _) λg2=>?_
 obtain⟨Y2,UX⟩:∃Z,Z=Y1++g2:=⟨_,rfl⟩;rw[<-UX];have hb:=hb.grow (show Ext Y1 Y2 from⟨g2,UX⟩);have sY:=hb.rc s;have ow:=ox.ext sY.ex;have oV:=sY.bk.o.ok;have lm:=@eQ _ _ _ hb.m;obtain⟨lr,le,sb,gm⟩:=cG.fa sY;obtain⟨i1,d1⟩:=bO ow we 1 1 rfl De;obtain⟨j1,f1,q1⟩:=cX ow we 1 1 rfl De;refine Rs (mZ t2 t3 t4 t6 @le @lr @aO @aY @aF @i1 @d1) ?_;refine WF.ce T.c264 (r264 T (oV.ext Xx) w.len k1) λg3=>?_
 obtain⟨Y3,hY3⟩:∃Z,Z=Y2++g3:=⟨_,rfl⟩;rw[<-hY3];have hb:=hb.grow (show Ext Y2 Y3 from⟨g3,hY3⟩);have sY:=hb.rc s;have ow:=ox.ext sY.ex;have oV:=sY.bk.o.ok;have lm:=@eQ _ _ _ hb.m;obtain⟨lr,le,sb,gm⟩:=cG.fa sY;by_cases h2:(gT V.an (aL x.ev 1)).gives=ng (bI x.ev 1)
 case neg=>
  have e2:decide ((gT V.an (aL x.ev 1)).gives≠ng (bI x.ev 1))=true:=ZI h2;refine Rs (A9 t2 t3 t4 t6 e2 @lr @aF @sb @gm) ?_;rw[bn,ZN (λz=>z h1),ZS h2];exact z91
 have e2:decide ((gT V.an (aL x.ev 1)).gives≠ng (bI x.ev 1))=false:=ZD (λz=>z h2);have S9:=hb.set [.str (aL x.ev 0),.str (jW (bI x.ev 1)),.str [],t];have lB:aU 1 (.ptr mb 1) (.str (jW (bI x.ev 1))) (λz=>Y3[z]?)=some (az,.set mb (.b [.str (aL x.ev 0),.str (jW (bI x.ev 1)),.str [],t])):=hb.st rfl (by show 1+1<=4;omega);refine Rs (A6 t2 t3 t4 t6 e2 @lB) ?_;rw[<-hR];have hc:bn V.an x.ev .gg=if 32<=V.an.ar.length then 5 else 0:=by rw[bn,ZN (λz=>z h1),ZN (λz=>z h2)]
 rw[hc];exact uz T w s (y:=⟨aL x.ev 0,jW (bI x.ev 1),[],x.ev.names.drop 1⟩) S9 rfl Sn (Sq t2) (Sq t4) (Sq t6)
def DE(w:eD V.an)(ox:bh B x)(we:jY x.ev .merge)(nk:sU V.an x.ev .merge)(s:cG B X x V W V)(hb:uX B W Y mb [.str (aL x.ev 0),.str [],.str [],t] t (x.ev.names.drop 1))(ht:t.one=true)(hlen:ts.length=96)(t2:slot ts 2=.ptr X.length 0)(t3:slot ts 3=.ptr (X.length+1) 0)(t4:slot ts 4=.ptr (X.length+2) 0)(t6:slot ts 6=.ptr mb 0):
  WC P bN (w7 2) [] ts Y (FQ [(4,some (some 7)),(5,none)] (sF B X V (bn V.an x.ev .merge) (dt V.an x.ev .merge))):=by
 have sY:=hb.rc s;have ow:=ox.ext sY.ex;have oV:=sY.bk.o.ok;have SD:x.ev.kind=bz .merge:=cj we.kd;have lm:=@eQ _ _ _ hb.m;obtain⟨lr,le,sb,gm⟩:=cG.fa sY;obtain⟨i1,d1⟩:=bO ow we 1 1 rfl De;obtain⟨i2,d2⟩:=bO ow we 2 2 rfl De;have k1:aL x.ev 1∈fL V.an:=nk.kn 1 3 rfl;have k2:aL x.ev 2∈fL V.an:=nk.kn 2 3 rfl;rw[Jr];generalize hR:w7 3=R;unfold F4 fn226;simp only[ai.j,ai.s,ai.r,ai.dr,ai.tl,ai.hd];by_cases h1:aL x.ev 1=aL x.ev 2
 case pos=>
  have e1:decide (aL x.ev 1=aL x.ev 2)=true:=ZI h1;refine pA (RX t2 t3 t4 t6 @le @lr @aO @aY @aF @bA @SD @iC @ki @jn @Z9 @Z5 @i1 @d1 @i2 @d2 e1 @sb @gm) ?_;rw[bn,ZS h1];exact z91
 have e1:decide (aL x.ev 1=aL x.ev 2)=false:=ZD h1;refine pA (Q4 t2 t3 t4 t6 @le @lr @aO @aY @aF @bA @SD @iC @ki @jn @Z9 @Z5 @i1 @d1 @i2 @d2 e1) ?_;refine WF.ce T.c264 (r264 T (oV.ext Xx) w.len k1) λg2=>?_
 obtain⟨Y1,WN⟩:∃Z,Z=Y++g2:=⟨_,rfl⟩;rw[<-WN];have hb:=hb.grow (show Ext Y Y1 from⟨g2,WN⟩);have sY:=hb.rc s;have ow:=ox.ext sY.ex;have oV:=sY.bk.o.ok;have lm:=@eQ _ _ _ hb.m;obtain⟨lr,le,sb,gm⟩:=cG.fa sY;have S9:=hb.set [.str (aL x.ev 0),.str (gT V.an (aL x.ev 1)).gives,.str [],t];have lB:aU 1 (.ptr mb 1) (.str (gT V.an (aL x.ev 1)).gives) (λz=>Y1[z]?)=some (az,.set mb (.b [.str (aL x.ev 0),.str (gT V.an (aL x.ev 1)).gives,.str [],t])):=hb.st rfl (by show 1+1<=4;omega);refine Rs (A5 t2 t3 t4 t6 @lB) ?_;obtain⟨Y2,UX⟩:∃Z,Z=Y1.set mb (.b [.str (aL x.ev 0),.str (gT V.an (aL x.ev 1)).gives,.str [],t]):=⟨_,rfl⟩
 rw[<-UX]at S9 ⊢;have hb:=S9;obtain⟨Y3,hY3⟩:∃Z,Z=Y2++[]:=⟨_,rfl⟩;rw[Z6]at hY3;rw[<-hY3];have hb:=hb.grow (show Ext Y2 Y3 from⟨[],by rw[Z6];exact hY3⟩);have sY:=hb.rc s;have ow:=ox.ext sY.ex;have oV:=sY.bk.o.ok;have lm:=@eQ _ _ _ hb.m;obtain⟨lr,le,sb,gm⟩:=cG.fa sY;obtain⟨i1,d1⟩:=bO ow we 1 1 rfl De;obtain⟨i2,d2⟩:=bO ow we 2 2 rfl De;refine Rs (mZ t2 t3 t4 t6 @le @lr @aO @aY @aF @i2 @d2) ?_;refine WF.ce T.c264 (r264 T (oV.ext Xx) w.len k2) λg3=>?_
 obtain⟨Y4,hY4⟩:∃Z,Z=Y3++g3:=⟨_,rfl⟩;rw[<-hY4];have hb:=hb.grow (show Ext Y3 Y4 from⟨g3,hY4⟩);have sY:=hb.rc s;have ow:=ox.ext sY.ex;have oV:=sY.bk.o.ok;have lm:=@eQ _ _ _ hb.m;obtain⟨lr,le,sb,gm⟩:=cG.fa sY;by_cases h2:(gT V.an (aL x.ev 1)).gives=(gT V.an (aL x.ev 2)).gives
 case neg=>
  have e2:decide ((gT V.an (aL x.ev 2)).gives≠(gT V.an (aL x.ev 1)).gives)=true:=ZI (λz=>h2 z.symm);refine Rs (na t2 t3 t4 t6 @lm e2 @lr @aF @sb @gm) ?_;rw[bn,ZN h1,ZS h2];exact z91
 have e2:decide ((gT V.an (aL x.ev 2)).gives≠(gT V.an (aL x.ev 1)).gives)=false:=ZD (λz=>z h2.symm);refine Rs (A6 t2 t3 t4 t6 @lm e2) ?_;rw[<-hR];have hc:bn V.an x.ev .merge=if 32<=V.an.ar.length then 5 else 0:=by rw[bn,ZN h1,ZN (λz=>z h2)]
 rw[hc];exact uz T w s (y:=⟨aL x.ev 0,(gT V.an (aL x.ev 1)).gives,[],x.ev.names.drop 1⟩) hb rfl Sn (Sq t2) (Sq t4) (Sq t6)
omit T in
theorem G4(o:cJ B.length X V)(hx:Ext B X):cG B X x V (X++[.b V.row]++[.b x.row]++[.b k9]) V:=by
 exact z20
def DD{d}(hd:d=.source\/d=.gg\/d=.merge)(w:eD V.an)(ox:bh B x)(we:jY x.ev d)(nk:sU V.an x.ev d)(s:cG B X x V W V)(hlen:ts.length=96)(t2:slot ts 2=.ptr X.length 0)(t3:slot ts 3=.ptr (X.length+1) 0)(t4:slot ts 4=.ptr (X.length+2) 0):
  WC P bN (w7 1) [] ts W (FQ [(4,some (some 7)),(5,none)] (sF B X V (bn V.an x.ev d) (dt V.an x.ev d))):=by
 have ow:=ox.ext s.ex;have hn1:1<=x.ev.names.length:=by rw[we.nl];rcases hd with rfl|rfl|rfl<;>decide
 have hn3:x.ev.names.length<=3:=by rw[we.nl];rcases hd with rfl|rfl|rfl<;>decide
 have VP:0<(bJ d).length:=by rw[<-we.nl];exact hn1
 obtain⟨i0,d0⟩:=bO ow we 0 0 rfl VP;obtain⟨lr,le,sb,gm⟩:=cG.fa s;obtain⟨s',es',Sx⟩:=ow.n.GR (lo:=some (.i 1)) (hi:=none) (mI (k:=1) hn1);have et:List.take (x.ev.names.length-1) (List.drop 1 x.ev.names)=x.ev.names.drop 1:=aal Si;rw[et]at Sx;rw[QH];generalize hR:w7 2=R;unfold F4 fn226;simp only[ai.j,ai.s,ai.r,ai.dr,ai.tl,ai.hd];refine Rs (A8 t2 t3 t4 @le @aO @i0 @d0 @es') ?_;refine WR.pQ (N:=W.length) (w:=16) aV (ZO _) (Sx.ext Xx) (by simp only[ZL,abz];omega) λt g f=>?_
 have ot:=f.aX.one;obtain⟨Y,hY⟩:∃Z,Z=W++[ak.b []]++g:=⟨_,rfl⟩;rw[<-hY]at f ⊢;have eY:Ext W Y:=by rw[hY,ZE];exact⟨_,rfl⟩
 refine Rs (A4 t2 t3 t4 @ot) ?_;have hb:uX B W (Y++[ak.b [AV.str (aL x.ev 0),.str [],.str [],t]]) Y.length [AV.str (aL x.ev 0),.str [],.str [],t] t (x.ev.names.drop 1):=by
  refine⟨λi hi=>?_,s.ex.len,eY.len,s.ex.trans (eY.trans ⟨_,rfl⟩),aV,f.app _,λi hi e=>?_⟩
  ·rw[ZF (by have:=eY.len;omega),eY.get hi]
  ·have:=(f.bP hi).2;omega
 rw[<-hR];rcases hd with rfl|rfl|rfl
 ·exact Bd T w ox we nk s hb ot Sn (Sq t2) (Sq t3) (Sq t4) Sw
 ·exact F3 T w ox we nk s hb ot Sn (Sq t2) (Sq t3) (Sq t4) Sw
 ·exact DE T w ox we nk s hb ot Sn (Sq t2) (Sq t3) (Sq t4) Sw
def IZ{d}(hd:d=.source\/d=.gg\/d=.merge)(o:cJ B.length X V)(w:eD V.an)(hx:Ext B X)(ox:bh B x)(we:jY x.ev d)(nk:sU V.an x.ev d):
  du P 226 [.agg V.row,.agg x.row] X (sF B X V (bn V.an x.ev d) (dt V.an x.ev d)):=by
 refine .of T.mix (acd T.c226 (aai some QI)) ?_;obtain⟨ts,Sv⟩:∃ts,ts=aT 96 [.agg V.row,.agg x.row]:=⟨_,rfl⟩;have hlen:ts.length=96:=by rw[Sv];rfl
 have t0:slot ts 0=.agg V.row:=by rw[Sv];rfl
 have t1:slot ts 1=.agg x.row:=by rw[Sv];rfl
 show WC P bN (.seq (F4 0) (w7 1)) [] (aT 96 [.agg V.row,.agg x.row]) X (FQ [(4,some (some 7)),(5,none)] (sF B X V (bn V.an x.ev d) (dt V.an x.ev d)));rw[<-Sv];clear Sv;have Su:=@aD.box _ _ o.ok;have hex:=@bh.box _ _ (ox.ext hx);have s:cG B X x V (X++[.b V.row]++[.b x.row]++[.b k9]) V:=G4 o hx;unfold k9 at s;generalize hR:w7 1=R;unfold F4 fn226;simp only[ai.dr,ai.hd];refine Rs (A4 t0 t1 @Su @hex) ?_;rw[<-hR];exact DD T hd w ox we nk s Sn Sw (by simp only[aS,aW,bo,bp,reduceAdd,reduceMul,reduceLeDiff,reduceEqDiff,bw,hlen,ZY,Z1];simp) (by simp only[aS,aW,bo,bp,reduceAdd,reduceMul,reduceLeDiff,reduceEqDiff,bw,hlen,ZY,Z1];simp)
end
def A0(k:Nat):ai:=(fn227).body.dr k
def Qy(k:Nat):ai:=((fn227).body.dr k).hd
def Qx:fn227=⟨223,2,[(4,some (some 7)),(5,none)],.seq (Qy 0) (A0 1)⟩:=rfl
structure QY(V:RV)(n:By)(p:Nat)(J:kF×AV):Prop where
 ps:p=a8 (iA V.an) n
 lt:p<V.aE.length
 g:V.aE[p]? =some J
 e:J.1=cW V.an n
 m:J∈V.aE
 i:dm (λy:kF×AV=>decide (y.1.name=n)) V.aE=(p:Int)
def PO{V n}(hn:n∈iA V.an):∃p J,QY V n p J:=by
 have hlt:a8 (iA V.an) n<V.aE.length:=by have:=cL hn;simpa [iA,RV.an]using this
 refine⟨_,V.aE[a8 (iA V.an) n],rfl,hlt,ZH hlt,?_,ZR _,?_⟩
 ·rw[cW,cS (f:=kF.name) (l:=V.an.aE) (d:=vO) hn];exact Eh
 ·rw[iF];exact fk (f:=λy:kF×AV=>y.1.name) (by rw[<-iF];exact hn)
theorem QY.at{V n p J}(j:QY V n p J):V.aE[p]'j.lt=J:=by
 have:=j.g;rw[ZH j.lt]at this;exact aaE this
section
variable {P:Program}(T:fy P) {B X W:ah}{ts:TS}{V:RV}{x:EV}
include T
def Jq(w:eD V.an)(ox:bh B x)(we:jY x.ev .rel)(nk:sU V.an x.ev .rel)(s:cG B X x V W V)(hlen:ts.length=223)(t2:slot ts 2=.ptr X.length 0)(t3:slot ts 3=.ptr (X.length+1) 0)(t4:slot ts 4=.ptr (X.length+2) 0):
  WC P bN (A0 1) [] ts W (FQ [(4,some (some 7)),(5,none)] (sF B X V (bn V.an x.ev .rel) (dt V.an x.ev .rel))):=by
 have ow:=ox.ext s.ex;have oV:=s.bk.o.ok;have SD:x.ev.kind=bz .rel:=cj we.kd;obtain⟨lr,le,sb,gm⟩:=cG.fa s;obtain⟨i0,d0⟩:=bO ow we 0 0 rfl De;unfold A0 fn227;simp only[ai.j,ai.s,ai.r,ai.dr,ai.tl];have k0:aL x.ev 0∈lh V.an:=nk.kn 0 5 rfl;have hlt:a8 (lh V.an) (aL x.ev 0)<V.aJ.length:=by have:=cL k0;simpa [lh,RV.an]using this
 have ei:dm (λy:nP=>decide (y.name=aL x.ev 0)) V.aJ=(a8 (lh V.an) (aL x.ev 0):Int):=fk (f:=nP.name) k0;have sp:jr V.an (aL x.ev 0)=V.aJ[a8 (lh V.an) (aL x.ev 0)]:=cS k0;obtain⟨p,hp⟩:∃p,p=a8 (lh V.an) (aL x.ev 0):=⟨_,rfl⟩;rw[<-hp]at ei;have hlt:p<V.aJ.length:=by rw[hp];exact hlt
 have sp:jr V.an (aL x.ev 0)=V.aJ[p]:=by rw[sp];congr 1;exact hp.symm
 refine pA (Bv t2 t3 t4 @le @lr @bA @aO @aY @aF @SD @gV @Z9 @Z5 @i0 @d0) ?_;refine WF.ce T.c57 (r57 T (oV.ext Xx) w.len _) λg1=>?_
 rw[ei];obtain⟨W2,S0⟩:∃Z,Z=W++g1:=⟨_,rfl⟩;rw[<-S0];have SS:cG B X x V W2 V:=by rw[S0];exact fc.grow s ⟨g1,rfl⟩
 have ow:=ox.ext SS.ex;have oV:=SS.bk.o.ok;obtain⟨lr,le,sb,gm⟩:=cG.fa SS;have ix:aZ 4 V.s5 (.i (p:Int))=some (cT V.s5 4 p,.ay):=oV.i5.dE hlt;have l3:∀{k:ah},Ext W2 k->aq none (mD V.s5 4 p 3) (λb=>k[b]?)=some (.bool (jr V.an (aL x.ev 0)).rel,.ay):=λ{k} e=>by rw[sp];exact oV.i5.qz hlt rfl e
 cases h1:(jr V.an (aL x.ev 0)).rel with
 |true=>
  rw[h1]at l3;refine Rs (na t2 t3 t4 ix @l3 @lr @aF @gY @sb @gm) ?_;rw[bn,ZS h1];exact z87
 |false=>
  rw[h1]at l3;have TU:bn V.an x.ev .rel=0:=by rw[bn,ZN (by rw[h1];decide)]
  refine Rs (A7 t2 t3 t4 ix @l3 @lr @gY) ?_;refine WR.CA (B:=B) (x':={V.aJ[p]with rel:=true}) (row:=cF) SS.bk.o.i5 SS.ex hlt De rfl rfl ?_;intro W5 x5 l5 hff hk5;have s5:cG B X x V W5 {V with aJ:=V.aJ.set p {V.aJ[p]with rel:=true} }:=fc.q5 SS hff (λi _ hne=>hk5 i hne) x5 Om;obtain⟨lr,_,sb,gm⟩:=cG.fa s5;refine Rs (A7 t2 t3 t4 @lr @aF @sb @gm) ?_;exact Kz
def FH(w:eD V.an)(ox:bh B x)(we:jY x.ev .gE)(nk:sU V.an x.ev .gE)(s:cG B X x V W V)(hlen:ts.length=223)(t2:slot ts 2=.ptr X.length 0)(t3:slot ts 3=.ptr (X.length+1) 0)(t4:slot ts 4=.ptr (X.length+2) 0):
  WC P bN (A0 1) [] ts W (FQ [(4,some (some 7)),(5,none)] (sF B X V (bn V.an x.ev .gE) (dt V.an x.ev .gE))):=by
 have ow:=ox.ext s.ex;have oV:=s.bk.o.ok;have SD:x.ev.kind=bz .gE:=cj we.kd;obtain⟨lr,le,sb,gm⟩:=cG.fa s;obtain⟨i0,d0⟩:=bO ow we 0 0 rfl De;obtain⟨i1,d1⟩:=bO ow we 1 1 rfl De;unfold A0 fn227;simp only[ai.j,ai.s,ai.r,ai.dr,ai.tl];have k1:aL x.ev 1∈iA V.an:=nk.kn 1 4 rfl;obtain⟨p,J,jx⟩:=PO k1;have ix:aZ 3 V.s4 (.i (p:Int))=some (cT V.s4 3 p,.ay):=oV.i4.dE jx.lt;refine pA (D8 t2 t3 t4 @le @lr @bA @aO @aY @ga @aF @SD @gV @Z9 @Z5 @i1 @d1) ?_;refine WF.ce T.c56 (r56 T (oV.ext Xx) w.len _) λg1=>?_
 rw[jx.i];obtain⟨W2,S0⟩:∃Z,Z=W++g1:=⟨_,rfl⟩;rw[<-S0];have SS:cG B X x V W2 V:=by rw[S0];exact fc.grow s ⟨g1,rfl⟩
 have ow:=ox.ext SS.ex;have oV:=SS.bk.o.ok;obtain⟨lr,le,sb,gm⟩:=cG.fa SS;obtain⟨i0,d0⟩:=bO ow we 0 0 rfl De;obtain⟨i1,d1⟩:=bO ow we 1 1 rfl De;have ld:∀{k:ah},Ext W2 k->aq (some 3) (cT V.s4 3 p) (λb=>k[b]?)=some (.agg (bK J),.ay):=λ{k} e=>by rw[<-jx.at];exact oV.i4.kf jx.lt e
 have oJ:=oV.e4 J jx.m;have oJ1:=oJ.one;have hJ:=w.jb J.1 (ZT jx.m);unfold bK at ld;refine Rs (A6 t2 t3 t4 ix @ld @oJ1) ?_;obtain⟨jb,hjb⟩:∃n,n=W2.length:=⟨_,rfl⟩;rw[<-hjb];obtain⟨W3,SR⟩:∃Z,Z=W2++[ak.b [AV.str J.1.name,.str J.1.mod,J.2]]:=⟨_,rfl⟩;rw[<-SR];have SZ:cG B X x V W3 V:=by rw[SR];exact fc.grow SS ⟨[ak.b [AV.str J.1.name,.str J.1.mod,J.2]],rfl⟩
 have ow:=ox.ext SZ.ex;have oV:=SZ.bk.o.ok;obtain⟨lr,le,sb,gm⟩:=cG.fa SZ;obtain⟨i0,d0⟩:=bO ow we 0 0 rfl De;obtain⟨i1,d1⟩:=bO ow we 1 1 rfl De;have mj:W3[jb]? =some (.b [AV.str J.1.name,.str J.1.mod,J.2]):=by rw[SR,hjb];exact aV
 have lj:=@eQ _ _ _ mj;have oJ:=oV.e4 J jx.m;refine Rs (mZ t2 t3 t4 @le @lr @bA @aO @aY @aF @i1 @d1) ?_;refine WF.ce T.c265 (r265 T (oV.ext Xx) w.len _) λg2=>?_
 obtain⟨W4,Ts⟩:∃Z,Z=W3++g2:=⟨_,rfl⟩;rw[<-Ts];have Ue:cG B X x V W4 V:=by rw[Ts];exact fc.grow SZ ⟨g2,rfl⟩
 have ow:=ox.ext Ue.ex;have oV:=Ue.bk.o.ok;obtain⟨lr,le,sb,gm⟩:=cG.fa Ue;obtain⟨i0,d0⟩:=bO ow we 0 0 rfl De;obtain⟨i1,d1⟩:=bO ow we 1 1 rfl De;have mj:=(show Ext W3 W4 from⟨g2,Ts⟩).some mj;have lj:=@eQ _ _ _ mj;have oJ:=oV.e4 J jx.m;cases h1:lz V.an (aL x.ev 1)with
 |true=>
  refine Rs (A7 t2 t3 t4 @lr @aF @sb @gm) ?_;rw[bn,ZS h1];exact HM
 |false=>
 refine Rs (A5 t2 t3 t4 @lj @oJ1) ?_;refine WF.res T.c60 (r60 T (x:=J) (oJ.ext Xx) Om) ?_;rintro vl g3 Tp;obtain⟨W5,UY⟩:∃Z,Z=W4++g3:=⟨_,rfl⟩;rw[<-UY];have sW5:cG B X x V W5 V:=by rw[UY];exact fc.grow Ue ⟨g3,rfl⟩
 have ow:=ox.ext sW5.ex;have oV:=sW5.bk.o.ok;obtain⟨lr,le,sb,gm⟩:=cG.fa sW5;obtain⟨i0,d0⟩:=bO ow we 0 0 rfl De;obtain⟨i1,d1⟩:=bO ow we 1 1 rfl De;rw[<-UY]at Tp;have mj:=(show Ext W4 W5 from⟨g3,UY⟩).some mj;have lj:=@eQ _ _ _ mj;have oJ:=oV.e4 J jx.m;rw[jx.e]at Tp;by_cases h2:cI (cW V.an (aL x.ev 1)).bd 0=[]
 case neg=>
  have e2:decide ((0:Int)<((cI (cW V.an (aL x.ev 1)).bd 0).length:Int))=true:=ZI (by have:=aby.2 h2;omega);refine Rs (A9 t2 t3 t4 Tp.aK e2 @lr @aF @sb @gm) ?_;rw[bn,ZN (by rw[h1];decide),ZS h2];exact cG.fin sW5 (λz=>absurd z De)
 have e2:decide ((0:Int)<((cI (cW V.an (aL x.ev 1)).bd 0).length:Int))=false:=ZD (by rw[h2];decide);by_cases h3:16<=V.aJ.length
 case pos=>
  have e3:decide ((16:Int)<=(V.aJ.length:Int))=true:=ZI Om;refine Rs (pB t2 t3 t4 Tp.aK e2 @lr @gY oV.i5.aK e3 @aF @sb @gm) ?_;rw[bn,ZN (by rw[h1];decide),ZN (λz=>z h2),ZS (show 16<=V.an.aJ.length from h3)];exact cG.fin sW5 (λz=>absurd z De)
 have e3:decide ((16:Int)<=(V.aJ.length:Int))=false:=ZD Om;have TU:bn V.an x.ev .gE=0:=by rw[bn,ZN (by rw[h1];decide),ZN (λz=>z h2),ZN (show ¬16<=V.an.aJ.length from h3)]
 refine Rs (Ec t2 t3 t4 @le @lr @bA @aO @aY Tp.aK e2 @gY oV.i5.aK e3 @i0 @d0 @i1 @d1 @lj) ?_;refine WF.ce T.c31 (r31 T (oJ.ext Xx) Om hJ.2.2.2) λg4=>?_
 rw[jx.e];obtain⟨W6,Ul⟩:∃Z,Z=W5++g4:=⟨_,rfl⟩;rw[<-Ul];have Xt:cG B X x V W6 V:=by rw[Ul];exact fc.grow sW5 ⟨g4,rfl⟩
 have ow:=ox.ext Xt.ex;have oV:=Xt.bk.o.ok;obtain⟨lr,le,sb,gm⟩:=cG.fa Xt;obtain⟨y,hy⟩:∃y:nP,y=⟨aL x.ev 0,aL x.ev 1,fP (cW V.an (aL x.ev 1)).bd,false⟩:=⟨_,rfl⟩;obtain⟨z,hz⟩:∃z:List AV,z=cF y:=⟨_,rfl⟩;have Ur:[AV.str (aL x.ev 0),.str (aL x.ev 1),.i (fP (cW V.an (aL x.ev 1)).bd),.bool false]=z:=by rw[hz,hy];rfl
 refine Rs (A3 t2 t3 t4) ?_;rw[Ur];refine WR.qB (B:=B) (cs:=V.aJ.map cF) (Xt.bk.o.i5) (by rw[hz];rfl) Xt.ex De (by rw[ZL];omega) ?_;intro W7 s' x5 hff hn5 q5 l5 hk5;have hrow:V.aJ.map cF++[z]=(V.aJ++[y]).map cF:=by rw[ZM,hz];rfl
 rw[hrow]at hff;have s5:cG B X x V (W7.set X.length (.b (V.row.set 6 s'))) {V with aJ:=V.aJ++[y],s5:=s'}:=fc.p5 Xt hff (λi hi=>.inr (ab5 (hn5 i hi))) hk5 x5 l5;have mB:W7[X.length]? =some (.b V.row):=(hk5 _ Xt.bk.lt (λz=>Xt.bk.ne (by rw[<-z];simp[RV.bl]))).trans Xt.bk.m;have Ud:aU 1 (.ptr X.length 6) s' (λz=>W7[z]?)=some (az,.set X.length (.b (V.row.set 6 s'))):=(aN mB).trans (bW q5 (by show 6+1<=7;omega));refine Rs (A5 t2 t3 t4 @Ud q5) ?_;obtain⟨W8,hW8⟩:∃Z,Z=W7.set X.length (.b (V.row.set 6 s')):=⟨_,rfl⟩;rw[<-hW8]at s5 ⊢;obtain⟨lr,_,sb,gm⟩:=cG.fa s5;refine Rs (A7 t2 t3 t4 @lr @aF @sb @gm) ?_
 rw[TU];exact cG.fin s5 (λ_=>by rw[hy];rfl)
def FI(w:eD V.an)(ox:bh B x)(we:jY x.ev .fail)(nk:sU V.an x.ev .fail)(s:cG B X x V W V)(hlen:ts.length=223)(t2:slot ts 2=.ptr X.length 0)(t3:slot ts 3=.ptr (X.length+1) 0)(t4:slot ts 4=.ptr (X.length+2) 0):
  WC P bN (A0 1) [] ts W (FQ [(4,some (some 7)),(5,none)] (sF B X V (bn V.an x.ev .fail) (dt V.an x.ev .fail))):=by
 have ow:=ox.ext s.ex;have oV:=s.bk.o.ok;have SD:x.ev.kind=bz .fail:=cj we.kd;obtain⟨lr,le,sb,gm⟩:=cG.fa s;obtain⟨i0,d0⟩:=bO ow we 0 0 rfl De;obtain⟨j1,f1,q1⟩:=cX ow we 1 1 rfl De;unfold A0 fn227;simp only[ai.j,ai.s,ai.r,ai.dr,ai.tl];have k0:aL x.ev 0∈iA V.an:=nk.kn 0 4 rfl;obtain⟨p,J,jx⟩:=PO k0;have ix:aZ 3 V.s4 (.i (p:Int))=some (cT V.s4 3 p,.ay):=oV.i4.dE jx.lt;refine pA (Bv t2 t3 t4 @le @lr @bA @aO @aY @aF @SD @gV @Z9 @Z5 @i0 @d0) ?_;refine WF.ce T.c56 (r56 T (oV.ext Xx) w.len _) λg1=>?_
 rw[jx.i];obtain⟨W2,S0⟩:∃Z,Z=W++g1:=⟨_,rfl⟩;rw[<-S0];have SS:cG B X x V W2 V:=by rw[S0];exact fc.grow s ⟨g1,rfl⟩
 have ow:=ox.ext SS.ex;have oV:=SS.bk.o.ok;obtain⟨lr,le,sb,gm⟩:=cG.fa SS;obtain⟨i0,d0⟩:=bO ow we 0 0 rfl De;obtain⟨j1,f1,q1⟩:=cX ow we 1 1 rfl De;refine Rs (mZ t2 t3 t4 @le @lr @bA @aO @aY @aF @i0 @d0) ?_;refine WF.ce T.c265 (r265 T (oV.ext Xx) w.len _) λg2=>?_
 obtain⟨W3,SR⟩:∃Z,Z=W2++g2:=⟨_,rfl⟩;rw[<-SR];have SZ:cG B X x V W3 V:=by rw[SR];exact fc.grow SS ⟨g2,rfl⟩
 have ow:=ox.ext SZ.ex;have oV:=SZ.bk.o.ok;obtain⟨lr,le,sb,gm⟩:=cG.fa SZ;obtain⟨i0,d0⟩:=bO ow we 0 0 rfl De;obtain⟨j1,f1,q1⟩:=cX ow we 1 1 rfl De;have oJ:=oV.e4 J jx.m;have l2:∀{k:ah},Ext W3 k->aq none (mD V.s4 3 p 2) (λb=>k[b]?)=some (J.2,.ay):=λ{k} e=>oV.i4.qz jx.lt (by rw[jx.at];rfl) e
 cases h1:lz V.an (aL x.ev 0)with
 |true=>
  refine Rs (A7 t2 t3 t4 @lr @aF @sb @gm) ?_;have hc:bn V.an x.ev .fail=23:=by
   exact KU
  rw[hc];exact Ed
 |false=>
 by_cases h2:(J.1.bd.length:Int)<=bI x.ev 1
 case pos=>
  have e2:decide ((J.1.bd.length:Int)<=bI x.ev 1)=true:=ZI h2;refine Rs (Ec t2 t3 t4 @le @lr @bA @aO @aY @ga @aF @j1 @f1 ix @l2 oJ.aK e2 @sb @gm) ?_;have hc:bn V.an x.ev .fail=3:=by
   exact K6
  rw[hc];exact Ed
 have e2:decide ((J.1.bd.length:Int)<=bI x.ev 1)=false:=ZD h2;have hct:jz V.an x.ev=0:=by rw[jz,ZN (by rw[h1];decide),<-jx.e,ZN h2]
 have hsl:(bI x.ev 1).toNat<J.1.bd.length:=Om
 have XY:bI x.ev 1=((bI x.ev 1).toNat:Int):=Om
 have iy:aZ 1 J.2 (.i (bI x.ev 1))=some (cT J.2 1 (bI x.ev 1).toNat,.ay):=by
  rw[XY];exact oJ.dE hsl
 have hsu:fQ V.an x.ev=J.1.bd[(bI x.ev 1).toNat]:=by
  exact KK
 have lv:∀{k:ah},Ext W3 k->aq none (cT J.2 1 (bI x.ev 1).toNat) (λb=>k[b]?)=some (.i (fQ V.an x.ev),.ay):=λ{k} e=>by rw[hsu];exact oJ.kg hsl rfl e
 have WD:cT J.2 1 (bI x.ev 1).toNat=mD J.2 1 (bI x.ev 1).toNat 0:=rfl;by_cases h3:fQ V.an x.ev<0
 case pos=>
  have e3:decide (fQ V.an x.ev<0)=true:=ZI h3;exact RC
 have e3:decide (fQ V.an x.ev<0)=false:=ZD h3;have TU:bn V.an x.ev .fail=0:=by rw[bn,ZN (λz=>z hct),ZN h3]
 repeat (first|simp (config:={maxSteps:=1000000}) only[aS,aW,bo,bp,reduceAdd,reduceMul,reduceLeDiff,reduceEqDiff,bw,hlen,ZY,Z1,t2,t3,t4,le,lr,bA,aO,aY,aF,SD,gV,reduceCtorEq,Z9,Z5,ga,j1,f1,ix,l2,oJ.aK,e2,iy,lv,e3]|simp (config:={maxSteps:=1000000}) (disch:=first|(simp only[ZB,ZG,ZJ]<;>omega)|rfl|omega|fail) only[fN,aS,aW,bo,bp,reduceAdd,reduceMul,reduceLeDiff,reduceEqDiff,bw,hlen,ZY,Z1,t2,t3,t4,le,lr,bA,aO,aY,aF,SD,gV,reduceCtorEq,Z9,Z5,ga,j1,f1,ix,l2,oJ.aK,e2,iy,lv,e3])
 rw[WD];have hfJ:Fr B.length W3 J.2 1 (J.1.bd.map aM):=SZ.bk.o.e4 J jx.m;refine WR.CA (B:=B) (x':=(-1:Int)) (row:=aM) (L:=J.1.bd) hfJ SZ.ex hsl De rfl rfl ?_;intro W5 x5 l5 hff hk5;have s5:cG B X x V W5 {V with aE:=V.aE.set p ({J.1 with bd:=J.1.bd.set (bI x.ev 1).toNat (-1:Int) },J.2) }:=by
  have Zj:(V.aE[p]'jx.lt).2=J.2:=by rw[jx.at]
  have:=fc.qJ SZ (W2:=W5) jx.lt (y:={J.1 with bd:=J.1.bd.set (bI x.ev 1).toNat (-1:Int) }) (by rw[jx.at];exact⟨rfl,rfl⟩) (by rw[Zj];exact hff) (λi _ hne=>hk5 i (by rw[<-Zj];exact hne)) x5 Om;rw[Zj]at this;exact this
 obtain⟨lr,_,sb,gm⟩:=cG.fa s5;refine Rs (A7 t2 t3 t4 @lr @aF @sb @gm) ?_;rw[TU];refine cG.fin s5 (λ_=>?_);have e:lC V.an x.ev (-1:Int)=(V.aE.set p ({J.1 with bd:=J.1.bd.set (bI x.ev 1).toNat (-1:Int) },J.2)).map Prod.fst:=by
  rw[lC,<-jx.ps,<-jx.e,abJ];rfl
 rw[dt,e];rfl
def FG(w:eD V.an)(ox:bh B x)(we:jY x.ev .fT)(nk:sU V.an x.ev .fT)(s:cG B X x V W V)(hlen:ts.length=223)(t2:slot ts 2=.ptr X.length 0)(t3:slot ts 3=.ptr (X.length+1) 0)(t4:slot ts 4=.ptr (X.length+2) 0):
  WC P bN (A0 1) [] ts W (FQ [(4,some (some 7)),(5,none)] (sF B X V (bn V.an x.ev .fT) (dt V.an x.ev .fT))):=by
 have ow:=ox.ext s.ex;have oV:=s.bk.o.ok;have SD:x.ev.kind=bz .fT:=cj we.kd;obtain⟨lr,le,sb,gm⟩:=cG.fa s;obtain⟨i0,d0⟩:=bO ow we 0 0 rfl De;obtain⟨j1,f1,q1⟩:=cX ow we 1 1 rfl De;obtain⟨j2,f2,q2⟩:=cX ow we 2 2 rfl De;unfold A0 fn227;simp only[ai.j,ai.s,ai.r,ai.dr,ai.tl];have k0:aL x.ev 0∈iA V.an:=nk.kn 0 4 rfl;obtain⟨p,J,jx⟩:=PO k0;have ix:aZ 3 V.s4 (.i (p:Int))=some (cT V.s4 3 p,.ay):=oV.i4.dE jx.lt;refine pA (Bv t2 t3 t4 @le @lr @bA @aO @aY @aF @SD @gV @Z9 @Z5 @i0 @d0) ?_;refine WF.ce T.c56 (r56 T (oV.ext Xx) w.len _) λg1=>?_
 rw[jx.i];obtain⟨W2,S0⟩:∃Z,Z=W++g1:=⟨_,rfl⟩;rw[<-S0];have SS:cG B X x V W2 V:=by rw[S0];exact fc.grow s ⟨g1,rfl⟩
 have ow:=ox.ext SS.ex;have oV:=SS.bk.o.ok;obtain⟨lr,le,sb,gm⟩:=cG.fa SS;obtain⟨i0,d0⟩:=bO ow we 0 0 rfl De;obtain⟨j1,f1,q1⟩:=cX ow we 1 1 rfl De;obtain⟨j2,f2,q2⟩:=cX ow we 2 2 rfl De;refine Rs (mZ t2 t3 t4 @le @lr @bA @aO @aY @aF @i0 @d0) ?_;refine WF.ce T.c265 (r265 T (oV.ext Xx) w.len _) λg2=>?_
 obtain⟨W3,SR⟩:∃Z,Z=W2++g2:=⟨_,rfl⟩;rw[<-SR];have SZ:cG B X x V W3 V:=by rw[SR];exact fc.grow SS ⟨g2,rfl⟩
 have ow:=ox.ext SZ.ex;have oV:=SZ.bk.o.ok;obtain⟨lr,le,sb,gm⟩:=cG.fa SZ;obtain⟨i0,d0⟩:=bO ow we 0 0 rfl De;obtain⟨j1,f1,q1⟩:=cX ow we 1 1 rfl De;obtain⟨j2,f2,q2⟩:=cX ow we 2 2 rfl De;have oJ:=oV.e4 J jx.m;have l2:∀{k:ah},Ext W3 k->aq none (mD V.s4 3 p 2) (λb=>k[b]?)=some (J.2,.ay):=λ{k} e=>oV.i4.qz jx.lt (by rw[jx.at];rfl) e
 cases h1:lz V.an (aL x.ev 0)with
 |true=>
  refine Rs (A7 t2 t3 t4 @lr @aF @sb @gm) ?_;have hc:bn V.an x.ev .fT=23:=by
   exact KU
  rw[hc];exact Ed
 |false=>
 by_cases h2:(J.1.bd.length:Int)<=bI x.ev 1
 case pos=>
  have e2:decide ((J.1.bd.length:Int)<=bI x.ev 1)=true:=ZI h2;refine Rs (Ec t2 t3 t4 @le @lr @bA @aO @aY @ga @aF @j1 @f1 ix @l2 oJ.aK e2 @sb @gm) ?_;have hc:bn V.an x.ev .fT=3:=by
   exact K6
  rw[hc];exact Ed
 have e2:decide ((J.1.bd.length:Int)<=bI x.ev 1)=false:=ZD h2;have hct:jz V.an x.ev=0:=by rw[jz,ZN (by rw[h1];decide),<-jx.e,ZN h2]
 have hsl:(bI x.ev 1).toNat<J.1.bd.length:=Om
 have XY:bI x.ev 1=((bI x.ev 1).toNat:Int):=Om
 have iy:aZ 1 J.2 (.i (bI x.ev 1))=some (cT J.2 1 (bI x.ev 1).toNat,.ay):=by
  rw[XY];exact oJ.dE hsl
 have hsu:fQ V.an x.ev=J.1.bd[(bI x.ev 1).toNat]:=by
  exact KK
 have lv:∀{k:ah},Ext W3 k->aq none (cT J.2 1 (bI x.ev 1).toNat) (λb=>k[b]?)=some (.i (fQ V.an x.ev),.ay):=λ{k} e=>by rw[hsu];exact oJ.kg hsl rfl e
 have WD:cT J.2 1 (bI x.ev 1).toNat=mD J.2 1 (bI x.ev 1).toNat 0:=rfl;by_cases h3:0<=fQ V.an x.ev
 case pos=>
  have e3:decide (0<=fQ V.an x.ev)=true:=ZI h3;exact RC
 have e3:decide (0<=fQ V.an x.ev)=false:=ZD h3;have TU:bn V.an x.ev .fT=0:=by rw[bn,ZN (λz=>z hct),ZN h3]
 repeat (first|simp (config:={maxSteps:=1000000}) only[aS,aW,bo,bp,reduceAdd,reduceMul,reduceLeDiff,reduceEqDiff,bw,hlen,ZY,Z1,t2,t3,t4,le,lr,bA,aO,aY,aF,SD,gV,reduceCtorEq,Z9,Z5,ga,j1,f1,j2,f2,ix,l2,oJ.aK,e2,iy,lv,e3]|simp (config:={maxSteps:=1000000}) (disch:=first|(simp only[ZB,ZG,ZJ]<;>omega)|rfl|omega|fail) only[fN,aS,aW,bo,bp,reduceAdd,reduceMul,reduceLeDiff,reduceEqDiff,bw,hlen,ZY,Z1,t2,t3,t4,le,lr,bA,aO,aY,aF,SD,gV,reduceCtorEq,Z9,Z5,ga,j1,f1,j2,f2,ix,l2,oJ.aK,e2,iy,lv,e3])
 rw[WD];have hfJ:Fr B.length W3 J.2 1 (J.1.bd.map aM):=SZ.bk.o.e4 J jx.m;refine WR.CA (B:=B) (x':=(bI x.ev 2)) (row:=aM) (L:=J.1.bd) hfJ SZ.ex hsl De rfl rfl ?_;intro W5 x5 l5 hff hk5;have s5:cG B X x V W5 {V with aE:=V.aE.set p ({J.1 with bd:=J.1.bd.set (bI x.ev 1).toNat (bI x.ev 2) },J.2) }:=by
  have Zj:(V.aE[p]'jx.lt).2=J.2:=by rw[jx.at]
  have:=fc.qJ SZ (W2:=W5) jx.lt (y:={J.1 with bd:=J.1.bd.set (bI x.ev 1).toNat (bI x.ev 2) }) (by rw[jx.at];exact⟨rfl,rfl⟩) (by rw[Zj];exact hff) (λi _ hne=>hk5 i (by rw[<-Zj];exact hne)) x5 Om;rw[Zj]at this;exact this
 obtain⟨lr,_,sb,gm⟩:=cG.fa s5;refine Rs (A7 t2 t3 t4 @lr @aF @sb @gm) ?_;rw[TU];refine cG.fin s5 (λ_=>?_);have e:lC V.an x.ev (bI x.ev 2)=(V.aE.set p ({J.1 with bd:=J.1.bd.set (bI x.ev 1).toNat (bI x.ev 2) },J.2)).map Prod.fst:=by
  rw[lC,<-jx.ps,<-jx.e,abJ];rfl
 rw[dt,e];rfl
end
structure Sr(W Y:ah)(jb:Nat)(c:List AV)(t:AV)(k:Nat):Prop where
 l:W.length<=jb
 x:Ext W Y
 m:Y[jb]? =some (.b (c++[t]))
 f:Fr W.length Y t 1 ((List.replicate k (-1:Int)).map aM)
 n:sB t≠some jb
section
variable {P:Program}(T:fy P) {B X W:ah}{ts:TS}{V:RV}{x:EV}
include T
def Jp(w:eD V.an)(ox:bh B x)(we:jY x.ev .run)(nk:sU V.an x.ev .run)(s:cG B X x V W V)(hlen:ts.length=223)(t2:slot ts 2=.ptr X.length 0)(t3:slot ts 3=.ptr (X.length+1) 0)(t4:slot ts 4=.ptr (X.length+2) 0):
  WC P bN (A0 1) [] ts W (FQ [(4,some (some 7)),(5,none)] (sF B X V (bn V.an x.ev .run) (dt V.an x.ev .run))):=by
 have ow:=ox.ext s.ex;have oV:=s.bk.o.ok;have SD:x.ev.kind=bz .run:=cj we.kd;obtain⟨lr,le,sb,gm⟩:=cG.fa s;obtain⟨i0,d0⟩:=bO ow we 0 0 rfl De;obtain⟨i1,d1⟩:=bO ow we 1 1 rfl De;obtain⟨j1,f1,q1⟩:=cX ow we 1 1 rfl De;unfold A0 fn227;simp only[ai.j,ai.s,ai.r,ai.dr,ai.tl];have k1:aL x.ev 1∈fL V.an:=nk.kn 1 3 rfl;refine pA (Bv t2 t3 t4 @le @lr @bA @aO @aY @aF @SD @gV @Z9 @Z5 @i1 @d1) ?_;refine WF.res T.c59 (r59 T (oV.ext Xx) w _) ?_;rintro ns g1 hns;obtain⟨W2,S0⟩:∃Z,Z=W++g1:=⟨_,rfl⟩;rw[<-S0];have SS:cG B X x V W2 V:=by rw[S0];exact fc.grow s ⟨g1,rfl⟩
 have ow:=ox.ext SS.ex;have oV:=SS.bk.o.ok;obtain⟨lr,le,sb,gm⟩:=cG.fa SS;rw[<-S0]at hns;obtain⟨S,hS⟩:∃S,S=dV V.an (aL x.ev 1):=⟨_,rfl⟩;rw[<-hS]at hns;have hSm:∀y∈S,y∈V.an.lines:=λy hy=>by rw[hS,dV]at hy;exact(aaq.1 hy).1
 have hSl:S.length<=16:=by
  have h1:S.length<=V.an.lines.length:=by rw[hS,dV];exact aaj _ _
  have:=w.l0;omega
 rw[abj]at hns;refine Rs (A3 t2 t3 t4) ?_;refine WL.inv T.mix (λm ts h'=>∃(k:Nat) (g:ah),k<=S.length/\m=S.length-k/\h' =W2++g/\(∀y∈S.take k,y.acc=true)/\ts.length=223/\slot ts 2=.ptr X.length 0/\slot ts 3=.ptr (X.length+1) 0/\slot ts 4=.ptr (X.length+2) 0/\slot ts 6=ns/\slot ts 7=.i k) S.length
  ⟨0,[],Om,rfl,by rw[Z6],(λy hy=>by cases hy),Sn,(Sq t2),(Sq t3),(Sq t4),Sw,gP⟩ ?_
 clear t2 t3 t4 hlen;rintro _ ts _ ⟨k,g,hk,rfl,rfl,hsf,hlen,t2,t3,t4,t6,t7⟩;obtain⟨W3,SR⟩:∃Z,Z=W2++g:=⟨_,rfl⟩;rw[<-SR];have SZ:cG B X x V W3 V:=by rw[SR];exact fc.grow SS ⟨g,rfl⟩
 have ow:=ox.ext SZ.ex;have oV:=SZ.bk.o.ok;obtain⟨lr,le,sb,gm⟩:=cG.fa SZ;have e23:Ext W2 W3:=⟨g,SR⟩;have hns:=hns.ext e23;by_cases TE:k<S.length
 ·have e3:decide ((k:Int)<S.length)=true:=ZI Om;have e5:=wrapN (n:=k) Om;have iy:=hns.dE (kk:=.i64) TE;obtain⟨y,hy⟩:∃y,y=S[k]:=⟨_,rfl⟩;have TQ:y∈V.an.lines:=hSm y (by rw[hy];exact ZR _);have lf:∀{kk:ah},Ext W3 kk->aq none (cT ns 1 k) (λb=>kk[b]?)=some (.str y.name,.ay):=λ{kk} e=>hns.kg TE (by rw[<-hy];rfl) e
  have U9:y.name∈gq V.an:=ZT TQ;have hps:=cL U9;have UK:a8 (gq V.an) y.name<V.lines.length:=by simpa [gq,RV.an]using hps
  have iz:aZ 3 V.s0 (.i ((a8 (gq V.an) y.name:Nat):Int))=some (cT V.s0 3 (a8 (gq V.an) y.name),.ay):=oV.i0.dE UK;have huy:V.lines[a8 (gq V.an) y.name]=y:=by
   have a1:dq V.an y.name=y:=jd w.n0.nd TQ;rw[dq,cS (f:=dX.name) (l:=V.an.lines) (d:=yq) U9]at a1;exact a1
  have ly:∀{kk:ah},Ext W3 kk->aq none (mD V.s0 3 (a8 (gq V.an) y.name) 2) (λb=>kk[b]?)=some (.bool y.acc,.ay):=λ{kk} e=>oV.i0.qz UK (by rw[huy];rfl) e
  refine Rs (pB t2 t3 t4 t6 t7 hns.aK e3 @lr @fR @aF @iy @lf) ?_;refine WF.ce T.c28 (r28 T (oV.ext Xx) w.len _) λg3=>?_
  have ej:dm (λy':dX=>decide (y'.name=y.name)) V.lines=(a8 (gq V.an) y.name:Int):=fk (f:=dX.name) U9;rw[ej];cases h4:y.acc with
  |false=>
   rw[h4]at ly;refine Rs (pB t2 t3 t4 t6 t7 @iz @ly @aab @lr @aF @sb @gm) ?_;rw[bn,ZS (by rw[<-hS];exact aaY.2 ⟨y,by rw[hy];exact ZR _,by rw[h4];rfl⟩)];exact cG.fin (fc.grow SZ ⟨g3,rfl⟩) (λz=>absurd z De)
  |true=>
   rw[h4]at ly;refine Rs (A9 t2 t3 t4 t6 t7 @iz @ly @Z7 e5) ?_;refine⟨_,Om,k+1,g++g3,Om,rfl,by rw[SR];simp only[ZE],?_,rfl⟩;intro y' hy';exact Rj
 have e3:decide ((k:Int)<S.length)=false:=ZD Om;have e4:k=S.length:=Om
 rw[e4,aam]at hsf;have hne:¬(dV V.an (aL x.ev 1)).any (λx=>!x.acc)=true:=by
  exact KN
 obtain⟨i0,d0⟩:=bO ow we 0 0 rfl De;obtain⟨i1,d1⟩:=bO ow we 1 1 rfl De;obtain⟨j1,f1,q1⟩:=cX ow we 1 1 rfl De;refine Rs (xJ t2 t3 t4 @le @lr @bA @aO @aY t6 t7 hns.aK e3 @j1 @f1) ?_;refine WF.ce T.c20 (r20 T _ _ _) λg4=>?_
 obtain⟨W4,Ts⟩:∃Z,Z=W3++g4:=⟨_,rfl⟩;rw[<-Ts];have Ue:cG B X x V W4 V:=by rw[Ts];exact fc.grow SZ ⟨g4,rfl⟩
 have ow:=ox.ext Ue.ex;have oV:=Ue.bk.o.ok;obtain⟨lr,le,sb,gm⟩:=cG.fa Ue;obtain⟨i0,d0⟩:=bO ow we 0 0 rfl De;obtain⟨i1,d1⟩:=bO ow we 1 1 rfl De;obtain⟨j1,f1,q1⟩:=cX ow we 1 1 rfl De;by_cases h1:bg (bI x.ev 1) 1 32=0
 case neg=>
  have e1:decide (bg (bI x.ev 1) 1 32≠0)=true:=ZI h1;refine Rs (A8 t2 t3 t4 e1 @lr @aF @sb @gm) ?_;rw[bn,ZN hne,ZS h1];exact HM
 have e1:decide (bg (bI x.ev 1) 1 32≠0)=false:=ZD (λz=>z h1);have Uv:V.an.aE.length=V.aE.length:=by simp[RV.an]
 by_cases h2:16<=V.aE.length
 case pos=>
  have e2:decide ((16:Int)<=(V.aE.length:Int))=true:=ZI Om;refine Rs (mZ t2 t3 t4 e1 @lr @ga oV.i4.aK e2 @aF @sb @gm) ?_;rw[bn,ZN hne,ZN (λz=>z h1),ZS (by rw[Uv];exact h2)];exact HM
 have e2:decide ((16:Int)<=(V.aE.length:Int))=false:=ZD Om;have TU:bn V.an x.ev .run=0:=by rw[bn,ZN hne,ZN (λz=>z h1),ZN (by rw[Uv];exact h2)]
 have hr:=iD (λz=>z h1);obtain⟨n,hn⟩:∃n:Nat,n=(bI x.ev 1).toNat:=⟨_,rfl⟩;have hnv:bI x.ev 1=(n:Int):=Om
 have hn32:n<=32:=Om
 obtain⟨jb,hjb⟩:∃n,n=W4.length:=⟨_,rfl⟩;refine Rs (D8 t2 t3 t4 @le @lr @bA @aO @aY e1 @ga oV.i4.aK e2 @i0 @d0 @i1 @d1) ?_;rw[<-hjb];refine WL.inv T.mix (λm ts Y=>∃(k:Nat) (t:AV),k<=n/\m=n-k/\Sr W4 Y jb [AV.str (aL x.ev 0),.str (aL x.ev 1)] t k/\ts.length=223/\slot ts 2=.ptr X.length 0/\slot ts 3=.ptr (X.length+1) 0/\slot ts 4=.ptr (X.length+2) 0/\slot ts 8=.ptr jb 0/\slot ts 9=.i k) n
  ⟨0,.af,Om,rfl,⟨Om,⟨_,rfl⟩,by rw[hjb];exact aV,.nil,by simp[sB]⟩,Sn,(Sq t2),(Sq t3),(Sq t4),Sw,gP⟩ ?_
 clear t2 t3 t4 t6 t7 hlen;rintro _ ts Y ⟨k',t,hk',rfl,hb,hlen,t2,t3,t4,t8,t9⟩;have sY:cG B X x V Y V:=fc.grow Ue hb.x;have ow:=ox.ext sY.ex;have oV:=sY.bk.o.ok;obtain⟨lr,le,sb,gm⟩:=cG.fa sY;obtain⟨j1,f1,q1⟩:=cX ow we 1 1 rfl De;have lj:=@eQ _ _ _ hb.m;have ot:=hb.f.aX.one;have Zi:=(ZC.1 hb.m).1;by_cases hlt3:k'<n
 ·have e6:decide ((k':Int)<bI x.ev 1)=true:=ZI Om;have e7:IntKind.i64.wrap ((k':Int)+1)=((k'+1:Nat):Int):=wrapN Om;refine Rs (xJ t2 t3 t4 @le @lr @bA @aO @aY t8 t9 @j1 @f1 e6 @lj) ?_;refine WR.qB (B:=W4) (cs:=(List.replicate k' (-1:Int)).map aM) hb.f rfl hb.x De (by simp only[ZL,aaK];omega) ?_;intro W5 s' x5 hff hn5 q5 l5 hk5;have hrow:(List.replicate k' (-1:Int)).map aM++[[AV.i (-1)]]=(List.replicate (k'+1) (-1:Int)).map aM:=by rw[List.replicate_succ',ZM];rfl
  rw[hrow]at hff;have m5:W5[jb]? =some (.b [AV.str (aL x.ev 0),.str (aL x.ev 1),t]):=(hk5 jb Zi hb.n).trans hb.m;have Ud:aU 1 (.ptr jb 2) s' (λz=>W5[z]?)=some (az,.set jb (.b [AV.str (aL x.ev 0),.str (aL x.ev 1),s'])):=(aN m5).trans (bW q5 (by show 2+1<=3;omega));have hs'j:∀i,sB s' =some i->i≠jb:=λi hi=>by have:=hn5 i hi;omega
  refine Rs (A8 t2 t3 t4 t8 t9 @Ud q5 e7) ?_;refine⟨_,Om,k'+1,s',Om,rfl,⟨hb.l,x5.hP hb.l,ZU Om,hff.aC λi hi=>ZV (aa3 (hs'j i hi)),λe=>hs'j _ e rfl⟩,rfl⟩
 ·have e6:decide ((k':Int)<bI x.ev 1)=false:=ZD Om;have ekn:k' =n:=Om
  obtain⟨y,hy⟩:∃y:kF,y=⟨aL x.ev 0,aL x.ev 1,List.replicate n (-1)⟩:=⟨_,rfl⟩;obtain⟨z,hz⟩:∃z:List AV,z=bK (y,t):=⟨_,rfl⟩;have Ur:[AV.str (aL x.ev 0),.str (aL x.ev 1),t]=z:=by rw[hz,hy];rfl
  have hbf:=hb.f;rw[ekn]at hbf;refine Rs (D8 t2 t3 t4 @le @lr @bA @aO @aY t8 t9 @j1 @f1 e6 @ga @lj @ot) ?_;rw[Ur];refine WR.qB (B:=B) (cs:=V.aE.map bK) (sY.bk.o.i4) (by rw[hz];rfl) sY.ex De (by rw[ZL];omega) ?_;intro W5 s' x5 hff hn5 q5 l5 hk5;have hrow:V.aE.map bK++[z]=(V.aE++[(y,t)]).map bK:=by rw[ZM,hz];rfl
  rw[hrow]at hff;have hlW:W4.length<=Y.length:=hb.x.len;have bS:∀i,sB t=some i->sB V.s4≠some i:=λi hi e=>by
   have h1:=(hbf.bP hi).1;have h2:=(Ue.bk.o.dU (b:=i) (by rw[<-e];simp[RV.bl])).2;omega
  have f5:Fr B.length W5 t 1 (y.bd.map aM):=by
   rw[hy];exact(hbf.aC λi hi=>hk5 i (hbf.bP hi).2 (bS i hi)).low Ue.ex.len
  have s5:cG B X x V (W5.set X.length (.b (V.row.set 5 s'))) {V with aE:=V.aE++[(y,t)],s4:=s'}:=fc.p4 Ue hff f5 (λi hi=>.inr (by have:=hn5 i hi;omega)) (λi hi=>⟨(hbf.bP hi).1,λe=>by have:=hn5 i e;have:=(hbf.bP hi).2;omega⟩) (λi hi hne=>(hk5 i Om hne).trans (hb.x.get hi)) x5 Om;have mB:W5[X.length]? =some (.b V.row):=(hk5 _ sY.bk.lt (λz=>sY.bk.ne (by rw[<-z];simp[RV.bl]))).trans sY.bk.m;have Ud:aU 1 (.ptr X.length 5) s' (λz=>W5[z]?)=some (az,.set X.length (.b (V.row.set 5 s'))):=(aN mB).trans (bW q5 (by show 5+1<=7;omega));refine Rs (A7 t2 t3 t4 t8 t9 @Ud q5) ?_;obtain⟨W6,Ul⟩:∃Z,Z=W5.set X.length (.b (V.row.set 5 s')):=⟨_,rfl⟩
  rw[<-Ul]at s5 ⊢;obtain⟨lr,_,sb,gm⟩:=cG.fa s5;refine Rs (A9 t2 t3 t4 t8 t9 @lr @aF @sb @gm) ?_;rw[TU];exact cG.fin s5 (λ_=>by simp only[RV.an,ZM,aar,abn,dt,hy,hn])
def Dd{d}(hd:d=.run\/d=.fT\/d=.fail\/d=.gE\/d=.rel)(o:cJ B.length X V)(w:eD V.an)(hx:Ext B X)(ox:bh B x)(we:jY x.ev d)(nk:sU V.an x.ev d):
  du P 227 [.agg V.row,.agg x.row] X (sF B X V (bn V.an x.ev d) (dt V.an x.ev d)):=by
 refine .of T.mix (acd T.c227 (aai some Qx)) ?_;obtain⟨ts,Sv⟩:∃ts,ts=aT 223 [.agg V.row,.agg x.row]:=⟨_,rfl⟩;have hlen:ts.length=223:=by rw[Sv];rfl
 have t0:slot ts 0=.agg V.row:=by rw[Sv];rfl
 have t1:slot ts 1=.agg x.row:=by rw[Sv];rfl
 show WC P bN (.seq (Qy 0) (A0 1)) [] (aT 223 [.agg V.row,.agg x.row]) X (FQ [(4,some (some 7)),(5,none)] (sF B X V (bn V.an x.ev d) (dt V.an x.ev d)));rw[<-Sv];clear Sv;have Su:=@aD.box _ _ o.ok;have hex:=@bh.box _ _ (ox.ext hx);have s:cG B X x V (X++[.b V.row]++[.b x.row]++[.b k9]) V:=G4 o hx;unfold k9 at s;generalize hR:A0 1=R;unfold Qy fn227;simp only[ai.dr,ai.hd];refine Rs (A4 t0 t1 @Su @hex) ?_;rw[<-hR];rcases hd with rfl|rfl|rfl|rfl|rfl
 ·exact Jp T w ox we nk s Sn Sw (by simp only[aS,aW,bo,bp,reduceAdd,reduceMul,reduceLeDiff,reduceEqDiff,bw,hlen,ZY,Z1];simp) (by simp only[aS,aW,bo,bp,reduceAdd,reduceMul,reduceLeDiff,reduceEqDiff,bw,hlen,ZY,Z1];simp)
 ·exact FG T w ox we nk s Sn Sw (by simp only[aS,aW,bo,bp,reduceAdd,reduceMul,reduceLeDiff,reduceEqDiff,bw,hlen,ZY,Z1];simp) (by simp only[aS,aW,bo,bp,reduceAdd,reduceMul,reduceLeDiff,reduceEqDiff,bw,hlen,ZY,Z1];simp)
 ·exact FI T w ox we nk s Sn Sw (by simp only[aS,aW,bo,bp,reduceAdd,reduceMul,reduceLeDiff,reduceEqDiff,bw,hlen,ZY,Z1];simp) (by simp only[aS,aW,bo,bp,reduceAdd,reduceMul,reduceLeDiff,reduceEqDiff,bw,hlen,ZY,Z1];simp)
 ·exact FH T w ox we nk s Sn Sw (by simp only[aS,aW,bo,bp,reduceAdd,reduceMul,reduceLeDiff,reduceEqDiff,bw,hlen,ZY,Z1];simp) (by simp only[aS,aW,bo,bp,reduceAdd,reduceMul,reduceLeDiff,reduceEqDiff,bw,hlen,ZY,Z1];simp)
 ·exact Jq T w ox we nk s Sn Sw (by simp only[aS,aW,bo,bp,reduceAdd,reduceMul,reduceLeDiff,reduceEqDiff,bw,hlen,ZY,Z1];simp) (by simp only[aS,aW,bo,bp,reduceAdd,reduceMul,reduceLeDiff,reduceEqDiff,bw,hlen,ZY,Z1];simp)
end
def uD(k:Nat):ai:=(fn129).body.dr k
def DQ(k:Nat):ai:=((fn129).body.dr k).hd
def QQ:fn129=⟨63,2,[(4,some (some 7)),(5,none)],.seq (DQ 0) (uD 1)⟩:=rfl
def Np:uD 1=.seq (DQ 1) (uD 2):=rfl
def QP:uD 2=.seq (DQ 2) (uD 3):=rfl
def QO:uD 3=.seq (DQ 3) (uD 4):=rfl
def QN:uD 4=.seq (DQ 4) (uD 5):=rfl
def Ke(h:ah)(c:Int)(R':dA):AV->ah->Prop:=λv k=>Ext h k/\∃V':RV,v=.dL [.agg V'.row,.i c]/\aD k V'/\(c=0->V'.an=R'/\∀i,some i∈V'.bl->h.length<=i)
def aD.J4{h:ah}{V:RV}(o:aD h V){W:ah}{b:Nat}(hz:W[b]? =some (.b k9)):aU 7 (.ptr b 0) (.agg V.row) (λz=>W[z]?)=some (az,.set b (.b V.row)):=by
 have h1:=@aN 7 b 0 (.agg V.row) (λz=>W[z]?) _ hz;have st:=@aD.st _ _ o;unfold k9 at h1;rw[st]at h1;exact h1
def aD.R3{h:ah}{V U:RV}(o:aD h V){W:ah}{b:Nat}(hz:W[b]? =some (.b U.row)):aU 7 (.ptr b 0) (.agg V.row) (λz=>W[z]?)=some (az,.set b (.b V.row)):=by
 have h1:=@aN 7 b 0 (.agg V.row) (λz=>W[z]?) _ hz;rw[h1];exact o.st
def oO{W:ah}{b:Nat}{V:RV}(hb:b<W.length):aq (some 7) (.ptr b 0) (λz=>(W.set b (.b V.row))[z]?)=some (.agg V.row,.ay):=by
 rw[aB (ZU hb)];rfl
section
variable {P:Program}(T:fy P) {h K:ah}{ts:TS}{V U:RV}{x:EV}
include T
def JE{d:Kd}{ob:Nat}{c:Int}{R':dA}(we:jY x.ev d)(hd:d≠.eV)(ox:bh h x)(hx:Ext h K)(hob:h.length+2<ob)(mo:K[ob]? =some (.b U.row))(me:K[h.length+1]? =some (.b x.row))(mr:K[h.length+2]? =some (.b k9))
  (oU:aD K U) (hU:∀i,some i∈U.bl->h.length+2<i/\i≠ob) (hc:c=0->{U.an with tick:=bI x.ev 0} =R') (hlen:ts.length=63) (t3:slot ts 3=.ptr (h.length+1) 0) (t4:slot ts 4=.ptr (h.length+2) 0) (t7:slot ts 7=.ptr ob 0) (t8:slot ts 8=.i c):
  WC P bN (uD 5) [] ts K (FQ [(4,some (some 7)),(5,none)] (Ke h c R')):=by
 have:=T.mix;have hv0:0<cD d:=by cases d<;>first|exact absurd rfl hd|decide
 have ow:=ox.ext hx;obtain⟨j0,f0,_⟩:=cX ow we 0 0 rfl hv0;have le:=@eQ _ _ _ me;obtain⟨V2,hV2⟩:∃V2:RV,V2={U with tick:=bI x.ev 0}:=⟨_,rfl⟩;have hrow:U.row.set 0 (.i (bI x.ev 0))=V2.row:=by rw[hV2];rfl
 have sbo:aU 1 (.ptr ob 0) (.i (bI x.ev 0)) (λz=>K[z]?)=some (az,.set ob (.b V2.row)):=by
  rw[<-hrow];exact(aN mo).trans (bW rfl (by show 0+1<=7;omega))
 unfold uD fn129 gA;simp only[ai.j,ai.s,ai.r,ai.dr,ai.tl];refine Rs (A9 t3 t4 t7 t8 @le @aY @j0 @f0 @sbo) ?_;have hbo:=(ZC.1 mo).1;have hbr:=(ZC.1 mr).1;obtain⟨K1,Yu⟩:∃Z,Z=K.set ob (.b V2.row):=⟨_,rfl⟩;rw[<-Yu];have mo1:K1[ob]? =some (.b V2.row):=by rw[Yu];exact ZU hbo
 have mr1:K1[h.length+2]? =some (.b k9):=by rw[Yu,ZV Om];exact mr
 have l1:K1.length=K.length:=by rw[Yu,aap]
 have lo:=@eQ _ _ _ mo1;have oV:aD K V2:=by rw[hV2];exact⟨oU.i0,oU.i1,oU.i2,oU.i3,oU.i4,oU.i5,oU.e2,oU.e3,oU.e4⟩
 have sb:=oV.J4 mr1;have gm:=oO (W:=K1) (b:=h.length+2) (V:=V2) Om;refine Rs (A8 t3 t4 t7 t8 @lo @aF @sb @gm) ?_;refine⟨?_,V2,rfl,oV.ay λi hi=>?_,λz=>⟨by rw[<-hc z,hV2];rfl,λi hi=>?_⟩⟩
 ·rw[Yu];exact(hx.hP Om).hP Om
 ·have:some i∈U.bl:=by rw[hV2]at hi;exact hi
  have:=hU i this;rw[ZV Om,Yu,ZV Om]
 ·have:some i∈U.bl:=by rw[hV2]at hi;exact hi
  have:=hU i this;omega
def No{d:Kd}{B X:ah}{ob:Nat}(we:jY x.ev d)(hd:d≠.eV)(nk:sU U.an x.ev d)(w:eD U.an)(ox:bh h x)(hB:Ext h B)(hx:Ext B X)(hob:ob<X.length)(hbo:B.length<=ob)(hBl:h.length+3<=B.length)(mo:X[ob]? =some (.b U.row))(me:B[h.length+1]? =some (.b x.row))(mr:B[h.length+2]? =some (.b k9))
  (o:cJ B.length X U) (hU:some ob∉U.bl) (hlen:ts.length=63) (t3:slot ts 3=.ptr (h.length+1) 0) (t4:slot ts 4=.ptr (h.length+2) 0) (t7:slot ts 7=.ptr ob 0):
  WC P bN (uD 4) [] ts X (FQ [(4,some (some 7)),(5,none)] (Ke h (bn U.an x.ev d) (iw U.an x.ev d))):=by
 have SD:x.ev.kind=bz d:=cj we.kd;have le:∀{k n a},Ext X k->aq n (.ptr (h.length+1) a) (λz=>k[z]?)=dJ n a (.b x.row):=λ{_ _ _} e=>aB ((hx.trans e).some me)
 have lo:=@eQ _ _ _ mo;have oB:=ox.ext hB;rw[QN];generalize hR:uD 5=R;unfold DQ fn129 gA;simp only[ai.j,ai.s,ai.r,ai.dr,ai.tl,ai.hd];have fin:∀{v:AV}{k:ah},sF B X U (bn U.an x.ev d) (dt U.an x.ev d) v k->∃V2:RV,v=.dL [.agg V2.row,.i (bn U.an x.ev d)]/\aU 7 (.ptr ob 0) (.agg V2.row) (λz=>k[z]?)=some (az,.set ob (.b V2.row))/\
   (∀ts':TS,ts'.length=63->slot ts' 3=.ptr (h.length+1) 0->slot ts' 4=.ptr (h.length+2) 0->slot ts' 7=.ptr ob 0->slot ts' 8=.i (bn U.an x.ev d)->WC P bN R [] ts' (k.set ob (.b V2.row)) (FQ [(4,some (some 7)),(5,none)] (Ke h (bn U.an x.ev d) (iw U.an x.ev d)))):=by
  rintro v k ⟨x1,hl,hfr,V2,rfl,o2,hc,hlo⟩;have mo2:k[ob]? =some (.b U.row):=(hfr ob hob hU).trans mo;have hV2:∀i,some i∈V2.bl->B.length<=i/\i≠ob:=λi hi=>⟨(o2.dU hi).1,λe=>by
   subst e;rcases hlo _ hi with z|z
   ·exact hU z
   ·omega⟩
  refine⟨V2,rfl,o2.ok.R3 mo2,λts' SI u3 u4 u7 u8=>?_⟩;rw[<-hR];refine JE T we hd ox ((hB.trans x1).hP Om) Om (ZU (ZC.1 mo2).1) ?_ ?_ (o2.ok.ay λi hi=>?_) (λi hi=>?_) (λz=>?_) SI u3 u4 u7 u8
  ·rw[ZV Om];exact x1.some me
  ·rw[ZV Om];exact x1.some mr
  ·rw[ZV (aa3 (hV2 i hi).2)]
  ·have:=hV2 i hi;exact⟨Om,this.2⟩
  ·rw[hc z];rfl
 cases d with
 |eV=>exact absurd rfl hd
 |line=>
  refine pA (pB t3 t4 t7 @le @lo @bA @b9 @aF @SD @gV @Z9 @Z5) ?_;refine WF.gen T.c225 (Df T (d:=.line) De o w hx oB we nk) ?_;intro v k hv;exact z3
 |tape=>
  refine pA (pB t3 t4 t7 @le @lo @bA @b9 @aF @SD @gV @Z9 @Z5) ?_;refine WF.gen T.c225 (Df T (d:=.tape) De o w hx oB we nk) ?_;intro v k hv;exact z3
 |gp=>
  refine pA (pB t3 t4 t7 @le @lo @bA @b9 @aF @SD @gV @Z9 @Z5) ?_;refine WF.gen T.c225 (Df T (d:=.gp) De o w hx oB we nk) ?_;intro v k hv;exact z3
 |copy=>
  refine pA (pB t3 t4 t7 @le @lo @bA @b9 @aF @SD @gV @Z9 @Z5) ?_;refine WF.gen T.c225 (Df T (d:=.copy) De o w hx oB we nk) ?_;intro v k hv;exact z3
 |accept=>
  refine pA (pB t3 t4 t7 @le @lo @bA @b9 @aF @SD @gV @Z9 @Z5) ?_;refine WF.gen T.c225 (Df T (d:=.accept) De o w hx oB we nk) ?_;intro v k hv;exact z3
 |source=>
  refine pA (pB t3 t4 t7 @le @lo @bA @b9 @aF @SD @gV @Z9 @Z5) ?_;refine WF.gen T.c226 (IZ T (d:=.source) De o w hx oB we nk) ?_;intro v k hv;exact z3
 |gg=>
  refine pA (pB t3 t4 t7 @le @lo @bA @b9 @aF @SD @gV @Z9 @Z5) ?_;refine WF.gen T.c226 (IZ T (d:=.gg) De o w hx oB we nk) ?_;intro v k hv;exact z3
 |merge=>
  refine pA (pB t3 t4 t7 @le @lo @bA @b9 @aF @SD @gV @Z9 @Z5) ?_;refine WF.gen T.c226 (IZ T (d:=.merge) De o w hx oB we nk) ?_;intro v k hv;exact z3
 |run=>
  refine pA (pB t3 t4 t7 @le @lo @bA @b9 @aF @SD @gV @Z9 @Z5) ?_;refine WF.gen T.c227 (Dd T (d:=.run) De o w hx oB we nk) ?_;intro v k hv;exact z3
 |fT=>
  refine pA (pB t3 t4 t7 @le @lo @bA @b9 @aF @SD @gV @Z9 @Z5) ?_;refine WF.gen T.c227 (Dd T (d:=.fT) De o w hx oB we nk) ?_;intro v k hv;exact z3
 |fail=>
  refine pA (pB t3 t4 t7 @le @lo @bA @b9 @aF @SD @gV @Z9 @Z5) ?_;refine WF.gen T.c227 (Dd T (d:=.fail) De o w hx oB we nk) ?_;intro v k hv;exact z3
 |gE=>
  refine pA (pB t3 t4 t7 @le @lo @bA @b9 @aF @SD @gV @Z9 @Z5) ?_;refine WF.gen T.c227 (Dd T (d:=.gE) De o w hx oB we nk) ?_;intro v k hv;exact z3
 |rel=>
  refine pA (pB t3 t4 t7 @le @lo @bA @b9 @aF @SD @gV @Z9 @Z5) ?_;refine WF.gen T.c227 (Dd T (d:=.rel) De o w hx oB we nk) ?_;intro v k hv;exact z3
def JD{d:Kd}{H:ah}(hH:H=h++[ak.b V.row]++[.b x.row]++[.b k9])(o:aD h V)(w:eD V.an)(ox:bh h x)(we:jY x.ev d)(hd:d≠.eV)(hlen:ts.length=63)(t2:slot ts 2=.ptr h.length 0)(t3:slot ts 3=.ptr (h.length+1) 0)(t4:slot ts 4=.ptr (h.length+2) 0):
  WC P bN (uD 1) [] ts H (FQ [(4,some (some 7)),(5,none)] (Ke h (gL V.an x.ev d) (iw V.an x.ev d))):=by
 have hv0:0<cD d:=by cases d<;>first|exact absurd rfl hd|decide
 have Tf:Ext h H:=by rw[hH];exact Xx
 have VX:H.length=h.length+3:=by rw[hH];simp
 have mV:H[h.length]? =some (.b V.row):=by rw[hH];simp
 have me:H[h.length+1]? =some (.b x.row):=by rw[hH];simp
 have mr:H[h.length+2]? =some (.b k9):=by rw[hH];simp
 clear hH;have ow:=ox.ext Tf;have oW:=o.ext Tf;obtain⟨j0,f0,_⟩:=cX ow we 0 0 rfl hv0;have lr:=@eQ _ _ _ mV;have le:=@eQ _ _ _ me;have sb:∀{k},Ext H k->aU 7 (.ptr (h.length+2) 0) (.agg V.row) (λz=>k[z]?)=some (az,.set (h.length+2) (.b V.row)):=λ{_} e=>(o.ext (Tf.trans e)).J4 (e.some mr)
 have gm:∀{k},Ext H k->aq (some 7) (.ptr (h.length+2) 0) (λz=>(k.set (h.length+2) (.b V.row))[z]?)=some (.agg V.row,.ay):=λ{_} e=>oO (by have:=e.len;omega)
 have Zy:∀{k:ah}{c:Int},Ext H k->gL V.an x.ev d=c->c≠0->Ke h (gL V.an x.ev d) (iw V.an x.ev d) (.dL [.agg V.row,.i c]) (k.set (h.length+2) (.b V.row)):=by
  intro k c e hc h0;refine⟨(Tf.trans e).hP Om,V,by rw[hc],?_,λz=>absurd (hc.symm.trans z) h0⟩;exact o.sub λb c' mu tl hb=>by
   have hlt:=(ZC.1 hb).1;rw[ZV Om];exact(Tf.trans e).some hb
 by_cases h1:bI x.ev 0<V.an.tick
 ·have e1:decide (bI x.ev 0<V.tick)=true:=ZI h1;rw[Np];generalize hR:uD 2=R;unfold DQ fn129 gA;simp only[ai.j,ai.s,ai.r,ai.dr,ai.tl,ai.hd];refine Rs (Ad t2 t3 t4 @le @lr @aY @ti @aF @j0 @f0 e1 @sb @gm) ?_;exact Zy (.refl _) (by rw[gL,ZS h1]) De
 have e1:decide (bI x.ev 0<V.tick)=false:=ZD h1;rw[Np,QP];generalize hR:uD 3=R;unfold DQ fn129 gA;simp only[ai.j,ai.s,ai.r,ai.dr,ai.tl,ai.hd];refine Rs (pB t2 t3 t4 @le @lr @aY @b9 @ti @aF @j0 @f0 e1) ?_;refine WF.ce T.c223 (r223 T (d:=d) (oW.ext Xx) w.len (ow.ext Xx) we) λg1=>?_
 by_cases h2:kM d V.an x.ev=0
 case neg=>
  have e2:decide (kM d V.an x.ev≠0)=true:=ZI h2;refine Rs (A8 t2 t3 t4 e2 @lr @aF @sb @gm) ?_;have ef:=Zy (k:=H++g1) (c:=kM d V.an x.ev) ⟨g1,rfl⟩ (by rw[gL,ZN h1,ZS h2]) h2;rw[List.set_append_left _ _ Om]at ef;exact ef
 have e2:decide (kM d V.an x.ev≠0)=false:=ZD (λz=>z h2);have hes:gL V.an x.ev d=bn V.an x.ev d:=by rw[gL,ZN h1,ZN (λz=>z h2)]
 rw[hes];refine Rs (A4 t2 t3 t4 e2) ?_;rw[<-hR];obtain⟨B,hB⟩:∃B,B=H++g1:=⟨_,rfl⟩;rw[<-hB];have eB:Ext H B:=⟨g1,hB⟩;have lr:∀{k n a},Ext B k->aq n (.ptr h.length a) (λz=>k[z]?)=dJ n a (.b V.row):=λ{_ _ _} e=>aB (e.some (eB.some mV))
 clear sb gm Zy le f0 j0 e1 e2;rw[QO];generalize hR:uD 4=R;unfold DQ fn129 gA;simp only[ai.j,ai.s,ai.r,ai.dr,ai.tl,ai.hd];refine Rs (A5 t2 t3 t4 @lr @aF) ?_;refine WF.res T.c224 (r224 T (oW.ext eB) w) ?_;rintro _ g2 ⟨U,hU,rfl,own⟩;have Su:=@aD.box _ _ own.ok;have st:=@aD.st _ _ own.ok;refine Rs (A5 t2 t3 t4 @Su @st) ?_;obtain⟨X0,hX0⟩:∃Z,Z=B++g2:=⟨_,rfl⟩;rw[<-hX0]at own ⊢;have e0:Ext B X0:=⟨g2,hX0⟩;rw[<-hR,<-hU];refine No T (ob:=X0.length) we hd (by rw[hU];exact vP h2) (by rw[hU];exact w) ox (Tf.trans eB) (e0.trans ⟨_,rfl⟩) Si e0.len (by have:=eB.len;omega) aV (eB.some me) (eB.some mr) (own.app _) (λhi=>?_) Sn (Sq t3) (Sq t4) Sw
 have:=(own.dU hi).2;omega
def r129{d}(o:aD h V)(w:eD V.an)(ox:bh h x)(we:jY x.ev d)(hd:d≠.eV):aA P 129 [.agg V.row,.agg x.row] h (λv k=>∃V':RV,v=.dL [.agg V'.row,.i (gL V.an x.ev d)]/\aD k V'/\(gL V.an x.ev d=0->V'.an=iw V.an x.ev d/\∀i,some i∈V'.bl->h.length<=i)):=by
 refine .of T.mix (acd T.c129 (aai some QQ)) ?_;obtain⟨ts,Sv⟩:∃ts,ts=aT 63 [.agg V.row,.agg x.row]:=⟨_,rfl⟩;have hlen:ts.length=63:=by rw[Sv];rfl
 have t0:slot ts 0=.agg V.row:=by rw[Sv];rfl
 have t1:slot ts 1=.agg x.row:=by rw[Sv];rfl
 show WC P bN (.seq (DQ 0) (uD 1)) [] (aT 63 [.agg V.row,.agg x.row]) h (FQ [(4,some (some 7)),(5,none)] (Ke h (gL V.an x.ev d) (iw V.an x.ev d)));rw[<-Sv];clear Sv;have Su:=@aD.box _ _ o;have hex:=@bh.box _ _ ox;generalize hR:uD 1=R;unfold DQ fn129 gA;simp only[ai.dr,ai.hd];refine Rs (A4 t0 t1 @Su @hex) ?_;rw[<-hR];exact JD T rfl o w ox we hd Sn Sw (by simp only[aS,aW,bo,bp,reduceAdd,reduceMul,reduceLeDiff,reduceEqDiff,bw,hlen,ZY,Z1];simp) (by simp only[aS,aW,bo,bp,reduceAdd,reduceMul,reduceLeDiff,reduceEqDiff,bw,hlen,ZY,Z1];simp)
end
end Go.Abs
