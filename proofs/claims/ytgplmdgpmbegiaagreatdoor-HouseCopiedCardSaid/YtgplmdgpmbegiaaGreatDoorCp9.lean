/- A part of the proof that HouseCopied holds. No condition. -/
import Derived.Test.YtgplmdgpmbegiaaGreatDoorCp8
import Derived.Test.YtgplmdgpmbegiaaGreatDoorCp7
import Derived.Laws.Externs
import Derived.Shelf.Strconv.Itoa3
import Derived.Shelf.Strconv.Atoi
import Derived.Lib.AtoiErrMem
import Derived.Test.YtgplmdgpmbegiaaGreatDoorCp1
import Derived.Test.YtgplmdgpmbegiaaGreatDoorCp2
import Derived.Test.YtgplmdgpmbegiaaGreatDoorCp5
import Derived.Test.YtgplmdgpmbegiaaGreatDoorCp6
import Derived.ChangeArms
import Derived.Deep.Slices
import Derived.WideShapes
import Derived.ChangeShapes
import Derived.ChangeMaps5
import Derived.OpenShut
import Derived.Carry
import Derived.ChangeSame
import Derived.RowKit
import Derived.ProofKit
import Derived.LaidMore
import Derived.Lay
import Derived.SevenTiedAt
import Derived.Stop.Joined
import Derived.Test.YtgplmdgpmbegiaaGreatDoorRows
import Derived.Test.YtgplmdgpmbegiaaGreatDoorTie
import Derived.Test.YtgplmdgpmbegiaaGreatDoorCards
import Derived.Test.YtgplmdgpmbegiaaGreatDoorCp0
set_option maxHeartbeats 4000000
set_option linter.all false
open Nat (reduceAdd reduceMul reduceLeDiff reduceEqDiff)
namespace Go.Abs
theorem tF{c}:∀{s},(ff c s).2.2=true->s=(ff c s).1++c:: (ff c s).2.1
 |[],h=>by cases h
 |x::r,h=>by
  rw[ff]at h ⊢;split
  ·rename_i e;rw[e];rfl
  ·rename_i e;rw[Y6 e]at h;exact Zz (x::·) (tF (s:=r) h)
set_option maxRecDepth 10000
attribute [local irreducible] WP WC WE WB WR WF WL WG fU WQ
section
variable {P:Program}(T:fp P) {h:ah}
include T
def r37(X:C9 P)(Z:qn P)(w:Pw h)(s:By)(hsl:s.length<=2^37):ay P 37 [.str s] h (λv k=>∃(L':List EV) (s':AV),L'.map EV.ev=(lE s).1/\v=.dM [s',.i (lE s).2.1,.i (lE s).2.2]/\Fr h.length k s' 5 (L'.map EV.row)/\∀x∈L',AY h.length k s' x):=by
 refine .kU 55 T.mix T.c37 ?_;intro ts hlen t0;unfold fn37 gA;by_cases h6:1000000<s.length
 ·have d1:decide ((1000000:Int)<s.length)=true:=YW Om;refine Rs (A2 t0 @d1) ?_;exact⟨[],.af,by rw[lE,Zb h6];rfl,by rw[lE,Zb h6],.nil,λx hx=>(by cases hx)⟩
 have d1:decide ((1000000:Int)<s.length)=false:=YS Om;have hrs:lE s=rf (s.length+1) s [] 0:=Y6 h6;refine Rs (A2 t0 @d1) ?_;refine WL.inv T.mix (λn ts h'=>∃(a f:Nat) (out:AV) (L':List EV) (g:ah),a<=s.length/\n=s.length-a/\h' =h++g/\L'.length<=a/\lE s=rf (f+1) (s.drop a) (L'.map EV.ev) a/\s.length-a<=f/\Fr h.length (h++g) out 5 (L'.map EV.row)/\(∀x∈L',AY h.length (h++g) out x)/\
   ts.length=55/\slot ts 0=.str s/\slot ts 5=out/\slot ts 6=.i a) s.length
  ⟨0,s.length,.af,[],[],Om,rfl,Si,Y9 _,hrs,Om,.nil,(λx hx=>by cases hx),Sn,(Sq t0),Sw,gM⟩ ?_
 rintro _ ts _ ⟨a,f,out,L',g,ha,rfl,rfl,hLa,Sc,hf,hfr,hin,hlen,t0,t5,t6⟩;by_cases hlt:a<s.length
 ·have e3:decide ((a:Int)<s.length)=true:=YW Om;have hne:s.drop a≠[]:=λe=>by have:=Zz List.length e;rw[aa7]at this;simp at this;omega
  obtain⟨f',rfl⟩:∃f',f=f'+1:=⟨f-1,Om⟩;rw[rf,Y6 hne]at Sc;have hdl:(s.drop a).length=s.length-a:=aa7;have hcl:=rJ (c:=10) (s:=s.drop a)
  repeat (first|simp (config:={maxSteps:=1000000}) only[aQ,aT,bo,bp,reduceAdd,reduceMul,reduceLeDiff,reduceEqDiff,bz,hlen,Zf,Zi,t0,t5,t6,e3,ku (show a<=s.length by omega)]|simp (config:={maxSteps:=1000000}) (disch:=first|(simp only[YP,YV,YX]<;>omega)|rfl|omega|fail) only[fc,aQ,aT,bo,bp,reduceAdd,reduceMul,reduceLeDiff,reduceEqDiff,bz,hlen,Zf,Zi,t0,t5,t6,e3,ku (show a<=s.length by omega)])
  refine WF.ce T.c98 (r98 T X (s.drop a) 10 Om) λg1=>?_
  have V9:=tF (c:=10) (s:=s.drop a);generalize (ff 10 (s.drop a)).1=ln at Sc hcl V9 ⊢;generalize (ff 10 (s.drop a)).2.1=rest at Sc hcl V9 ⊢;cases hwh:(ff 10 (s.drop a)).2.2 with
  |false=>
   rw[hwh]at Sc;refine Rs (A4 t0 t5 t6 @Zq) ?_;rw[Sc];exact⟨L',_,rfl,rfl,hfr.app g1,λx hx=>(hin x hx).app g1⟩
  |true=>
  rw[hwh]at Sc;have V9:=V9 hwh;have T3:(s.drop a).length=ln.length+(rest.length+1):=by rw[V9];simp
  have SN:rest=s.drop (a+ln.length+1):=by
   have:(s.drop a).drop (ln.length+1)=rest:=by rw[V9,<-aat];simp
   rw[<-this,aat];congr 1
  have w1:IntKind.i64.wrap (((L'.map EV.row).length:Int)+1)=(L'.length:Int)+1:=by rw[YY];exact bu Om Om
  have w1':IntKind.i64.wrap ((L'.length:Int)+1)=(L'.length:Int)+1:=bu Om Om;refine Rs (A7 t0 t5 t6 @Zg hfr.ba.aJ @w1 @w1') ?_;refine WF.res T.c99 (r99 T X Z (w.ext Xx) ln Om _) ?_;rintro _ g2 ⟨x,hx,rfl,fn,fv⟩;have hml:(L'.map EV.ev).length=L'.length:=YY _;have Sc:lE s=if(fN ln ((L'.length:Int)+1)).2≠0 then(L'.map EV.ev,(a:Int),(fN ln ((L'.length:Int)+1)).2)else rf (f'+1) rest (L'.map EV.ev++[(fN ln ((L'.length:Int)+1)).1]) (a+ln.length+1):=by rw[Sc,hml];rfl
  rw[<-hx]at Sc;generalize (fN ln ((L'.length:Int)+1)).2=er at Sc ⊢;have ox:bw (h++g++g1++g2) x:=⟨fn.ba,fv.ba⟩;have st:∀{b':Nat}{a0 a1 a2 a3 a4:AV},km 5 0 (.agg x.row) b' (.b [a0,a1,a2,a3,a4])=some (az,.set b' (.b x.row)):=λ{_ _ _ _ _ _}=>ox.st
  by_cases he:er=0
  case neg=>
   have d2:decide (er≠0)=true:=YW he;rw[Zb he]at Sc;refine Rs (A5 t0 t5 t6 @st @d2) ?_;rw[Sc];exact⟨L',_,rfl,rfl,((hfr.app g1).app g2).app _,λx hx=>(((hin x hx).app g1).app g2).app _⟩
  have d2:decide (er≠0)=false:=YS (λz=>z he);rw[Y6 (λz=>z he)]at Sc;have ox2:bw (h++g++g1++g2++[ak.b x.row]) x:=ox.ext ⟨_,rfl⟩;have bs:=@bw.GK _ _ ox2;refine Rs (A7 t0 t5 t6 @st @d2 @cp @bs) ?_;refine WR.fG (h0:=h) (cs:=L'.map EV.row) (ys:=[x.row]) ((((hfr.app _).app _).app _).app _) (Fr.push (N:=0) (Zw _) [x.row] (by intro y hy;rw[Zm]at hy;rw[hy];rfl)).ba De Si (by simp only[YY,YV,YX];omega) Xx ?_;intro g' RT hff hkp;have hrow:L'.map EV.row++[x.row]=(L'++[x]).map EV.row:=by rw[Y5];rfl
  rw[hrow]at hff;rw[hrow];obtain⟨sn,Sx⟩:∃sn,sn=AV.slice (h++g++g1++g2++[ak.b x.row]++[ak.cells x.row true true]).length 0 ((L'++[x]).map EV.row).length 5:=⟨_,rfl⟩;rw[<-Sx]at hff ⊢;have Um:∀i,sB sn=some i->(h++g++g1++g2).length+2=i:=λi hi=>by rw[Sx]at hi;cases hi;simp only[YP,Zp]<;>omega
  have hout:∀b,sB out=some b->b<(h++g).length:=λb hb=>(hfr.bN hb).2
  have kp:∀i,i<(h++g++g1++g2).length->sB out≠some i->(h++g')[i]? =(h++g++g1++g2)[i]? :=λi hi hne=>by
   rw[hkp i (by simp only[YP,Zp]at hi ⊢;omega) (λb0 o n e he zz=>hne (by rw[he,zz];rfl)),YR (h++g++g1++g2),YT hi]
  have w2:IntKind.i64.wrap ((ln.length:Int)+1)=((ln.length+1:Nat):Int):=wrapN Om;have w3:IntKind.i64.wrap ((a:Int)+((ln.length+1:Nat):Int))=((a+ln.length+1:Nat):Int):=by rw[bu Om Om];omega
  refine Rs (A5 t0 t5 t6 @w2 @w3) ?_;refine⟨s.length-(a+ln.length+1),Om,a+ln.length+1,f',sn,L'++[x],g',Om,rfl,rfl,by simp;omega,?_,Om,hff,λy hy=>?_,rfl,rfl⟩
  ·rw[Sc,SN,Y5];rfl
  ·have lg:∀{i},i<(h++g).length->i<(h++g++g1++g2).length:=λ{i} hi=>by simp only[YP]at hi ⊢;omega
   rcases YZ.1 hy with hy|hy
   ·have oy:=hin y hy;have ln:=λj (hj:sB y.sn=some j)=>(oy.n.bN hj).2
    have lv:=λj (hj:sB y.sv=some j)=>(oy.v.bN hj).2
    refine⟨((oy.n.app g1).app g2).aD λj hj=>kp j (lg (ln j hj)) (oy.dn j hj),((oy.v.app g1).app g2).aD λj hj=>kp j (lg (lv j hj)) (oy.dv j hj),λj hj e=>?_,λj hj e=>?_⟩
    ·have h1:=lg (ln j hj);have h2:=Um j e;omega
    ·have h1:=lg (lv j hj);have h2:=Um j e;omega
   ·rw[Zm]at hy;subst hy;have ln:=λj (hj:sB y.sn=some j)=>fn.bN hj
    have lv:=λj (hj:sB y.sv=some j)=>fv.bN hj
    have en:(h++g++g1).length=(h++g).length+g1.length:=YP;exact z31
 ·have e3:decide ((a:Int)<s.length)=false:=YS Om;have e4:a=s.length:=Om
  have hnil:s.drop a=[]:=List.drop_eq_nil_of_le Om;rw[rf,Zb hnil]at Sc;refine Rs (A4 t0 t5 t6 e3) ?_;rw[Sc];exact⟨L',_,rfl,rfl,hfr,hin⟩
end
def qF:Nat->Nat
 | 0=>198
 | 1=>126
 | 2=>200
 | 3=>201
 | 4=>202
 | 5=>203
 |_=>204
def jC(q:Nat×Bool×Nat):AV:=.agg [.bool q.2.1,.i (q.2.2:Nat),.func (.func (qF q.1)) [] []]
def BX:List (AV×AV):=[(.str [108,101,102,116],jC (0,true,4)),(.str [102,114,111,109],jC (1,true,5)),(.str [108,105,110,101,115],jC (2,true,3)),(.str [117,110,115,97,102,101],jC (3,false,2)),(.str [116,97,112,101,115],jC (4,true,2)),(.str [114,101,108,101,97,115,101,100],jC (5,false,5)),(.str [119,97,110,116],jC (6,true,0))]
def Im(k:By):gY .s (.str k) BX=some ((kX k).map jC):=by
 unfold kX BX;by_cases h0:k=[108,101,102,116]
 ·subst h0;rfl
 have b0:(k==[108,101,102,116])=false:=by simp[h0]
 by_cases h1:k=[102,114,111,109]
 ·subst h1;rfl
 have b1:(k==[102,114,111,109])=false:=by simp[h1]
 by_cases h2:k=[108,105,110,101,115]
 ·subst h2;rfl
 have b2:(k==[108,105,110,101,115])=false:=by simp[h2]
 by_cases h3:k=[117,110,115,97,102,101]
 ·subst h3;rfl
 have b3:(k==[117,110,115,97,102,101])=false:=by simp[h3]
 by_cases h4:k=[116,97,112,101,115]
 ·subst h4;rfl
 have b4:(k==[116,97,112,101,115])=false:=by simp[h4]
 by_cases h5:k=[114,101,108,101,97,115,101,100]
 ·subst h5;rfl
 have b5:(k==[114,101,108,101,97,115,101,100])=false:=by simp[h5]
 by_cases h6:k=[119,97,110,116]
 ·subst h6;rfl
 have b6:(k==[119,97,110,116])=false:=by simp[h6]
 simp only[gY,cV,b0,b1,b2,b3,b4,b5,b6,Y6 h0,Y6 h1,Y6 h2,Y6 h3,Y6 h4,Y6 h5,Y6 h6];rfl
def Cd{h:ah}{r:Nat}(hb:h[r]? =some (.bf BX)){z:AV}{ok:Bool}{k:By}:gX .s z ok (.map r) (.str k) (λb=>h[b]?)=lH z ok ((kX k).map jC):=nY hb (Im k)
theorem rv:∀{l}{i:Nat},∀y∈cW l i,(i:Int)<=y/\y<(i:Int)+l.length
 |[],i,y,h=>by simp[cW]at h
 |x::r,i,y,h=>by
  rw[cW]at h;have key:y∈cW r (i+1)->(i:Int)<=y/\y<(i:Int)+(x::r).length:=λh=>by
   have:=rv y h;rw[YV];omega
  split at h
  ·rcases ZC.1 h with rfl|h
   ·rw[YV];omega
   ·exact key h
  ·exact key h
section
variable {P:Program}(T:fp P) {h:ah}
include T
theorem ry{h ks ts Q g es a l z ps k v es'}(ha:a+1<=ts.length)(h1:(a=1)=False)(t1:slot ts 1=.map h.length)
  (hv:rM (eI z (ps.map λp=>(p.1,p.2.1,val ts p.2.2)))=some v) (hu:mC .s (.str k) v es=some es')
  (K:∀ts',ts'.length=ts.length->slot ts' 1=slot ts 1->WP P bL l ks ts' (h++[.bf es']++g) Q):
  WP P bL (.o a (.build z ps):: .x (.fE .s (.t 1) (.c (.str k)) (.t a))::l) ks ts (h++[.bf es]++g) Q:=by
 have e1:rn .s (.map h.length) (.str k) v (λb=>(h++[ak.bf es]++g)[b]?)=some (az,.set h.length (.bf es')):=qt uw hu;unfold bI.o bI.x;rw[rS,hv,uC,uH];have e2:val (put ts (some a) v) (.t 1)=.map h.length:=by
  simp only[pQ,uS,bz,h1,t1]
 have e3:val (put ts (some a) v) (.t a)=v:=by simp only[pQ,uS,bz,ha]
 rw[hP,e2,e3,yy,e1,rR,BY,pQ];have e4:(h++[ak.bf es]++g).set h.length (.bf es')=h++[.bf es']++g:=yJ;rw[e4];exact K _ (by simp only[bz]) (by simp only[bz,h1])
def r109:ay P 109 [] h (λv h'=>v=.map h.length/\h' =h++[.bf BX]):=by
 refine .of T.mix T.c109 ?_;obtain⟨ts,RG⟩:∃ts,ts=aR 10 []:=⟨_,rfl⟩;have hlen:ts.length=10:=by rw[RG];rfl
 unfold fn109;show WC P bL _ [] (aR 10 []) h _;rw[<-RG];clear RG;have m0:slot ((ts.set 0 AV.db).set 1 (.map h.length)) 1=.map h.length:=by simp only[bz,hlen,reduceAdd,reduceLeDiff]
 have l0:((ts.set 0 AV.db).set 1 (.map h.length)).length=10:=by simp only[bz,hlen]
 dsimp only[ai.j,ai.s,ai.r];rw[rT,rV,LU T,qE,rT,rV,LV T];rw[<-Zr (h++[ak.bf []])];generalize (ts.set 0 AV.db).set 1 (.map h.length)=ts0 at *;clear hlen;refine ry T (v:=jC (0,true,4)) (es':=[(.str [108,101,102,116],jC (0,true,4))]) (by rw[l0];decide) (aar De) m0 rfl rfl ?_;intro Tt lx mx;have l1:=lx.trans l0;have m1:=mx.trans m0;clear lx mx l0 m0;refine ry T (v:=jC (1,true,5)) (es':=[(.str [108,101,102,116],jC (0,true,4)),(.str [102,114,111,109],jC (1,true,5))]) (by rw[l1];decide) (aar De) m1 rfl rfl ?_;intro U1 lx mx;have l2:=lx.trans l1;have m2:=mx.trans m1;clear lx mx l1 m1
 refine ry T (v:=jC (2,true,3)) (es':=[(.str [108,101,102,116],jC (0,true,4)),(.str [102,114,111,109],jC (1,true,5)),(.str [108,105,110,101,115],jC (2,true,3))]) (by rw[l2];decide) (aar De) m2 rfl rfl ?_;intro ts3 lx mx;have l3:=lx.trans l2;have m3:=mx.trans m2;clear lx mx l2 m2;refine ry T (v:=jC (3,false,2)) (es':=[(.str [108,101,102,116],jC (0,true,4)),(.str [102,114,111,109],jC (1,true,5)),(.str [108,105,110,101,115],jC (2,true,3)),(.str [117,110,115,97,102,101],jC (3,false,2))]) (by rw[l3];decide) (aar De) m3 rfl rfl ?_;intro ts4 lx mx;have l4:=lx.trans l3;have m4:=mx.trans m3;clear lx mx l3 m3
 refine ry T (v:=jC (4,true,2)) (es':=[(.str [108,101,102,116],jC (0,true,4)),(.str [102,114,111,109],jC (1,true,5)),(.str [108,105,110,101,115],jC (2,true,3)),(.str [117,110,115,97,102,101],jC (3,false,2)),(.str [116,97,112,101,115],jC (4,true,2))]) (by rw[l4];decide) (aar De) m4 rfl rfl ?_;intro ts5 lx mx;have l5:=lx.trans l4;have m5:=mx.trans m4;clear lx mx l4 m4;refine ry T (v:=jC (5,false,5)) (es':=[(.str [108,101,102,116],jC (0,true,4)),(.str [102,114,111,109],jC (1,true,5)),(.str [108,105,110,101,115],jC (2,true,3)),(.str [117,110,115,97,102,101],jC (3,false,2)),(.str [116,97,112,101,115],jC (4,true,2)),(.str [114,101,108,101,97,115,101,100],jC (5,false,5))]) (by rw[l5];decide) (aar De) m5 rfl rfl ?_
 intro ts6 lx mx;have l6:=lx.trans l5;have m6:=mx.trans m5;clear lx mx l5 m5;refine ry T (v:=jC (6,true,0)) (es':=[(.str [108,101,102,116],jC (0,true,4)),(.str [102,114,111,109],jC (1,true,5)),(.str [108,105,110,101,115],jC (2,true,3)),(.str [117,110,115,97,102,101],jC (3,false,2)),(.str [116,97,112,101,115],jC (4,true,2)),(.str [114,101,108,101,97,115,101,100],jC (5,false,5)),(.str [119,97,110,116],jC (6,true,0))]) (by rw[l6];decide) (aar De) m6 rfl rfl ?_;intro ts7 lx mx;have l7:=lx.trans l6;have m7:=mx.trans m6;clear lx mx l6 m6;have hlen:=l7;rw[Zr];refine Rs @m7 ?_;rfl
section
variable {V:RV}(o:aC h V) (w:eJ V.an)
include o w
def r198(Z:qn P)(pw:Pw h){n}(hn:n∈iX V.an):ay P 198 [.agg V.row,.str n] h (λv k=>aH k v 1 ((kM V.an n 0).map ao)):=by
 refine .eP 10 T.mix T.c198 ?_;intro ts hlen t0 t1;unfold fn198 gA;have RF:=@aC.box _ _ o;have l:=w.len;refine Rs (A4 t0 t1 @RF @aF) ?_;refine WF.res T.c124 (r124 T (o.ext Xx) l hn) ?_;rintro _ g1 ⟨x,hx,UM,rfl⟩;have hj:=w.jb x.1 (Zo hx);refine Rs (A2 t0 t1) ?_;refine WF.res T.c125 (r125 T ((o.e4 x hx).ext Xx) Om (λs hs=>(hj.2.2.2 s hs).1)) ?_;intro v g2 hv;have T3:=j6 (l:=x.1.bB) (i:=0);refine Rs (A2 t0 t1) ?_;refine WF.res T.c199 (r199 T hv Om jM (λy hy k ek=>by
  have:=rv y hy;exact yw T Z Om Om (pw.ext (Ext.trans Xx ek)))) ?_
 intro v3 g3 hv3;have hr:=hv3.ba;refine Rs t0 ?_;rw[UM]at hr;exact hr
def r200(n:By):ay P 200 [.agg V.row,.str n] h (λv k=>aH k v 1 ((kM V.an n 2).map ao)):=by
 refine .eP 9 T.mix T.c200 ?_;intro ts hlen t0 t1;unfold fn200 gA;have RF:=@aC.box _ _ o;have l:=w.len;have hin:∀x∈V.aE,x.1.bA.length<2^30:=λx hx=>by have:=(w.md x.1 (Zo hx)).2.1;omega
 refine Rs (A4 t0 t1 @RF @aF) ?_;refine WF.res T.c122 (r122 T (o.ext Xx) l hin _) ?_;rintro v3 g3 h3;have hsl:(jd V.an n).length<2^30:=by
  have h1:(jd V.an n).length<=V.an.lines.length:=by unfold jd;exact ZD _ _
  have:=w.l0;omega
 refine Rs (A2 t0 t1) ?_;refine WF.res T.c121 (r121 T h3 Om (λx=>x.name) (λx _ k _=>bF.of (a:=[]) (c:=[]) T.c123 (r123 T x))) ?_;intro v4 g4 h4;have hr:=h4.ba;refine Rs t0 ?_;exact hr
def r201(n:By):ay P 201 [.agg V.row,.str n] h (λv k=>aH k v 1 ((kM V.an n 3).map ao)):=by
 refine .eP 9 T.mix T.c201 ?_;intro ts hlen t0 t1;unfold fn201 gA;have RF:=@aC.box _ _ o;have l:=w.len;refine Rs (A5 t0 t1 @RF @aF @sV) ?_;refine WF.res T.c80 (r80 T (o.ext Xx) l w.ue _) ?_;intro v4 g4 h4;refine Rs t0 ?_;exact h4
def r202{n}(hn:n∈kv V.an):ay P 202 [.agg V.row,.str n] h (λv k=>aH k v 1 ((kM V.an n 4).map ao)):=by
 refine .eP 9 T.mix T.c202 ?_;intro ts hlen t0 t1;unfold fn202 gA;have RF:=@aC.box _ _ o;have l:=w.len;refine Rs (A4 t0 t1 @RF @aF) ?_;refine WF.res T.c77 (r77 T (o.ext Xx) l hn) ?_;rintro _ g1 ⟨x,hx,UM,rfl⟩;have hr:=(o.e2 x hx);unfold aX;refine Rs (A2 t0 t1) ?_;rw[UM]at hr;exact hr.ext Xx
end
end
def zL{l x}:sd (l++[x])=sd l++(if x.rel then [x.name,jM x.nA]else []):=by
 unfold sd;simp only[Y5,aaC,ZP,aaF,Z9,List.flatten_nil,Zr]
theorem q8:∀{l},(sd l).length<=2*l.length
 |[]=>by simp[sd]
 |x::r=>by
  have:=q8 (l:=r);unfold sd at this ⊢;rw[ZP,Z9,YP,YV];split
  ·simp only[YV,YX];omega
  ·simp only[YX];omega
section
variable {P:Program}(T:fp P) {h:ah}
include T
section
variable {V:RV}(o:aC h V) (w:eJ V.an)
include o w
def r203(Z:qn P)(pw:Pw h)(n:By):ay P 203 [.agg V.row,.str n] h (λv k=>aH k v 1 ((kM V.an n 5).map ao)):=by
 refine .eP 27 T.mix T.c203 ?_;intro ts hlen t0 t1;unfold fn203 gA;have RF:=@aC.box _ _ o;have l5:V.aN.length<=16:=w.l5;refine Rs (A5 t0 t1 @RF @iG o.i5.aJ) ?_;refine WL.inv T.mix (λn ts h'=>∃(k:Nat) (out:AV) (g:ah),k<=V.aN.length/\n=V.aN.length-k/\h' =h++g/\Fr h.length (h++g) out 1 ((sd (V.aN.take k)).map ao)/\
   ts.length=27/\slot ts 5=out/\slot ts 9=V.s5/\slot ts 10=.i V.aN.length/\slot ts 11=.i k) V.aN.length
  ⟨0,.af,_,Om,rfl,rfl,.nil,Sn,(Sq t1),Sw,(Sq t0),gM⟩ ?_
 rintro _ ts _ ⟨k,out,g,hk,rfl,rfl,hfr,hlen,t5,t9,t10,t11⟩;by_cases hlt:k<V.aN.length
 ·have e3:=ee hlt;have e5:=wrapN (n:=k) Om;have ix:=o.i5.dG (kk:=.i64) hlt;have ld:∀{k'},Ext (h++g) k'->aq (some 4) (cN V.s5 4 k) (λb=>k'[b]?)=some (.agg (dh V.aN[k]),.au):=λ{k'} e=>o.i5.jD hlt (Ext.trans Xx e)
  obtain⟨x,hx⟩:∃x,x=V.aN[k]:=⟨_,rfl⟩;have Ty:x∈V.aN:=by rw[hx];exact Za _
  have hpc:=w.pc x Ty;have R4:V.aN.take (k+1)=V.aN.take k++[x]:=by rw[hx,ZF,YU hlt];rfl
  have Tl:=q8 (l:=V.aN.take k);have htl:(V.aN.take k).length<=16:=by rw[ZR];omega
  have Sx:=zL (l:=V.aN.take k) (x:=x);rw[<-hx]at ld;unfold dh at ld;cases hrel:x.rel with
  |false=>
   rw[hrel]at ld Sx;rw[Y6 Si,Zr,<-R4]at Sx;rw[<-Sx]at hfr;refine Rs (A8 t5 t9 t10 t11 e3 e5 ix @ld) ?_;exact⟨V.aN.length-(k+1),Om,k+1,out,_,Om,rfl,YR _ _ _,by rw[<-YR];exact hfr.app _,rfl,rfl⟩
  |true=>
   rw[hrel]at ld Sx;rw[Zb rfl,<-R4]at Sx;refine Rs (A7 t5 t9 t10 t11 e3 ix @ld) ?_;refine WF.ce T.c113 (Z.itoa Om Om (pw.ext Xx)) λg1=>?_
   rw[gF hpc.2.1];refine Rs (A4 t5 t9 t10 t11) ?_;refine WR.Ft (h0:=h) (cs:=(sd (V.aN.take k)).map ao) (ys:=([x.name,jM x.nA] :List (By)).map ao) (((hfr.app _).app _).app _) (Fr.push (N:=0) (Zw _) (([x.name,jM x.nA] :List (By)).map ao) (by simp[ao])).ba De (by simp;omega) Xx ?_;intro s' g' hff hkp hle;rw[<-Y5,<-Sx]at hff;refine Rs (A5 t5 t9 t10 t11 e5) ?_;exact⟨V.aN.length-(k+1),Om,k+1,s',g',Om,rfl,rfl,hff,rfl,rfl⟩
 ·have e3:=fo hlt;have e4:k=V.aN.length:=Om
  refine Rs (A5 t5 t9 t10 t11 e3) ?_;rw[e4,ZA]at hfr;exact hfr.ba
def r204(Z:qn P)(pw:Pw h){n}(hn:n∈gP V.an):ay P 204 [.agg V.row,.str n] h (λv k=>aH k v 1 ((kM V.an n 6).map ao)):=by
 refine .eP 22 T.mix T.c204 ?_;intro ts hlen t0 t1;unfold fn204 gA;have RF:=@aC.box _ _ o;have l:=w.len;have Vn:=w.ln _ (gI (f:=gZ.name) (l:=V.an.lines) (n:=n) (d:=B7) hn);have T3:(V.aj.filter λx=>decide (x.1.line=n)).length<=V.aj.length:=ZD _ _;have hl2:=l.l2;have hof:(tZ V.an n).length=(V.aj.filter λx=>decide (x.1.line=n)).length:=by
  unfold tZ;simp only[RV.an,aaM,YY];rfl
 refine Rs (A4 t0 t1 @RF @aF) ?_;refine WF.ce T.c205 (r205 T (o.ext Xx) l hn) λg1=>?_
 have UY:kM V.an n 6=[jM (tZ V.an n).length,jM (du V.an n).want,if(du V.an n).acc then [97,99,99,101,112,116,101,100]else [111,112,101,110]]:=rfl;have Vn:1<=(du V.an n).want/\(du V.an n).want<=64:=Vn;generalize du V.an n=y at UY Vn ⊢;unfold bV;rw[hof]at UY;cases hacc:y.acc with
 |true=>
  rw[hacc]at UY;refine Rs (A4 t0 t1 @aF @hacc) ?_;refine WF.res T.c206 (r206 T (o.ext Xx) l n) ?_;intro v2 g2 h2;refine Rs (A3 t0 t1 h2.aJ) ?_;refine WF.ce T.c113 (Z.itoa Om Om (pw.ext Xx)) λg3=>?_
  rw[gF Om];refine Rs (A2 t0 t1) ?_;refine WF.ce T.c113 (Z.itoa Om Om (pw.ext Xx)) λg4=>?_
  rw[gF Om];refine Rs (A2 t0 t1) ?_;rw[UY];exact(Fr.push (es:=1) (N:=0) (Zw _) (([jM ((V.aj.filter λx=>decide (x.1.line=n)).length:Nat),jM y.want,[97,99,99,101,112,116,101,100]] :List (By)).map ao) (by simp[ao])).ba
 |false=>
  rw[hacc]at UY;refine Rs (A4 t0 t1 @aF @hacc) ?_;refine WF.res T.c206 (r206 T (o.ext Xx) l n) ?_;intro v2 g2 h2;refine Rs (A3 t0 t1 h2.aJ) ?_;refine WF.ce T.c113 (Z.itoa Om Om (pw.ext Xx)) λg3=>?_
  rw[gF Om];refine Rs (A2 t0 t1) ?_;refine WF.ce T.c113 (Z.itoa Om Om (pw.ext Xx)) λg4=>?_
  rw[gF Om];refine Rs (A2 t0 t1) ?_;rw[UY];exact(Fr.push (es:=1) (N:=0) (Zw _) (([jM ((V.aj.filter λx=>decide (x.1.line=n)).length:Nat),jM y.want,[111,112,101,110]] :List (By)).map ao) (by simp[ao])).ba
end
end
def vD{n}(h:dX n=true):n.length<=24:=by
 cases n with
 |nil=>cases h
 |cons c r=>
  unfold dX at h;simp only[Zx,ZJ]at h;rw[YV];omega
def ua{l}(h:pM l){n}(hn:n∈l):n.length<=24:=vD (h.nm n hn)
theorem pA{c}:∀{l},(∀x∈l,x.length<=64)->(jz c l).length<=65*l.length
 |[],_=>Zw _
 |x::r,h=>by
  have ih:=pA (c:=c) (l:=r) λy hy=>h y (ZG _ hy)
  have hx:=h x Si;by_cases hr:r=[]
  ·subst hr;simp only[jz,YV,YX];omega
  ·rw[nq hr,YP,YV,YV];omega
theorem tf:∀{l m:List (By)},l.Nodup->(∀x∈l,x∈m)->l.length<=m.length
 |[],_,_,_=>Zw _
 |x::r,m,hd,hs=>by
  rw[abp]at hd;have hm:=hs x Si;have:=tf (l:=r) (m:=m.erase x) hd.2 λy hy=>(List.mem_erase_of_ne (λe=>hd.1 (by rw[<-e];exact hy))).2 (hs y (ZG _ hy))
  rw[List.length_erase_of_mem hm]at this;have:=List.length_pos_of_mem hm;rw[YV];omega
def IY{R:eM}(w:eJ R){n k:By}{q:Nat×Bool×Nat}(hq:kX k=some q)(hn:q.2.1=true->dC R q.2.2 n=true):(∀x∈kM R n q.1,x.length<=64)/\(kM R n q.1).length<=64:=by
 have dl:∀{y:Int},0<=y->y<99999999->(jM y).length<=64:=λ{y} h0 h1=>by have:=ml (k:=7) (u:=y.toNat) Om;rw[kL];omega
 unfold kX at hq
 repeat' split at hq
 all_goals cases hq
 ·have hm:n∈iX R:=aad (hn rfl);have hj:=w.jb _ (gI (f:=k9.name) (l:=R.aG) (n:=n) (d:=zS) hm);have T3:=j6 (l:=(gE R n).bB) (i:=0);have hj:(gE R n).bB.length<=32:=hj.2.2.1;refine⟨λx hx=>?_,?_⟩
  ·obtain⟨y,hy,rfl⟩:=Zv.1 hx;have:=rv y hy;exact Ds
  ·show((cW _ _).map jM).length<=64;rw[YY];omega
 ·refine⟨λx hx=>?_,?_⟩
  ·exact Ku
  ·show(s9 R n).length<=64;unfold s9;exact z175
 ·refine⟨λx hx=>?_,?_⟩
  ·obtain⟨y,hy,rfl⟩:=Zv.1 hx;have:=ua w.n0 (Zo (f:=gZ.name) (aaa.1 hy).1);omega
  ·show((jd R n).map gZ.name).length<=64;unfold jd;rw[YY];have:=ZD (λl:gZ=>decide (l.name∈(mI R n).map iE.line)) R.lines;have:=w.l0;omega
 ·refine⟨λx hx=>?_,?_⟩
  ·exact Ku
  ·show(fj R R.tick).length<=64;unfold fj;exact z175
 ·have hm:n∈kv R:=aad (hn rfl);have hs:=w.sh _ (gI (f:=gN.name) (l:=R.aj) (n:=n) (d:=B5) hm);refine⟨λx hx=>?_,?_⟩
  ·have:=ua w.n1 (hs.2.2.2 x hx);omega
  ·have:=tf hs.2.2.1 hs.2.2.2;have h1:(jG R).length<=16:=by unfold jG;rw[YY];exact w.l1
   exact ZL this Om
 ·refine⟨λx hx=>?_,?_⟩
  ·obtain⟨l,hl,hx⟩:=List.mem_flatten.1 hx;obtain⟨p,hp,rfl⟩:=Zv.1 hl;have hpc:=w.pc p hp;split at hx
   ·simp only[ZC,ZY,aay]at hx;rcases hx with rfl|rfl
    ·have:=ua w.n5 (Zo (f:=qo.name) hp);omega
    ·exact dl hpc.2.1 Om
   ·cases hx
  ·have:=q8 (l:=R.aN);have:=w.l5;show(sd R.aN).length<=64;omega
 ·have hm:n∈gP R:=aad (hn rfl);have hw:=w.ln _ (gI (f:=gZ.name) (l:=R.lines) (n:=n) (d:=B7) hm);have hw:1<=(du R n).want/\(du R n).want<=64:=hw;have ho:(tZ R n).length<=64:=ZL (ZD _ _) w.l2;refine⟨λx hx=>?_,by show(3:Nat)<=64;omega⟩;have hx:x∈[jM (tZ R n).length,jM (du R n).want,if(du R n).acc then [97,99,99,101,112,116,101,100]else [111,112,101,110]]:=hx;simp only[ZC,ZY,aay]at hx;rcases hx with rfl|rfl|rfl
  ·exact Ds
  ·exact Ds
  ·split<;>decide
section
variable {P:Program}(T:fp P) {h:ah}
include T
def Rc{V}(o:aC h V)(w:eJ V.an)(Z:qn P)(pw:Pw h){n k q}(hq:kX k=some q)(hn:q.2.1=true->dC V.an q.2.2 n=true):
  bF P (.func (.func (qF q.1)) [] []) [.agg V.row,.str n] h (λv k'=>aH k' v 1 ((kM V.an n q.1).map ao)):=by
 unfold kX at hq
 repeat' split at hq
 all_goals cases hq
 ·exact bF.of (a:=[]) (c:=[]) T.c198 (r198 T o w Z pw (aad (hn rfl)))
 ·exact bF.of (a:=[]) (c:=[]) T.c126 (r126 T o w (aad (hn rfl)))
 ·exact bF.of (a:=[]) (c:=[]) T.c200 (r200 T o w n)
 ·exact bF.of (a:=[]) (c:=[]) T.c201 (r201 T o w n)
 ·exact bF.of (a:=[]) (c:=[]) T.c202 (r202 T o w (aad (hn rfl)))
 ·exact bF.of (a:=[]) (c:=[]) T.c203 (r203 T o w Z pw n)
 ·exact bF.of (a:=[]) (c:=[]) T.c204 (r204 T o w Z pw (aad (hn rfl)))
end
def C6(k:Nat):ai:=(fn110).body.dr k
def Fv(k:Nat):ai:=(C6 k).hd
def Qb:fn110=⟨69,2,[(4,none),(5,none)],.seq (Fv 0) (.seq (Fv 1) (.seq (Fv 2) (.seq (Fv 3) (.seq (Fv 4) (C6 5)))))⟩:=rfl
def Qa:C6 5=.seq (Fv 5) (.seq (Fv 6) (C6 7)):=rfl
def Og{k q}(hq:kX k=some q):q.2.2<6:=by
 unfold kX at hq
 repeat' split at hq
 all_goals cases hq
 all_goals decide
section
variable {P:Program}(T:fp P) {h W:ah}{ts:TS}
include T
def GM{VN n k i wt b6 b8 nm}(oV:aC W VN)(wV:eJ VN.an)(Z:qn P)(pw:Pw W)(hq:kX k=some (i,nm,wt))(hn:nm=true->dC VN.an wt n=true)
  (m6:W[b6]? =some (.b [.bool nm,.i (wt:Nat),.func (.func (qF i)) [] []])) (m8:W[b8]? =some (.b VN.row)) (hlen:ts.length=69) (t6:slot ts 6=.ptr b6 0) (t7:slot ts 7=.str n) (t8:slot ts 8=.ptr b8 0) (he:Ext h W):
  WC P bL (C6 7) [] ts W (FQ [(4,none),(5,none)] λv k=>Ext h k/\v=.dM [.str (ym (kM VN.an n i)),.i 0]):=by
 have l6:∀{k:ah}{n':Option Nat}{a:Nat},Ext W k->aq n' (.ptr b6 a) (λz=>k[z]?)=dE n' a (.b [.bool nm,.i (wt:Nat),.func (.func (qF i)) [] []]):=λe=>aA (e.some m6)
 have l8:∀{k:ah}{n':Option Nat}{a:Nat},Ext W k->aq n' (.ptr b8 a) (λz=>k[z]?)=dE n' a (.b VN.row):=λe=>aA (e.some m8)
 have Wi:=IY wV hq hn;have hv0:=Rc T oV wV Z pw hq hn;unfold C6 fn110 gA;simp only[ai.j,ai.s,ai.r,ai.dr,ai.tl,ai.hd];refine Rs (A6 t6 t7 t8 @l6 @l8 @aF) ?_;refine WF.val hv0 ?_;intro v g hv;have Wi:(∀x∈kM VN.an n i,x.length<=64)/\(kM VN.an n i).length<=64:=Wi;have hv:aH (W++g) v 1 ((kM VN.an n i).map ao):=hv;generalize kM VN.an n i=L at Wi hv ⊢;by_cases hL:L=[]
 ·have d0:decide ((L.length:Int)=0)=true:=YW (by rw[hL];rfl);refine Rs (A5 t6 t7 t8 hv.aJ @d0) ?_;exact⟨he.trans Xx,by rw[ym,Zb hL]⟩
 ·have Xg:0<L.length:=aaQ.2 hL;have d0:decide ((L.length:Int)=0)=false:=YS Om;have hj:=pA (c:=32) Wi.1;refine Rs (A5 t6 t7 t8 hv.aJ @d0) ?_;refine WF.ce T.c114 (Z.join hv ⟨by rw[rz];omega,Om⟩) λg2=>?_
  refine Rs t6 ?_;exact⟨he.trans Xx,by rw[ym,Y6 hL,rz]⟩
def GL{V b n k i wt b6 nm}(o:zt h b V)(w:kO V.bU)(hl:V.cJ.length<=1000)(Z:qn P)(pw:Pw h)(hq:kX k=some (i,nm,wt))(he:Ext h W)
  (m6:W[b6]? =some (.b [.bool nm,.i (wt:Nat),.func (.func (qF i)) [] []])) (hlen:ts.length=69) (t0:slot ts 0=.ptr b 0) (t6:slot ts 6=.ptr b6 0) (t7:slot ts 7=.str n) {R}
  (hR:R=if nm=true/\dC V.bU.now wt n=false then([],10)else(ym (kM V.bU.now n i),0)):
  WC P bL (C6 5) [] ts W (FQ [(4,none),(5,none)] λv k=>Ext h k/\v=.dM [.str R.1,.i R.2]):=by
 have l6:∀{k:ah}{n':Option Nat}{a:Nat},Ext W k->aq n' (.ptr b6 a) (λz=>k[z]?)=dE n' a (.b [.bool nm,.i (wt:Nat),.func (.func (qF i)) [] []]):=λe=>aA (e.some m6)
 have hwt:wt<6:=Og hq;obtain⟨RR,SJ⟩:∃RR,RR=C6 7:=⟨_,rfl⟩;have o2:=o.ext he;have oV:=o2.now;have wV:eJ V.now.an:=by rw[V.jI];exact w.now
 rw[<-V.jI]at hR;have st:=λ{b':Nat}{a0 a1 a2 a3 a4 a5 a6:AV}=>@aC.st _ _ oV b' a0 a1 a2 a3 a4 a5 a6 false
 rw[Qa,<-SJ];unfold Fv C6 fn110 gA;simp only[ai.j,ai.s,ai.r,ai.dr,ai.tl,ai.hd];refine Rs (A3 t0 t6 t7) ?_;refine WF.ce T.c79 (r79 T o2 hl) λg1=>?_
 cases nm with
 |false=>
  rw[Y6 Si]at hR;refine Rs (A6 t0 t6 t7 @st @l6 @aF) ?_;rw[hR,SJ];exact GM T (VN:=V.now) (b6:=b6) (b8:=(W++g1).length) (oV.ext Xx) wV Z (pw.ext (he.trans Xx)) hq (λe=>by cases e) (Ext.some Xx m6) (by rw[Y7 (Y9 _),Z2];rfl) (Sq t0) (Sq t6) (Sq t7) (Sq t0) (he.trans Xx)
 |true=>
  refine Rs (A6 t0 t6 t7 @st @l6 @aF) ?_;refine WF.ce T.c86 (r86 T (oV.ext Xx) wV.len hwt n) λg2=>?_
  cases WW:dC V.now.an wt n with
  |false=>
   rw[Zb ⟨rfl,WW⟩]at hR;refine Rs (A5 t0 t6 t7 @WW @Zq) ?_;exact⟨he.trans Xx,by rw[hR]⟩
  |true=>
   rw[Y6 (by rw[WW];simp)]at hR;refine Rs (A5 t0 t6 t7 @WW @Zg) ?_;rw[hR,SJ];exact GM T (VN:=V.now) (b6:=b6) (b8:=(W++g1).length) (oV.ext Xx) wV Z (pw.ext (he.trans Xx)) hq (λ_=>WW) (Ext.some Xx m6) (Ext.some (h:=W++g1++[ak.b V.now.row]) Xx (by rw[Y7 (Y9 _),Z2];rfl)) (Sq t0) (Sq t6) (Sq t7) (Sq t0) (he.trans Xx)
end
def AB:((false:Bool)==false)=true:=rfl
def Ay:((true:Bool)==true)=true:=rfl
def Az:((true:Bool)==false)=false:=rfl
def AA:((false:Bool)==true)=false:=rfl
section
variable {P:Program}(T:fp P) {h:ah}
include T
def r110{V b}(o:zt h b V)(w:kO V.bU)(hl:V.cJ.length<=1000)(Z:qn P)(pw:Pw h){s ws}(hs:aH h s 1 (ws.map ao))(hne:0<ws.length)(hwl:ws.length<2^62){q}(hq:kX (ws.headD [])=some q):
  ay P 110 [.ptr b 0,s] h (λv _=>v=.dM [.str (nD V.bU.now ws q).1,.i (nD V.bU.now ws q).2]):=by
 refine .of T.mix (abq T.c110 (Zz some Qb)) ?_;obtain⟨ts,RG⟩:∃ts,ts=aR 69 [.ptr b 0,s]:=⟨_,rfl⟩;have hlen:ts.length=69:=by rw[RG];rfl
 have t0:slot ts 0=.ptr b 0:=by rw[RG];rfl
 have t1:slot ts 1=s:=by rw[RG];rfl
 obtain⟨RR,SJ⟩:∃RR,RR=C6 5:=⟨_,rfl⟩;obtain⟨i,nm,wt⟩:=q;show WC P bL _ [] (aR 69 [.ptr b 0,s]) h (FQ _ (λv k=>Ext h k/\v=.dM [.str (nD V.bU.now ws (i,nm,wt)).1,.i (nD V.bU.now ws (i,nm,wt)).2]));rw[<-RG,<-SJ];clear RG;have Yh:ws[0]=ws.headD []:=by cases ws with|nil=>simp at hne|cons a r=>rfl
 have qu:=hs.qu (kk:=.i64) hne;have ld0:∀{k:ah},Ext h k->aq none (cN s 1 0) (λb=>k[b]?)=some (.str (ws.headD []),.au):=λ{k} e=>by rw[<-Yh];exact hs.kY (i:=0) hne rfl e
 unfold Fv C6 fn110 gA;simp only[ai.j,ai.s,ai.r,ai.dr,ai.tl,ai.hd];refine Rs (A2 t0 t1) ?_;refine WF.res T.c109 (r109 T) ?_;rintro _ g1 ⟨rfl,hg⟩;have hg:g1=[.bf BX]:=aaK hg;subst hg;have lk:∀{z:AV},gX .s z false (.map h.length) (.str (ws.headD [])) (λb=>(h++[ak.bf BX])[b]?)=lH z false ((kX (ws.headD [])).map jC):=Cd (by rw[Y7 (Y9 _),Z2];rfl);rw[hq]at lk;have Sl:∀{z:AV},_=some (AV.agg [.bool nm,.i (wt:Nat),.func (.func (qF i)) [] []],iT.au):=@lk;have m6:∀{k:ah},Ext (h++[ak.bf BX]++[ak.b [.bool nm,.i (wt:Nat),.func (.func (qF i)) [] []]]) k->k[(h++[ak.bf BX]).length]? =some (ak.b [.bool nm,.i (wt:Nat),.func (.func (qF i)) [] []]):=λe=>e.some (by rw[Y7 (Y9 _),Z2];rfl)
 have hsyn:∀{x:By×Int},x=([],25)->nD V.bU.now ws (i,nm,wt)=([],25)->∀{k:ah},Ext h k->(Ext h k/\AV.dM [.str [],.i 25]=.dM [.str (nD V.bU.now ws (i,nm,wt)).1,.i (nD V.bU.now ws (i,nm,wt)).2]):=λ_ he k e=>⟨e,by rw[he]⟩
 cases nm with
 |false=>
  have Te:nD V.bU.now ws (i,false,wt)=if ws.length≠1 then([],25)else(ym (kM V.bU.now [] i),0):=by
   unfold nD;simp
  by_cases e1:ws.length=1
  ·have d1:decide ((ws.length:Int)≠1)=false:=YS (λz=>z Om);have d2:decide ((ws.length:Int)=2)=false:=YS Om;refine Rs (Dr t0 t1 @qu @ld0 @bS @Sl @iR @AB @Ay @Az @AA hs.aJ @d1 @d2 @Zq @Zg) ?_;rw[SJ];exact GL T (n:=[]) o w hl Z pw hq Xx (m6 Xx) (Sq t0) (Sq t0) (Sq t0) (Sq t0) (by rw[Te,Y6 (by simpa using e1),Y6 Si])
  ·have d1:decide ((ws.length:Int)≠1)=true:=YW Om;rw[Zb e1]at Te;by_cases e2:ws.length=2
   ·have d2:decide ((ws.length:Int)=2)=true:=YW Om;have d3:decide (([] :By)≠[])=false:=rfl;refine Rs (Jl t0 t1 @qu @ld0 @bS @Sl @iR @AB @Ay @Az @AA hs.aJ @d1 @d2 @d3 @Zq @Zg) ?_;rw[Te]
   ·have d2:decide ((ws.length:Int)=2)=false:=YS Om;refine Rs (Dr t0 t1 @qu @ld0 @bS @Sl @iR @AB @Ay @Az @AA hs.aJ @d1 @d2 @Zq @Zg) ?_;rw[Te]
 |true=>
  by_cases e2:ws.length=2
  ·have d2:decide ((ws.length:Int)=2)=true:=YW Om;have hw1:ws[1]=ws.getD 1 []:=by rw[ZH,YU Om];rfl
   have ix1:aS 1 s (.i 1)=some (cN s 1 1,.au):=hs.dG (kk:=.i64) (i:=1) Om;have Wq:∀{k:ah},Ext h k->aq none (cN s 1 1) (λb=>k[b]?)=some (.str (ws.getD 1 []),.au):=λ{k} e=>by rw[<-hw1];exact hs.kY (i:=1) Om rfl e
   have Te:nD V.bU.now ws (i,true,wt)=if ws.getD 1 []=[]then([],25)else if dC V.bU.now wt (ws.getD 1 [])=false then([],10)else(ym (kM V.bU.now (ws.getD 1 []) i),0):=by
    unfold nD;simp only[e2,and_true,Zi,abt,ne_eq,Bool.true_eq_false,false_and,aay,aaw]
   generalize ws.getD 1 []=n at Wq Te;by_cases hn:n=[]
   ·have d3:decide (n≠[])=false:=YS (λz=>z hn);rw[Zb hn]at Te;refine Rs (GU t0 t1 @qu @ld0 @ix1 @Wq @bS @Sl @iR @AB @Ay @Az @AA hs.aJ @d2 @d3 @Zq @Zg) ?_;rw[Te]
   ·have d3:decide (n≠[])=true:=YW hn;rw[Y6 hn]at Te;refine Rs (GU t0 t1 @qu @ld0 @ix1 @Wq @bS @Sl @iR @AB @Ay @Az @AA hs.aJ @d2 @d3 @Zq @Zg) ?_;rw[SJ];exact GL T (n:=n) o w hl Z pw hq Xx (m6 Xx) (Sq t0) (Sq t0) (Sq t0) (Sq t0) (by rw[Te];simp)
  ·have d2:decide ((ws.length:Int)=2)=false:=YS Om;have Te:nD V.bU.now ws (i,true,wt)=([],25):=by
    unfold nD;simp[e2]
   refine Rs (yu t0 t1 @qu @ld0 @bS @Sl @iR @AB @Ay @Az @AA hs.aJ @d2 @Zq @Zg) ?_;rw[Te]
end
def mF(B h0:ah)(b:Nat)(V:HV)(R:hO×By×Int)(v:AV)(k:ah):Prop:=∃g' V',k=B++g'/\v=.dM [.str R.2.1,.i R.2.2]/\cF B.length (B++g') b V'/\V'.bU=R.1/\
 (∀i,i<h0.length->some i∉V.ex b->(B++g')[i]? =h0[i]?)/\∀j,some j∈V'.ex b->some j∈V.ex b\/h0.length<=j
def mF.same{B W k b V m c}(o:cF B.length W b V)(e:Ext B W)(e2:Ext W k){R}(hR:R=(V.bU,m,c)):mF B W b V R (.dM [.str m,.i c]) k:=by
 obtain⟨z,rfl⟩:=e;obtain⟨y,rfl⟩:=e2;exact⟨z++y,V,by rw[YR],by rw[hR],by rw[<-YR];exact o.app y,by rw[hR],λi hi _=>by rw[<-YR,YT hi],λj hj=>.inl hj⟩
def mF.low{B h0 W k b V R v}(s:mF B W b V R v k)(e:Ext h0 W):mF B h0 b V R v k:=by
 obtain⟨g',V',h1,h2,h3,h4,h5,h6⟩:=s;obtain⟨z,rfl⟩:=e;refine⟨g',V',h1,h2,h3,h4,λi hi hn=>?_,λj hj=>?_⟩
 ·rw[h5 i (by rw[YP];omega) hn,YT hi]
 ·rcases h6 j hj with h|h
  ·exact .inl h
  ·exact .inr (by rw[YP]at h;omega)
def qZ(H:hO)(ws:List (By)):hO×By×Int:=
 if(eA ws).2=false then(H,[],25)else
 if 1000<=H.c8.length then(H,[],5)else
 if eC H { (eA ws).1 with num:=(H.c8.length:Int)+1}≠0 then(H,[],eC H { (eA ws).1 with num:=(H.c8.length:Int)+1})
 else(iS H { (eA ws).1 with num:=(H.c8.length:Int)+1},[100,111,110,101,32]++jM ((H.c8.length:Int)+1),0)
def CC{H s}:Ae H s=if 4096<s.length then(H,[],26)else if s=[]then(H,[],25)else
  match kX ((bJ 32 s).headD [])with
  |some q=>(H,nD H.now (bJ 32 s) q)
  |none=>
   match gT ((bJ 32 s).headD [])with
   |none=>(H,[],13)
   |some _=>qZ H (bJ 32 s):=by
 unfold Ae;by_cases h1:4096<s.length
 ·rw[Zb h1,Zb h1]
 rw[Y6 h1,Y6 h1];by_cases h2:s=[]
 ·rw[Zb h2,Zb h2]
 rw[Y6 h2,Y6 h2];cases kX ((bJ 32 s).headD [])with
 |some q=>rfl
 |none=>
  cases gT ((bJ 32 s).headD [])with
  |none=>rfl
  |some d=>
   simp only;unfold qZ;cases (eA (bJ 32 s)).2<;>rfl
def Jx(k:Nat):ai:=(fn43).body.dr k
def IF(k:Nat):ai:=(Jx k).hd
def PQ:fn43=⟨97,2,[(4,none),(5,none)],.seq (IF 0) (.seq (IF 1) (.seq (IF 2) (.seq (IF 3) (.seq (IF 4) (.seq (IF 5) (Jx 6))))))⟩:=rfl
section
variable {P:Program}(T:fp P) {B W:ah}{ts:TS}
include T
def MO{V b x}(he:Ext B W)(o:cF B.length W b V)(w:kO V.bU)(hl:V.c8.length<1000)(ox:bw W x)(hxl:x.ev.names.length<=2^40/\x.ev.cB.length<=2^40)(gl:Gl B):
  dm P 112 [.ptr b 0,.agg x.row] W (λv k=>JD B W b V x.ev v k):=by
 obtain⟨g,rfl⟩:=he;exact Mf T o w hl ox hxl gl
def PO{V b}(he:Ext B W)(o:cF B.length W b V)(w:kO V.bU)(hl:V.c8.length<=1000)(gl:Gl B)(pw:Pw B)(Z:qn P){sv ws}(hs:aH W sv 1 (ws.map ao))(hwl:∀x∈ws,x.length<=2^40)
  (hlen:ts.length=97) (t0:slot ts 0=.ptr b 0) (t7:slot ts 7=sv):WC P bL (Jx 6) [] ts W (FQ [(4,none),(5,none)] λv k=>mF B W b V (qZ V.bU ws) v k):=by
 have Tl:=vq ws;have Ve:V.bU.c8.length=V.c8.length:=by simp[HV.bU]
 have lb:=@eE _ _ _ o.hb;have UI:=o.rd.ie.aJ;unfold Jx fn43;simp only[ai.j,ai.s,ai.r,ai.dr,ai.tl,ai.hd];refine Rs (A2 t0 t7) ?_;refine WF.res T.c111 (r111 T Z hs hwl) ?_;rintro _ g1 ⟨x,hx,rfl,fn,fv⟩;have ox:bw (W++g1) x:=⟨fn.ba,fv.ba⟩;obtain⟨x',RN⟩:∃x':EV,x' =⟨{x.ev with num:=(V.c8.length:Int)+1},x.sn,x.sv⟩:=⟨_,rfl⟩;have hrow:x'.row=x.row.set 0 (.i ((V.c8.length:Int)+1)):=by rw[RN];rfl
 have Tx:x'.ev.num=(V.c8.length:Int)+1:=by rw[RN]
 have hev:({ (eA ws).1 with num:=(V.bU.c8.length:Int)+1}:ed)=x'.ev:=by rw[RN,hx,Ve]
 have Xn:bw (W++g1) x':=by rw[RN];exact⟨ox.n,ox.v⟩
 have RL:qZ V.bU ws=if(eA ws).2=false then(V.bU,[],25)else if 1000<=V.c8.length then(V.bU,[],5)else if eC V.bU x'.ev≠0 then(V.bU,[],eC V.bU x'.ev)else(iS V.bU x'.ev,[100,111,110,101,32]++jM ((V.c8.length:Int)+1),0):=by
  unfold qZ;rw[hev,Ve]
 have st:∀{b':Nat}{a0 a1 a2 a3 a4:AV},km 5 0 (.agg x.row) b' (.b [a0,a1,a2,a3,a4])=some (az,.set b' (.b x.row)):=λ{_ _ _ _ _ _}=>ox.st
 have kU:∀{b':Nat},km 1 0 (.i ((V.c8.length:Int)+1)) b' (.b x.row)=some (az,.set b' (.b x'.row)):=λ{b'}=>by
  rw[hrow];exact bX rfl (by show 0+1<=5;omega)
 have hpost:qZ V.bU ws=qZ V.bU ws:=rfl;generalize hfm:(eA ws).2=fm at RL ⊢;cases fm with
 |false=>
  refine Rs (A4 t0 t7 @st @Zq) ?_;refine WF.ce T.c85 (r85 T _ _) λg2=>?_
  refine Rs (A4 t0 t7 @lb @UI) ?_;refine WF.ce T.c85 (r85 T _ _) λg3=>?_
  refine Rs (A2 t0 t7) ?_;refine WF.ce T.c74 (r74 T (cj [_,_]) Si) λg4=>?_
  have e0:∀c,aZ [bZ true 25,bZ c 5]=25:=λc=>by cases c<;>rfl
  have d0:decide ((25:Int)≠0)=true:=rfl;refine Rs (A3 t0 e0 @d0) ?_;exact mF.same o he Xx (by rw[RL];rfl)
 |true=>
  rw[Y6 Si]at RL;refine Rs (A4 t0 t7 @st @Zg) ?_;refine WF.ce T.c85 (r85 T _ _) λg2=>?_
  refine Rs (A4 t0 t7 @lb @UI) ?_;refine WF.ce T.c85 (r85 T _ _) λg3=>?_
  refine Rs (A2 t0 t7) ?_;refine WF.ce T.c74 (r74 T (cj [_,_]) Si) λg4=>?_
  by_cases hk:1000<=V.c8.length
  ·have dk:decide ((1000:Int)<=(V.c8.length:Int))=true:=YW Om;have e0:aZ [bZ false 25,bZ true 5]=5:=rfl;have d0:decide ((5:Int)≠0)=true:=rfl;rw[Zb hk]at RL;refine Rs (A4 t0 @dk e0 @d0) ?_;exact mF.same o he Xx RL
  ·have dk:decide ((1000:Int)<=(V.c8.length:Int))=false:=YS Om;have e0:aZ [bZ false 25,bZ false 5]=0:=rfl;have d0:decide ((0:Int)≠0)=false:=rfl;rw[Y6 hk]at RL;have w1:IntKind.i64.wrap ((V.c8.length:Int)+1)=(V.c8.length:Int)+1:=bu Om Om;refine Rs (A9 t0 @dk e0 @d0 @lb @UI @w1 @kU @cp) ?_;obtain⟨Y,hY⟩:∃Y,Y=W++g1++[ak.b x'.row]++g2++g3++[ak.cells [.i (bZ false 25),.i (bZ false 5)] true true]++g4:=⟨_,rfl⟩;rw[<-hY];have Wg:Ext W Y:=by rw[hY];exact Xx
   have oY:cF B.length Y b V:=by obtain⟨z,hz⟩:=Wg;rw[hz];exact o.app z
   have oxY:bw Y x':=by rw[hY];exact Xn.ext Xx
   have m12:Y[(W++g1).length]? =some (.b x'.row):=by rw[hY];exact Ext.some (h:=W++g1++[ak.b x'.row]) Xx (by rw[Y7 (Y9 _),Z2];rfl)
   refine WF.gen T.c112 (MO T (he.trans Wg) oY w Om oxY ⟨by rw[RN];show x.ev.names.length<=_;rw[hx];omega,by rw[RN];show x.ev.cB.length<=_;rw[hx];omega⟩ gl) ?_;rintro _ _ ⟨g',V',rfl,rfl,Yb,Xd,hkp,hexn⟩;have hYl:W.length<=Y.length:=by obtain⟨z,hz⟩:=Wg;rw[hz,YP];omega
   have hkW:∀i,i<W.length->some i∉V.ex b->(B++g')[i]? =W[i]? :=λi hi hn=>by
    rw[hkp i Om hn];obtain⟨z,hz⟩:=Wg;rw[hz,YT hi]
   have hexW:∀j,some j∈V'.ex b->some j∈V.ex b\/W.length<=j:=λj hj=>(hexn j hj).imp id λh=>by omega
   by_cases TU:eC V.bU x'.ev=0
   ·have d:decide (eC V.bU x'.ev≠0)=false:=YS (λz=>z TU);rw[Zb TU]at Xd;rw[Y6 (λz=>z TU)]at RL;have m12':(B++g')[(W++g1).length]? =some (.b x'.row):=by
     rw[hkp _ (YQ.1 m12).1 (λhj=>by have:=o.Cy hj;simp only[YP]at this;omega)];exact m12
    have l12:aq none (.ptr (W++g1).length 0) (λz=>(B++g')[z]?)=some (.i ((V.c8.length:Int)+1),.au):=by rw[aA m12',<-Tx];rfl
    refine Rs (A3 t0 @d @l12) ?_;refine WF.ce T.c113 (Z.itoa Om Om (pw.ext ⟨_,rfl⟩)) λg5=>?_
    have hdl:=ml (k:=7) (u:=((V.c8.length:Int)+1).toNat) Om;rw[gF Om];have hdl:(jM ((V.c8.length:Int)+1)).length<=8:=by rw[kL];exact hdl
    have hbc:([100,111,110,101,32] :By).length+(jM ((V.c8.length:Int)+1)).length<2^62:=by
     simp only[YV,YX];omega
    have bc:=jN hbc;refine Rs (A2 t0 @bc) ?_;exact⟨g'++g5,V',by rw[YR],by rw[RL],by rw[<-YR];exact Yb.app g5,by rw[RL,Xd],λi hi hn=>by
     rw[<-YR,<-hkW i hi hn];have hil:i<(B++g').length:=by
      have e:=hkW i hi hn;rw[YU hi]at e;exact(YQ.1 e).1
     exact YT hil,hexW⟩
   ·have d:decide (eC V.bU x'.ev≠0)=true:=YW TU;rw[Y6 TU]at Xd;rw[Zb TU]at RL;refine Rs (A2 t0 @d) ?_;exact⟨g',V',rfl,by rw[RL],Yb,by rw[RL,Xd],hkW,hexW⟩
end
def cF.ext{N h k b V}(o:cF N h b V)(e:Ext h k):cF N k b V:=by obtain⟨z,rfl⟩:=e;exact o.app z
def uk{b o}:pB Qq.Ee (.ptr b o) .nilPtr=some false:=rfl
section
variable {P:Program}(T:fp P) {B g:ah}
include T
def Rm{V b}(o:cF B.length (B++g) b V)(w:kO V.bU)(hl:V.c8.length<=1000)(gl:Gl B)(pw:Pw B)(X:C9 P)(Z:qn P)(s:By)(hs:s.length<=2^36):
  dm P 43 [.ptr b 0,.str s] (B++g) (λv k=>mF B (B++g) b V (Ae V.bU s) v k):=by
 refine .of T.mix (abq T.c43 (Zz some PQ)) ?_;obtain⟨ts,RG⟩:∃ts,ts=aR 97 [.ptr b 0,.str s]:=⟨_,rfl⟩;have hlen:ts.length=97:=by rw[RG];rfl
 have t0:slot ts 0=.ptr b 0:=by rw[RG];rfl
 have t1:slot ts 1=.str s:=by rw[RG];rfl
 obtain⟨RR,SJ⟩:∃RR,RR=Jx 6:=⟨_,rfl⟩;show WC P bL _ [] (aR 97 [.ptr b 0,.str s]) (B++g) (FQ _ (λv k=>mF B (B++g) b V (Ae V.bU s) v k));rw[<-RG,<-SJ];clear RG;have he:Ext B (B++g):=⟨g,rfl⟩;obtain⟨W,hW⟩:∃W,W=B++g:=⟨_,rfl⟩;rw[<-hW]at o he ⊢;have eW:Ext W W:=Ext.refl W;have hregs:V.cJ.length<=1000:=by
  have e1:=w.ln;have e2:=w.le;exact Kp
 have Tz:=CC (H:=V.bU) (s:=s);unfold IF Jx fn43;simp only[ai.j,ai.s,ai.r,ai.dr,ai.tl,ai.hd];refine Rs (A3 t0 t1 @uk) ?_;refine WF.ce T.c85 (r85 T _ _) λg1=>?_
 refine Rs (A2 t0 t1) ?_;refine WF.ce T.c85 (r85 T _ _) λg2=>?_
 refine Rs (A2 t0 t1) ?_;refine WF.ce T.c74 (r74 T (cj [_,_]) Si) λg3=>?_
 by_cases h1:4096<s.length
 ·have d1:decide ((4096:Int)<(s.length:Int))=true:=YW Om;have e0:∀c,aZ [bZ true 26,bZ c 25]=26:=λc=>by cases c<;>rfl
  have d0:decide ((26:Int)≠0)=true:=rfl;rw[Zb h1]at Tz;refine Rs (A5 t0 t1 @d1 e0 @d0) ?_;exact mF.same o he Xx Tz
 have d1:decide ((4096:Int)<(s.length:Int))=false:=YS Om;rw[Y6 h1]at Tz;by_cases h2:s=[]
 ·have d2:decide (s=[])=true:=YW h2;have e0:aZ [bZ false 26,bZ true 25]=25:=rfl;have d0:decide ((25:Int)≠0)=true:=rfl;rw[Zb h2]at Tz;refine Rs (A6 t0 t1 @d1 @d2 e0 @d0) ?_;exact mF.same o he Xx Tz
 have d2:decide (s=[])=false:=YS h2;rw[Y6 h2]at Tz;have e0:aZ [bZ false 26,bZ false 25]=0:=rfl;have d0:decide ((0:Int)≠0)=false:=rfl;refine Rs (A6 t0 t1 @d1 @d2 e0 @d0) ?_;refine WF.res T.c64 (r64 T X s 32 Om) ?_;intro sv g4 hv;have hwl:=sQ (c:=32) (s:=s) (n:=2^40) Om;have hwn:(bJ 32 s).length<=s.length+1:=by
  rw[qP];have:=List.count_le_length (a:=(32:UInt8)) (l:=s);omega
 have hne:0<(bJ 32 s).length:=aaQ.2 jW;obtain⟨ws,Vl⟩:∃ws,ws=bJ 32 s:=⟨_,rfl⟩;rw[<-Vl]at hv hwl hwn hne Tz;have Yh:ws[0]=ws.headD []:=by
  clear hv hwl hwn Tz Vl;cases ws with|nil=>simp at hne|cons a r=>rfl
 obtain⟨Y,hY⟩:∃Y,Y=W++g1++g2++[ak.cells [.i (bZ false 26),.i (bZ false 25)] true true]++g3++g4:=⟨_,rfl⟩;rw[<-hY]at hv ⊢;have Wg:Ext W Y:=by rw[hY];exact Xx
 have oY:cF B.length Y b V:=o.ext Wg;have eB:=he.trans Wg;have qu:=hv.qu (kk:=.i64) hne;have ld0:∀{k:ah},Ext Y k->aq none (cN sv 1 0) (λb=>k[b]?)=some (.str (ws.headD []),.au):=λ{k} e=>by rw[<-Yh];exact hv.kY (i:=0) hne rfl e
 clear o he;refine Rs (A2 t0 t1) ?_;refine WF.res T.c109 (r109 T) ?_;rintro _ g5 ⟨rfl,hg⟩;have hg:g5=[.bf BX]:=aaK hg;subst hg;have lk:∀{z:AV},gX .s z true (.map Y.length) (.str (ws.headD [])) (λb=>(Y++[ak.bf BX])[b]?)=lH z true ((kX (ws.headD [])).map jC):=Cd (by rw[Y7 (Y9 _),Z2];rfl);cases hq:kX (ws.headD [])with
 |some q=>
  obtain⟨i,nm,wt⟩:=q;rw[hq]at lk Tz;have Sl:∀{z:AV},_=some (AV.dM [.agg [.bool nm,.i (wt:Nat),.func (.func (qF i)) [] []],.bool true],iT.au):=@lk;refine Rs (A7 t0 t1 @qu @ld0 @bS @Sl @iR) ?_;refine WF.ce T.c110 (r110 T (oY.rd.ext Xx) w hregs Z (pw.ext (eB.trans Xx)) (hv.ext Xx) hne Om hq) λg6=>?_
  refine Rs t0 ?_;exact(mF.same oY eB Xx Tz).low Wg
 |none=>
  rw[hq]at lk Tz;have Sl:∀{z:AV},_=some (AV.dM [z,.bool false],iT.au):=@lk;refine Rs (A7 t0 t1 @qu @ld0 @bS @Sl @iR) ?_;clear lk Sl;refine WF.res T.c90 (r90 T) ?_;rintro _ g6 ⟨vf,rfl,hk⟩;obtain⟨Y2,Uf⟩:∃Y2,Y2=Y++[ak.bf BX]++[ak.b [.bool false,.i 0,.nilFunc]]:=⟨_,rfl⟩;rw[<-Uf]at hk ⊢;have UC:Ext Y Y2:=by rw[Uf];exact Xx
  have ld2:∀{k:ah},Ext Y2 k->aq none (cN sv 1 0) (λb=>k[b]?)=some (.str (ws.headD []),.au):=λ{k} e=>ld0 (UC.trans e)
  have lk:∀{z:AV},gX .s z true (.map Y2.length) (.str (ws.headD [])) (λb=>(Y2++g6)[b]?)=lH z true ((gT (ws.headD [])).map vf):=hk.look;cases hd:gT (ws.headD [])with
  |none=>
   rw[hd]at lk Tz;have Sl:∀{z:AV},_=some (AV.dM [z,.bool false],iT.au):=@lk;refine Rs (A8 t0 t1 @qu @ld2 @bS @Sl @iR @Zq) ?_;exact(mF.same oY eB (UC.trans Xx) Tz).low Wg
  |some d=>
   rw[hd]at lk Tz;have Sl:∀{z:AV},_=some (AV.dM [vf d,.bool true],iT.au):=@lk;obtain⟨rs,a,hvf,hr,ha,hab⟩:=(hk.k d).ex;rw[hvf]at Sl;have c1:=mg d;have c2:=lJ d;have c3:=hr.one;refine Rs (kS t0 t1 @qu @ld2 @bS @Sl @Zg @c1 @c2 @c3 @ha) ?_;have Tz:Ae V.bU s=qZ V.bU ws:=Tz;rw[SJ,Tz];refine WC.Cb (PO T (eB.trans (UC.trans Xx)) (oY.ext (UC.trans Xx)) w hl gl pw Z (hv.ext (UC.trans Xx)) hwl (Sq t0) (Sq t0) (Sq t0)) ?_;rintro e ts' h' ⟨q1,v,q2,q3⟩;exact⟨q1,v,q2,mF.low q3 (Wg.trans (UC.trans Xx))⟩
end
def V0:HV:=⟨[],[],[],.af,.af,.af⟩
def MW{h}:cF h.length (h++[.b [.af,.af,.af]]) h.length V0:=
 ⟨Y9 _,by rw[Y7 (Y9 _),Z2];rfl,.nil,.nil,.nil,rH.2 ⟨λ_ _=>⟨by simp[sB,V0],by simp[sB,V0],by simp[sB,V0]⟩,λ_ z=>by simp[sB,V0]at z,λ_ z=>by simp[sB,V0]at z⟩,
  λx hx=>(by cases hx),λx hx=>(by cases hx),λx hx=>(by cases hx),λx hx=>(by cases hx)⟩
def MX{b}:∀j,some j∈V0.ex b->j=b:=λj hj=>by
 simp only[HV.ex,V0,sB,ZC,ZY,aay,Zu,reduceCtorEq]at hj;exact hj
def Hc{H ws}(w:kO H):kO (qZ H ws).1/\(qZ H ws).1.c8.length<=H.c8.length+1:=by
 unfold qZ;split
 ·exact⟨w,abr _⟩
 split
 ·exact⟨w,abr _⟩
 split
 ·exact⟨w,abr _⟩
 ·rename_i h;exact⟨w.add (aaw.1 h),by rw[wJ];omega⟩
def KA{H s}(w:kO H):kO (Ae H s).1/\(Ae H s).1.c8.length<=H.c8.length+1:=by
 rw[CC];split
 ·exact⟨w,abr _⟩
 split
 ·exact⟨w,abr _⟩
 split
 ·exact⟨w,abr _⟩
 split
 ·exact⟨w,abr _⟩
 exact Hc w
def sZ(x:By×By×Int):List AV:=[.str x.1,.str x.2.1,.i x.2.2]
def mO:hO->List (By×By×Int)->Option hO
 |H,[]=>some H
 |H,x::r=>if(Ae H x.1).2.1=x.2.1/\(Ae H x.1).2.2=x.2.2 then mO (Ae H x.1).1 r else none
section
variable {P:Program}(T:fp P) {h:ah}
include T
def r70:ay P 70 [] h (λv h'=>v=.ptr h.length 0/\h' =h++[.b [.af,.af,.af]]):=by
 refine .of T.mix T.c70 ?_;unfold fn70 gA;exact Wn Tv
def r44{V b}(o:zt h b V)(w:kO V.bU)(hl:V.c8.length<=1000):
  ay P 44 [.ptr b 0] h (λv h'=>∃L':List EV,L'.map EV.ev=V.bU.c8/\dZ h' L' v):=by
 refine .kU 11 T.mix T.c44 ?_;intro ts hlen t0;unfold fn44 gA;have lb:=@eE _ _ _ o.hb;refine Rs (A3 t0 @uk @lb) ?_;refine WF.res T.c87 (r87 T ⟨o.ie,o.ae⟩ Om (λx hx=>by
  obtain⟨d,we⟩:=w.ev x.ev (Zo hx);have h3:(bK d).length<=3/\cC d<=3:=by cases d<;>decide
  have:=we.nl;have:=we.vl;exact⟨Om,Om⟩)) ?_
 rintro v g ⟨L',hL,hf,hx⟩;refine Rs t0 ?_;exact⟨L',hL,hf.ba,λx RN=>(hx x RN).ok⟩
end
def Ih(d:Kd):(bh d).length<=16:=by cases d<;>decide
def Cz{e d}(we:ko e d):Qp e/\(iZ e).length<=520:=by
 have h3:(bK d).length<=3/\cC d<=3:=by cases d<;>decide
 have h1:=we.nl;have h2:=we.vl;have h4:=we.nu;have dl:∀{y:Int},0<=y->y<=999999999->(jM y).length<=64:=λ{y} h0 h1=>by have:=ml (k:=9) (u:=y.toNat) Om;rw[kL];omega
 have hb:(iZ e).length<=520:=by
  have hj:=pA (c:=32) (l:=wD e) λx hx=>by
   unfold wD at hx;simp only[YZ,ZC,ZY,aay,Zv]at hx;rcases hx with((rfl|rfl)|hx)|⟨y,hy,rfl⟩
   ·exact Ds
   ·have:=Ih d;rw[bW we.kd];omega
   ·have:=vD (we.nm x hx);omega
   ·have:=we.vr y hy;exact dl Om Om
  have hl:(wD e).length<=8:=by
   unfold wD;simp only[YP,YV,YX,YY];omega
  unfold iZ;omega
 exact⟨⟨Om,λx hx=>by have:=we.vr x hx;omega,Om,Om,Om⟩,hb⟩
section
variable {P:Program}(T:fp P) {h:ah}
include T
def r45(Z:qn P)(pw:Pw h){V b}(o:zt h b V)(w:kO V.bU)(hl:V.c8.length<=1000):
  ay P 45 [.ptr b 0] h (λv _=>v=.str (vJ V.bU.c8)):=by
 refine .kU 12 T.mix T.c45 ?_;intro ts hlen t0;unfold fn45 gA;have lb:=@eE _ _ _ o.hb;refine Rs (A3 t0 @uk @lb) ?_;refine WF.res T.c115 (r115 T o.ie (λx hx=>⟨(o.ae x hx).n.one,(o.ae x hx).v.one⟩) Om (λx=>vp x.ev) (λx hx k e=>by
  obtain⟨d,we⟩:=w.ev x.ev (Zo hx);exact bF.of (a:=[]) (c:=[]) T.c97 (r97 T Z ((o.ae x hx).ext e) (Cz we).1 (pw.ext e)))) ?_
 rintro v g hf;refine Rs t0 ?_;have Sg:(V.c8.map λx=>vp x.ev).flatten.length<=V.c8.length*529:=by
  have:∀L:List EV,(∀x∈L,(vp x.ev).length<=529)->(L.map λx=>vp x.ev).flatten.length<=L.length*529:=by
   intro L
   induction L with
   |nil=>intro _;simp
   |cons x r ih=>
    intro hx;have h1:=ih λy hy=>hx y (ZG _ hy)
    have h2:=hx x Si;rw[ZP,Z9,YP,YV,aaf];omega
  refine this _ λx hx=>?_
  obtain⟨d,we⟩:=w.ev x.ev (Zo hx);have:=(Cz we).2;rw[BU T Z];omega
 refine WF.ce T.c114 (Z.join hf.ba ⟨by rw[Cm];omega,by rw[YY];omega⟩) λg2=>?_
 refine Rs t0 ?_;rw[Cm,vJ,HV.bU,aaA];rfl
end
section
variable {P:Program}(T:fp P) {B:ah}
include T
def PN{W V b}(he:Ext B W)(o:cF B.length W b V)(w:kO V.bU)(hl:V.c8.length<=1000)(gl:Gl B)(pw:Pw B)(X:C9 P)(Z:qn P)(s:By)(hs:s.length<=2^36):
  dm P 43 [.ptr b 0,.str s] W (λv k=>mF B W b V (Ae V.bU s) v k):=by
 obtain⟨g,rfl⟩:=he;exact Rm T o w hl gl pw X Z s hs
omit T in
theorem DE{h k s es cs}(hs:aH h s es cs)(hk:∀j,sB s=some j->j<h.length->k[j]? =h[j]?):aH k s es cs:=by
 cases hs with
 |nil=>exact .nil
 |mk hb hf ho he=>
  have:=hk _ rfl (YQ.1 hb).1;exact .mk (this.trans hb) hf ho he
omit T in
theorem KS{h s es cs}(hs:aH h s es cs){j}(hj:sB s=some j):j<h.length:=by
 cases hs with
 |nil=>cases hj
 |mk hb _ _ _=>cases hj;exact(YQ.1 hb).1
def Rl{g V b}(o:cF B.length (B++g) b V)(w:kO V.bU)(gl:Gl B)(pw:Pw B)(X:C9 P)(Z:qn P){s L}(hs:aH (B++g) s 3 (L.map sZ))(hns:∀j,sB s=some j->some j∉V.ex b)
  (hlL:V.c8.length+L.length<=1000) (bU:∀x∈L,x.1.length<=2^36) {H'}(ha:mO V.bU L=some H'):
  dm P 71 [.ptr b 0,s] (B++g) (λv k=>v=.bool true/\∃g' V',k=B++g'/\cF B.length (B++g') b V'/\V'.bU=H'/\kO V'.bU/\V'.c8.length<=1000):=by
 refine .eP 35 T.mix T.c71 ?_;intro ts hlen t0 t1;unfold fn71 gA;refine Rs (A4 t0 t1 @uk hs.aJ) ?_;refine WL.inv T.mix (λn ts h'=>∃(k:Nat) (V':HV) (g':ah),k<=L.length/\n=L.length-k/\h' =B++g'/\cF B.length (B++g') b V'/\kO V'.bU/\V'.c8.length<=V.c8.length+k/\mO V'.bU (L.drop k)=some H'/\aH (B++g') s 3 (L.map sZ)/\(∀j,sB s=some j->some j∉V'.ex b)/\
   ts.length=35/\slot ts 0=.ptr b 0/\slot ts 11=s/\slot ts 12=.i L.length/\slot ts 13=.i k) L.length
  ⟨0,V,g,Om,rfl,rfl,o,w,Om,ha,hs,hns,Sn,(Sq t0),(Sq t1),(Sq t0),gM⟩ ?_
 clear t0 t1 hlen o w hs hns ha;clear ts;rintro _ ts _ ⟨k,V',g',hk,rfl,rfl,o,w,hVl,ha,hs,hns,hlen,t0,t11,t12,t13⟩;by_cases hlt:k<L.length
 ·have e3:=ee hlt;have e5:=wrapN (n:=k) Om;have ix:=hs.dG (kk:=.i64) hlt;have ld:∀{k'},Ext (B++g') k'->aq (some 3) (cN s 3 k) (λb=>k'[b]?)=some (.agg (sZ L[k]),.au):=λ{k'} e=>hs.jD hlt e
  obtain⟨⟨a,m,c⟩,hx⟩:∃x,x=L[k]:=⟨_,rfl⟩;have hm:(a,m,c)∈L:=by rw[hx];exact Za _
  have hd:L.drop k=(a,m,c)::L.drop (k+1):=by rw[hx];simp
  rw[<-hx]at ld;unfold sZ at ld;rw[hd,mO]at ha;split at ha
  case isFalse=>cases ha
  case isTrue hc=>
  have hc1:(Ae V'.bU a).2.1=m:=hc.1;have XI:(Ae V'.bU a).2.2=c:=hc.2;have hwd:=KA (s:=a) w;obtain⟨W,hW⟩:∃W,W=B++g'++[ak.b [.str a,.str m,.i c]]:=⟨_,rfl⟩;have eW:Ext (B++g') W:=by rw[hW];exact Xx
  have mW:W[(B++g').length]? =some (.b [.str a,.str m,.i c]):=by rw[hW,Y7 (Y9 _),Z2];rfl
  have lW:∀{kk:ah}{n':Option Nat}{q:Nat},kk[(B++g').length]? =some (.b [.str a,.str m,.i c])->aq n' (.ptr (B++g').length q) (λz=>kk[z]?)=dE n' q (.b [.str a,.str m,.i c]):=λe=>aA e
  refine Rs (A7 t0 t11 t12 t13 e3 ix @ld) ?_;rw[<-hW];have lW1:=λ{n':Option Nat}{q:Nat}=>@lW W n' q mW
  refine Rs (A5 t0 t11 t12 t13 @lW1) ?_;refine WF.gen T.c43 (PN T ((Ext.app _ (Ext.refl _):Ext B (B++g')).trans eW) (o.ext eW) w Om gl pw X Z a (bU _ hm)) ?_;rintro _ _ ⟨g2,V2,rfl,rfl,o2,hV2,hkp,hex⟩;have hWl:W.length=(B++g').length+1:=by rw[hW,YP];rfl
  have m2:(B++g2)[(B++g').length]? =some (.b [.str a,.str m,.i c]):=by
   rw[hkp _ Om (λhj=>by have:=o.Cy hj;omega)];exact mW
  have lW2:=λ{n':Option Nat}{q:Nat}=>@lW (B++g2) n' q m2
  have d1:decide (m≠m)=false:=YS (λz=>z rfl);have d2:decide (c≠c)=false:=YS (λz=>z rfl);rw[hc1,XI];refine Rs (A8 t0 t11 t12 t13 @lW2 @d1 @d2 e5) ?_;have hsW:=hs.ext eW;refine⟨L.length-(k+1),Om,k+1,V2,g2,Om,rfl,rfl,o2,by rw[hV2];exact hwd.1,?_,by rw[hV2];exact ha,DE hsW λj hj hl=>hkp j hl (hns j hj),λj hj hx=>?_,rfl⟩
  ·have e1:V2.c8.length=V2.bU.c8.length:=by simp[HV.bU]
   have e2:V'.c8.length=V'.bU.c8.length:=by simp[HV.bU]
   have:=hwd.2;rw[<-hV2]at this;omega
  ·rcases hex j hx with hx|hx
   ·exact hns j hj hx
   ·have:=KS hs hj;omega
 ·have e3:=fo hlt;have e4:k=L.length:=Om
  rw[e4,ZX,mO]at ha;cases ha;refine Rs (A5 t0 t11 t12 t13 e3) ?_;exact⟨g',V',rfl,o,rfl,w,Om⟩
end
def Jz:List (By×By×Int):=[
 ([116,97,112,101,32,97,32,49,32,49,48],[100,111,110,101,32,49],0),
 ([116,97,112,101,32,98,32,53,32,49,48,48],[100,111,110,101,32,50],0),
 ([108,105,110,101,32,108,49,32,53,32,50],[100,111,110,101,32,51],0),
 ([115,104,111,116,32,115,49,32,108,49,32,97,32,54],[100,111,110,101,32,52],0),
 ([115,104,111,116,32,115,50,32,108,49,32,98,32,55],[100,111,110,101,32,53],0),
 ([99,111,112,121,32,97,32,98,32,56],[100,111,110,101,32,54],0),
 ([116,97,112,101,115,32,115,49],[97,32,98],0),
 ([99,111,112,121,32,97,32,98,32,49,50],[],30),
 ([119,97,110,116,32,108,49],[50,32,50,32,111,112,101,110],0),
 ([97,99,99,101,112,116,32,108,49,32,57],[100,111,110,101,32,55],0),
 ([115,104,111,116,32,115,51,32,108,49,32,98,32,57],[],23),
 ([115,111,117,114,99,101,32,109,49,32,108,49,32,57],[100,111,110,101,32,56],0),
 ([109,111,100,117,108,101,32,109,50,32,109,49,32,57,32,50],[100,111,110,101,32,57],0),
 ([109,111,100,117,108,101,32,109,51,32,109,50,32,57,32,51],[100,111,110,101,32,49,48],0),
 ([109,111,100,117,108,101,32,109,52,32,109,49,32,57,32,51],[],2),
 ([109,101,114,103,101,32,109,52,32,109,49,32,109,50,32,57],[],2),
 ([114,117,110,32,106,49,32,109,51,32,49,48,32,51],[100,111,110,101,32,49,49],0),
 ([116,105,108,101,32,106,49,32,49,48,32,50,32,55],[100,111,110,101,32,49,50],0),
 ([116,105,108,101,32,106,49,32,49,48,32,48,32,53],[100,111,110,101,32,49,51],0),
 ([108,101,102,116,32,106,49],[49],0),
 ([102,97,105,108,32,106,49,32,49,49,32,50],[100,111,110,101,32,49,52],0),
 ([108,101,102,116,32,106,49],[49,32,50],0),
 ([112,105,99,116,117,114,101,32,112,49,32,106,49,32,49,49],[],32),
 ([116,105,108,101,32,106,49,32,49,49,32,49,32,54],[100,111,110,101,32,49,53],0),
 ([116,105,108,101,32,106,49,32,49,49,32,50,32,55],[100,111,110,101,32,49,54],0),
 ([112,105,99,116,117,114,101,32,112,49,32,106,49,32,49,50],[100,111,110,101,32,49,55],0),
 ([102,114,111,109,32,112,49],[115,49,32,115,50],0),
 ([108,105,110,101,115,32,109,51],[108,49],0),
 ([117,110,115,97,102,101],[110,111,110,101],0),
 ([114,101,108,101,97,115,101,32,112,49,32,49,50],[100,111,110,101,32,49,56],0),
 ([117,110,100,111],[],21),
 ([114,101,108,101,97,115,101,100],[112,49,32,53,50,57,49,55,52],0)]
def uN:hO:=(mO hO.zero Jz).getD hO.zero
set_option maxRecDepth 100000 in
def ME:(mO hO.zero Jz).isSome=true:=by decide+kernel
set_option maxRecDepth 100000 in
def IT:uN.c8.length=18:=by decide+kernel
set_option maxRecDepth 100000 in
def CX:gW (uN.c8.take 5) [115,49] 12=(false,0):=by decide+kernel
set_option maxRecDepth 100000 in
def CW:gW uN.c8 [115,49] 105=(true,0):=by decide+kernel
set_option maxRecDepth 100000 in
def IN:fB uN.c8 106=([[115,49],[115,50]],0):=by decide+kernel
set_option maxRecDepth 100000 in
def Fj:yU uN.c8 [109,51]=([[109,49],[109,50],[109,51]],0):=by decide+kernel
set_option maxRecDepth 100000 in
def IU:EK [5,6,7]=(529174,0):=by decide+kernel
set_option maxRecDepth 100000 in
def wF:(mX uN.c8 [108,49]).1.length=8/\(mX uN.c8 [108,49]).2=0:=by decide+kernel
set_option maxRecDepth 100000 in
def IS:(vJ uN.c8).length<=100000:=by decide+kernel
set_option maxRecDepth 100000 in
def IQ:(lE (vJ uN.c8++[49])).2.2=28/\(lE (vJ uN.c8++[49])).1.length=18/\(lE (vJ uN.c8++[49])).2.1=(vJ uN.c8).length:=by decide+kernel
set_option maxRecDepth 100000 in
def IP:nH [49,49]=[48,49,51,49,53,56,49]:=by decide+kernel
def ze{h c N}:mN .Nh (.slice h.length 0 1 1) (λb=>(h++[ak.cells [.int .u8 c] true true])[b]?) N=some (.str [UInt8.ofNat c.toNat],.au):=by
 simp only[mN,fg,Zi,a8];rfl
def y8{n}(h0:0<=n)(h1:n<10):UInt8.ofNat (IntKind.u8.wrap (IntKind.i64.wrap (48+n))).toNat=UInt8.ofNat (48+n.toNat):=by
 rw[bu Om Om,G9 Om Om];congr 1;omega
section
variable {P:Program}(T:fp P)
include T
set_option maxRecDepth 10000 in
def r197:∀{k}{n}{h},0<=n->n<10^(k+1)->k<=15->ay P 197 [.i n] h (λv _=>v=.str (jM n)):=by
 intro k
 induction k with
 |zero=>
  intro n h h0 h1 _;refine .of T.mix T.c197 ?_;unfold fn197 gA;have h10:n<10:=by simpa using h1
  have d0:decide (n<0)=false:=YS Om;exact Qv
 |succ k ih=>
  intro n h h0 h1 hk;refine .of T.mix T.c197 ?_;unfold fn197 gA;have d0:decide (n<0)=false:=YS Om;by_cases h10:n<10
  ·exact Qv
  ·have d1:decide (n<10)=false:=YS h10;have hb:n<=10^17:=by
    have:(10:Int)^(k+1+1)<=10^17:=by
     have:=Nat.pow_le_pow_right (n:=10) De (show k+1+1<=17 by omega)
     exact_mod_cast this
    omega
   have eq:n.tdiv 10=n / 10:=Int.tdiv_eq_ediv_of_nonneg h0;have em:n.tmod 10=n%10:=Int.tmod_eq_emod_of_nonneg h0;have w1:IntKind.i64.wrap (n / 10)=n / 10:=bu Om Om;have bq:eo .quo (.i n) (.i 10)=some (.i (n / 10)):=by rw[E5 De,eq,w1]
   have bm:eo .rem (.i n) (.i 10)=some (.i (n%10)):=by rw[oG De,em]
   refine Ws (A4 @d0 @d1 @bq @bm) ?_;refine WF.ce T.c197 (ih Om (by rw[Int.pow_succ]at h1;omega) Om) λg1=>?_
   have hd:=ml (k:=k) (u:=(n / 10).toNat) (by
    have h2:n / 10<10^(k+1):=by rw[Int.pow_succ]at h1;omega
    have h3:(((n / 10).toNat:Nat):Int)<((10^(k+1):Nat):Int):=by rw[Int.toNat_of_nonneg Om];exact_mod_cast h2
    exact_mod_cast h3)
   have bc:∀{c:UInt8},eo .add (.str (jM (n / 10))) (.str [c])=some (.str (jM (n / 10)++[c])):=jN (by rw[kL];simp;omega);refine Ws (A5 @bq @bm @uI @ze @bc) ?_;rw[y8 Om Om,kL,kL,Lib.decDigits.eq_def n.toNat,dif_neg Om];congr 3
   ·omega
   ·congr 2;omega
def r108{k n h}(h0:0<=n)(h1:n<10^(k+1))(hk:k<=15):ay P 108 [.i n] h (λv _=>v=.str (jM n)):=by
 refine .of T.mix T.c108 ?_;unfold fn108 gA;refine Wn ?_;refine WF.ce T.c197 (r197 T h0 h1 hk) λg=>?_
 exact Wn Tv
set_option maxRecDepth 10000 in
def r72{h}(s:By)(hs:s.length<=2^40):ay P 72 [.str s] h (λv _=>v=.str (nH s)):=by
 refine .kU 28 T.mix T.c72 ?_;intro ts hlen t0;unfold fn72 gA;refine Rs t0 ?_;refine WL.inv T.mix (λn ts' h'=>∃k:Nat,k<=s.length/\n=s.length-k/\h' =h/\ts'.length=28/\slot ts' 0=.str s/\slot ts' 3=.i (iP (s.take k))/\slot ts' 4=.i k) s.length
  ⟨0,Om,rfl,rfl,(Sq t0),(Sq t0),gM,gM⟩ ?_
 rintro _ ts' hz ⟨k,hk,rfl,hh,S3,u0,u3,u4⟩;rw[hh];clear hh hz;clear hlen t0;have hlen:=S3;clear S3;by_cases hlt:k<s.length
 ·have e3:=ee hlt;have hb:=nI (s.take k);have hcn:=UInt8.toNat_lt s[k];have w1:IntKind.i64.wrap (339*iP (s.take k))=339*iP (s.take k):=bu Om Om;have w2:IntKind.i64.wrap (s[k].toNat:Int)=(s[k].toNat:Int):=bu Om Om;have w3:IntKind.i64.wrap (339*iP (s.take k)+(s[k].toNat:Int))=339*iP (s.take k)+(s[k].toNat:Int):=bu Om Om;have er:=oG (k:=.i64) (a:=339*iP (s.take k)+(s[k].toNat:Int)) (b:=9999749) De;rw[<-uY,<-mU hlt]at er
  repeat (first|simp (config:={maxSteps:=1000000}) only[aQ,aT,bo,bp,reduceAdd,reduceMul,reduceLeDiff,reduceEqDiff,bz,hlen,Zf,Zi,u0,u3,u4,e3,jQ hlt,w1,w2,w3,er,wrapN (show k+1<2^63 by omega)]|simp (config:={maxSteps:=1000000}) (disch:=first|(simp only[YP,YV,YX]<;>omega)|rfl|omega|fail) only[fc,aQ,aT,bo,bp,reduceAdd,reduceMul,reduceLeDiff,reduceEqDiff,bz,hlen,Zf,Zi,u0,u3,u4,e3,jQ hlt,w1,w2,w3,er,wrapN (show k+1<2^63 by omega)])
  exact JY
 ·have e3:=fo hlt;have ek:k=s.length:=Om
  rw[ek,ZA]at u3;have hb:=nI s;have hl:=tR s;refine Rs (A4 @u0 @u3 @u4 e3) ?_;refine WF.ce T.c108 (r108 T (k:=7) hb.1 Om Om) λg=>?_
  refine Rs @u0 ?_;generalize hd:jM (iP s)=d at hl;have hT:nH s=List.replicate (7-d.length) 48++d:=by unfold nH;rw[hd]
  refine WL.inv T.mix (λn ts' h'=>∃j:Nat,d.length+j<=7/\n=7-(d.length+j)/\Ext h h'/\ts'.length=28/\slot ts' 5=.str (List.replicate j 48++d)) (7-d.length)
   ⟨0,Om,rfl,Xx,(Sq @u0),gM⟩ ?_
  rintro _ U1 _ ⟨j,hj,rfl,⟨g2,rfl⟩,VB,v5⟩;clear hlen;have hlen:=VB;by_cases h7:d.length+j<7
  ·have e7:decide (((List.replicate j (48:UInt8)++d).length:Int)<7)=true:=YW (by rw[YP,Z4];omega);have hbc:([48] :By).length+(List.replicate j (48:UInt8)++d).length<2^62:=by rw[YP,Z4];simp only[YV,YX];omega
   have bc:=jN hbc;refine Rs (A3 @v5 e7 @bc) ?_;exact⟨7-(d.length+(j+1)),Om,j+1,Om,rfl,rfl⟩
  ·have e7:decide (((List.replicate j (48:UInt8)++d).length:Int)<7)=false:=YS (by rw[YP,Z4];omega);have ej:j=7-d.length:=Om
   refine Rs (A2 @v5 e7) ?_;rw[hT,ej]
end
def Jy(k:Nat):ai:=(fn15).body.dr k
def Fh(k:Nat):ai:=(Jy k).hd
def MD:fn15=⟨158,0,[(0,none)],.seq (Fh 0) (.seq (Fh 1) (.seq (Fh 2) (Jy 3)))⟩:=rfl
def vT{h:ah}{M:List (By)}:aH (h++[ak.cells (M.map ao).flatten true true]) (.slice h.length 0 (M.map ao).length 1) 1 (M.map ao):=(Fr.push (es:=1) (N:=0) (Zw _) (M.map ao) (by simp[ao])).ba
section
variable {P:Program}(T:fp P) {h:ah}
include T
omit T in
theorem Fi:mO hO.zero Jz=some uN:=by
 have:=ME;unfold uN;generalize mO hO.zero Jz=o at this ⊢;cases o with
 |none=>cases this
 |some x=>rfl
def MJ{B W V b}(he:Ext B W)(o:cF B.length W b V)(w:kO V.bU)(gl:Gl B)(pw:Pw B)(X:C9 P)(Z:qn P){s L}(hs:aH W s 3 (L.map sZ))(hns:∀j,sB s=some j->some j∉V.ex b)
  (hlL:V.c8.length+L.length<=1000) (bU:∀x∈L,x.1.length<=2^36) {H'}(ha:mO V.bU L=some H'):
  dm P 71 [.ptr b 0,s] W (λv k=>v=.bool true/\∃g' V',k=B++g'/\cF B.length (B++g') b V'/\V'.bU=H'/\kO V'.bU/\V'.c8.length<=1000):=by
 obtain⟨g,rfl⟩:=he;exact Rl T o w gl pw X Z hs hns hlL bU ha
def P8(X:C9 P)(Z:qn P){W:ah}(gl:Gl W)(pw:Pw W){V:HV}{b:Nat}(o:zt W b V)(w:kO V.bU)(hl:V.c8.length<=1000)(hV:V.bU=uN){ts:TS}(hlen:ts.length=158)(t1:slot ts 1=.ptr b 0)(he:Ext h W):
  WC P bL (Jy 3) [] ts W (FQ [(0,none)] λv k=>Ext h k/\v=.bool true):=by
 unfold Jy fn15 gA;simp only[ai.j,ai.s,ai.r,ai.dr,ai.tl,ai.hd];refine Rs t1 ?_;refine WF.res T.c44 (r44 T o w hl) ?_;rintro sv g1 ⟨L,hL,oL⟩;rw[hV]at hL;have Xg:L.length=18:=by have:=Zz List.length hL;rw[YY,IT]at this;exact this
 have hsh:∀x∈L,x.ev.names.length<=2^30/\x.ev.cB.length<=2^30:=λx hx=>by
  obtain⟨d,we⟩:=w.ev x.ev (by rw[hV,<-hL];exact Zo hx);have h3:(bK d).length<=3/\cC d<=3:=by cases d<;>decide
  have:=we.nl;have:=we.vl;exact⟨Om,Om⟩
 have sh:uO L:=⟨Om,hsh⟩;have d18:decide ((L.length:Int)≠18)=false:=YS (λz=>z Om);obtain⟨s5,e5,h5⟩:=oL.sl.Dl (lo:=none) (hi:=some (.i 5)) (l:=0) (u:=5) (iF (k:=5) Om);have h5':aH (W++g1) s5 5 ((L.take 5).map EV.row):=h5;have o5:dZ (W++g1) (L.take 5) s5:=⟨h5',λx hx=>oL.all x (ZW hx)⟩;have sh5:uO (L.take 5):=⟨by rw[ZR];omega,λx hx=>hsh x (ZW hx)⟩;have m5:(L.take 5).map EV.ev=uN.c8.take 5:=by rw[List.map_take,hL]
 refine Rs (A4 t1 oL.sl.aJ @d18 e5) ?_;refine WF.ce T.c16 (r16 T o5 sh5 (gl.ext Xx) [115,49] 12) λg2=>?_
 rw[m5,CX];refine Rs t1 ?_;refine WF.ce T.c16 (r16 T (oL.ext Xx) sh (gl.ext Xx) [115,49] 105) λg3=>?_
 rw[hL,CW];refine Rs t1 ?_;refine WF.res T.c17 (r17 T (oL.ext Xx) sh (gl.ext Xx) 106) ?_;rintro _ g4 ⟨su,rfl,hu⟩;rw[hL,IN]at hu ⊢;refine Rs t1 ?_;refine WF.res T.c51 (r51 T (oL.ext Xx) sh (gl.ext Xx) [109,51]) ?_;rintro _ g5 ⟨sn,rfl,hn⟩;rw[hL,Fj]at hn ⊢;refine Rs t1 ?_;refine WF.ce T.c27 (r27 T (cj [5,6,7]) De) λg6=>?_
 rw[IU];refine Rs t1 ?_;refine WF.res T.c26 (r26 T (oL.ext Xx) sh (gl.ext Xx) [108,49]) ?_;rintro _ g7 ⟨ss,Ls,rfl,os,hLs⟩;rw[hL]at hLs ⊢;have hLsl:Ls.length=8:=by have:=Zz List.length hLs;rw[YY,wF.1]at this;exact this
 rw[wF.2];refine Rs t1 ?_;refine WF.ce T.c45 (r45 T Z (pw.ext Xx) (o.ext Xx) w hl) λg8=>?_
 rw[hV];have hlg:=IS;have hrc:=IQ;generalize vJ uN.c8=lg at hlg hrc ⊢;have bc:=jN (show lg.length+([49] :By).length<2^62 by simp only[YV,YX];omega);refine Rs (A2 t1 @bc) ?_;refine WF.res T.c37 (r37 T X Z (pw.ext Xx) (lg++[49]) (by rw[YP];simp only[YV,YX];omega)) ?_;rintro _ g9 ⟨Lr,sr,hLr,rfl,fr,-⟩;have hLrl:Lr.length=18:=by have:=Zz List.length hLr;rw[YY,hrc.2.1]at this;exact this
 rw[hrc.1,hrc.2.2];have d8:decide ((Ls.length:Int)=8)=true:=YW Om;have d19:decide ((Lr.length:Int)=18)=true:=YW Om;have wz:IntKind.i64.wrap ((0:Int)+0)=0:=rfl;have z0:decide ((0:Int)=0)=true:=rfl;refine Rs (A5 t1 @wz @z0 @Zq @Zl) ?_;refine WF.res T.c25 (r25 T (L:=[[115,49],[115,50]]) (M:=[[115,49],[115,50]]) ?hu (vT (M:=[[115,49],[115,50]])) De De) ?_
 case hu=>exact hu.ext Xx
 rintro _ k1 rfl;have q1:decide (([[115,49],[115,50]] :List (By))=[[115,49],[115,50]])=true:=rfl;have q2:decide (([[109,49],[109,50],[109,51]] :List (By))=[[109,49],[109,50],[109,51]])=true:=rfl;rw[q1];refine Rs (A2 t1 @Zl) ?_;refine WF.res T.c25 (r25 T (L:=[[109,49],[109,50],[109,51]]) (M:=[[109,49],[109,50],[109,51]]) ?hn (vT (M:=[[109,49],[109,50],[109,51]])) De De) ?_
 case hn=>exact hn.ext Xx
 rintro _ k2 rfl;rw[q2];have q3:decide ((529174:Int)=529174)=true:=rfl;have q4:decide ((28:Int)=28)=true:=rfl;have q5:decide ((lg.length:Int)=(lg.length:Int))=true:=YW rfl;refine Rs (A9 t1 q3 q4 q5 @d8 @d19 os.sl.aJ fr.ba.aJ @Zl) ?_;refine WF.ce T.c72 (r72 T [49,49] De) λk3=>?_
 have q6:decide (([48,49,51,49,53,56,49] :By)=[48,49,51,49,53,56,49])=true:=YW rfl;rw[IP];refine Rs (A3 t1 q6 @Zl) ?_;exact⟨he.trans Xx,trivial⟩
def r15(X:C9 P)(Z:qn P)(gl:Gl h)(pw:Pw h):ay P 15 [] h (λv _=>v=.bool true):=by
 refine .of T.mix (abq T.c15 (Zz some MD)) ?_;obtain⟨ts,RG⟩:∃ts,ts=aR 158 []:=⟨_,rfl⟩;have hlen:ts.length=158:=by rw[RG];rfl
 obtain⟨RR,SJ⟩:∃RR,RR=Jy 3:=⟨_,rfl⟩;show WC P bL _ [] (aR 158 []) h (FQ _ _);rw[<-RG,<-SJ];clear RG;unfold Fh Jy fn15 gA;simp only[ai.j,ai.s,ai.r,ai.dr,ai.tl,ai.hd];refine Rs @hlen ?_;refine WF.res T.c70 (r70 T) ?_;rintro _ g0 ⟨rfl,hg⟩;have hg:g0=[.b [.af,.af,.af]]:=aaK hg;subst hg;refine Rs @hlen ?_;refine WF.gen T.c71 (MJ T (B:=h) (V:=V0) (b:=h.length) (L:=Jz) (H':=uN) Xx (MW.app _) kO.zero gl pw X Z (Fr.push (N:=0) (h:=h++[ak.b [.af,.af,.af]]) (es:=3) (Zw _) (Jz.map sZ) (λx hx=>by obtain⟨y,_,rfl⟩:=Zv.1 hx;rfl)).ba (λj hj hx=>by
  have:=MX j hx;have e:(h++[ak.b [.af,.af,.af]]).length=j:=ZU hj;rw[YP]at e;simp at e;omega) De De Fi) ?_
 rintro _ _ ⟨rfl,g',V',rfl,oV,hV,wV,hVl⟩;refine Rs (A2 @hlen @Zg) ?_;rw[SJ];exact P8 T X Z (gl.ext ⟨_,rfl⟩) (pw.ext ⟨_,rfl⟩) oV.rd wV hVl hV (Sq @hlen) (Sq @hlen) ⟨_,rfl⟩
end
def xV:Go.Proofs.Tryz.prog.globals.size=9:=by kernel_rfl
def ED:EE Go.Proofs.Tryz.prog 2=20:=by kernel_rfl
open Go.RowKit in
def Ew{h:ah}{n:Int}(h0:-9223372036854775808<=n)(h1:n<=9223372036854775807){mu tl:Bool}(hb:h[2]? =some (.cells (Lib.pow10Tab.map (AV.int .u64)) mu tl)):
  lP Go.Proofs.Tryz.prog 113 [.int .i64 n] h (.str (Lib.itoa n)) h:=by
 intro m w vs hr ha;obtain⟨v,vs1,rfl,hv,hr1⟩:=aO.1 ha;rw[bE]at hr1;subst hr1;rw[VR]at hv;subst hv;obtain⟨e,he,hcb,hd,-,ep⟩:=hr.fX 2 (by rw[xV];omega);obtain⟨cc,el,fz,hw,⟨hle,Up,hsz2⟩,RP,-,-⟩:=hr.dR 2 e _ he hb;have htab:Lib.TabIs Go.Proofs.Tryz.prog w "internal/strconv.uint64pow10" .u64 Lib.pow10Tab:=by
  unfold Lib.TabIs World.var?;rw[Go.Proofs.Tryz.yW.m17];show(match w.heap[2]? with|some (.cells cs _ _)=>some cs|_=>none)=_;rw[hcb]at hw;rw[hw];have h20:cc.size=20:=by rw[hsz2,ep,ED]
  refine Zz some (Array.ext_getElem? λi=>?_);by_cases hi:i<20
  ·have hl:i<Lib.pow10Tab.length:=by rw[Lib.pow10Tab_length];exact hi
   obtain⟨_,cv,TQ,RK⟩:=RP i (.int .u64 Lib.pow10Tab[i]) (by rw[aac,YU hl];rfl);rw[VR]at RK;rw[hd,ZN]at TQ;rw[TQ,RK,aaq,aac,YU hl];rfl
  ·rw[aas Om,aas (by rw[List.size_toArray,YY,Lib.pow10Tab_length];omega)]
 refine(Go.Proofs.Any.strconv_Itoa Go.Proofs.Tryz.yW n h0 h1 w htab).mono ?_;rintro e' w' ⟨rfl,k,os,rfl⟩;have hh:∀i,i<w.heap.size->(Go.Sort.grow (w.drewN k) os).heap[i]? =w.heap[i]? :=λi hi=>by
  show(w.heap++os)[i]? =_;rw[Array.getElem?_append_left hi]
 have hs:w.heap.size<=(Go.Sort.grow (w.drewN k) os).heap.size:=by
  show w.heap.size<=(w.heap++os).size;simp
 exact⟨_,m,rfl,rfl,⟨hr.cK,λb' e' k' a1 a2=>(hr.dR b' e' k' a1 a2).heap (hh _ (hr.lt b' e' a1)),hr.sep,hr.fX,λb' e' a1=>ZQ (hr.lt b' e' a1) hs⟩,
  ⟨λ_ _=>rfl,Y9 _,λb' e' a1 a2=>absurd (hr.cK b' e' a2) Om,λ_ _ x=>x,hs,rfl,rfl,rfl,λi hi _=>hh i hi⟩⟩
theorem sO:∀xs:List (By),(xs.map λx=>[AV.str x]).flatten=xs.map AV.str
 |[]=>rfl
 |x::xs=>by rw[ZP,Z9,sO xs];rfl
def aH.inv{h:ah}{b o n e es:Nat}{cs:List (List AV)}(hs:aH h (.slice b o n e) es cs):n=cs.length/\∃c mu tl,h[b]? =some (.cells c mu tl)/\(c.drop o).take (cs.length*es)=cs.flatten:=by
 generalize hx:AV.slice b o n e=x at hs;cases hs with
 |nil=>cases hx
 |mk hb hf ho he=>cases hx;exact⟨rfl,_,_,_,hb,hf⟩
open Go.RowKit in
def Eu{h:ah}{s:AV}{sep:By}{xs:List (By)}(hs:aH h s 1 (xs.map λx=>[AV.str x]))(hl:(Lib.join xs sep).length<=140737488355328/\xs.length<=140737488355328):lP Go.Proofs.Tryz.prog 114 [s,.str sep] h (.str (Lib.join xs sep)) h:=by
 intro m w vs hr hargs;obtain⟨v1,vs1,rfl,V6,hr1⟩:=aO.1 hargs;obtain⟨v2,vs2,rfl,Vo,SY⟩:=aO.1 hr1;rw[bE]at SY;subst SY;rw[VR]at Vo;subst Vo;have fin:∀e w',(e=.returned (.string ⟨(Lib.join xs sep).toArray⟩)/\Below w.heap.size w w')->Rel Go.Proofs.Tryz.prog m h w (.str (Lib.join xs sep)) h e w':=by
  rintro e w' ⟨rfl,hb⟩;exact⟨_,m,rfl,rfl,⟨hr.cK,λb e k h1 h2=>(hr.dR b e k h1 h2).heap (hb.block _ (hr.lt b e h1)),hr.sep,hr.fX,λb e h1=>ZQ (hr.lt b e h1) hb.size⟩,
   ⟨λ_ _=>rfl,Y9 _,λb e h1 h2=>absurd (hr.cK b e h2) Om,λ_ _ h=>h,hb.size,hb.os,hb.output,hb.tape,λi hi _=>hb.block i hi⟩⟩
 have zero:xs=[]->∀(a:Option Addr) (c:Nat),Calls Go.Proofs.Tryz.prog 114 #[.slice a 0 c,.string ⟨⟨sep⟩⟩] w (Rel Go.Proofs.Tryz.prog m h w (.str (Lib.join xs sep)) h):=λhx a c=>by
  refine(Go.Proofs.Tryz.strings_Join_none a c ⟨⟨sep⟩⟩ w).mono λe w' ⟨he,hw⟩=>fin e w' ⟨?_,hw▸Below.refl _ _⟩
  rw[he,hx];rfl
 have hlen:=hs.aJ (λ_=>none);cases s with
 |af=>
  rw[VR]at V6;subst V6;simp only[Go.Abs.jh,Zi,Zu]at hlen;exact zero (ZZ.1 hlen.symm) none 0
 |slice b o n es=>
  simp only[Go.Abs.jh,Zi,Zu]at hlen;subst hlen;rw[VR]at V6;obtain⟨ent,ca,cap,he,rfl,hcap,Sp,ep⟩:=V6;by_cases hz:xs.length=0
  ·have TJ:=ZZ.1 hz;have:=zero TJ (some ca) cap;rw[hz];exact this
  ·have hca':=Sp Om;subst hca';generalize TB:xs.map (λx=>[AV.str x])=cs at hs;have hcl:cs.length=xs.length:=by rw[<-TB];simp
   obtain⟨_,c,mu,tl,hb,hf⟩:=hs.inv
   ·obtain⟨cc,el,fz,hheap,_,SD,_⟩:=hr.dR b ent _ he hb;have key:=Go.Proofs.Tryz.strings_Join ent.cb (o+ent.d) cap (xs.map λl=>⟨⟨l⟩⟩) ⟨⟨sep⟩⟩ w ?_ (hr.lt b ent he) (by rw[YY];exact hl.2) (by rw[YY];omega) ?_
    ·rw[YY]at key;refine key.mono λe w' ⟨he,hw⟩=>fin e w' ⟨?_,hw⟩
     rw[he,aaA];simp[abe]
    ·intro j x hx;rw[aac,Zk]at hx;obtain⟨l,RT,rfl⟩:=hx;have hj:j<xs.length:=(YQ.1 RT).1;have XG:cs.flatten[j]? =some (.str l):=by
      rw[<-TB];have:=sO xs;rw[this,aac,RT];rfl
     rw[<-hf,List.getElem?_take,Zb Om,aa9]at XG;obtain⟨_,cv,TQ,RK⟩:=SD _ _ XG;rw[VR]at RK;subst RK;simp only[World.cell?,hheap,Option.isSome_none,ZM,Zf];rw[show o+ent.d+j=ent.d+(o+j) by omega];exact TQ
    ·rw[aaA]
     simpa [abe]using hl.1
 |_=>cases hs
open Go.RowKit in
def sW{P:Program}{m:b9}{h:ah}{w:World}(hr:HR P m h w){a:AV}{v:Value}{e:Ending}{w':World}(hv:VR m a v)(he:e=.returned v)(hb:Below w.heap.size w w'):Rel P m h w a h e w':=
 ⟨v,m,he,hv,⟨hr.cK,λb e k h1 h2=>(hr.dR b e k h1 h2).heap (hb.block _ (hr.lt b e h1)),hr.sep,hr.fX,λb e h1=>ZQ (hr.lt b e h1) hb.size⟩,
  ⟨λ_ _=>rfl,Y9 _,λb e h1 h2=>absurd (hr.cK b e h2) Om,λ_ _ h=>h,hb.size,hb.os,hb.output,hb.tape,λi hi _=>hb.block i hi⟩⟩
theorem qc:∀{s:By}{a:Nat},s.all fe=true->∃n,Lib.decFrom a s=some n/\(n:Int)=s.foldl (λn c=>10*n+((c.toNat:Int)-48)) (a:Int)
 |[],a,_=>⟨a,rfl,rfl⟩
 |c::s,a,h=>by
  simp only[aau,Zx]at h;have hc:=kK.1 h.1;have hd:Lib.digitVal c=some (c.toNat-48):=by unfold Lib.digitVal;rw[Zb hc]
  obtain⟨n,h1,h2⟩:=qc (s:=s) (a:=a*10+(c.toNat-48)) h.2;refine⟨n,by rw[Lib.decFrom,hd];exact h1,?_⟩;rw[h2,abo];congr 1;omega
def CZ{s:By}(h:s.all fe=true)(hn:s≠[]):Lib.atoi s=some (CD s):=by
 obtain⟨n,h1,h2⟩:=qc (a:=0) h;cases s with
 |nil=>exact absurd rfl hn
 |cons c r=>
  have hc:=kK.1 (by simp only[aau,Zx]at h;exact h.1);have n1:(c==45)=false:=by
   exact JQ
  have n2:(c==43)=false:=by
   exact JQ
  rw[Lib.atoi,n1,n2,Y6 De,Y6 De,Lib.decNat,Y6 Si,h1,aaO,h2];rfl
open Go.RowKit in
def Fk{h:ah}{s:By}(hd:s.all fe=true)(hn:s≠[])(hl:s.length<=9):lP Go.Proofs.Tryz.prog 254 [.str s] h (.dM [.int .i64 (CD s),.kE]) h:=by
 intro m w vs hr ha;obtain⟨v,vs1,rfl,hv,hr1⟩:=aO.1 ha;rw[bE]at hr1;subst hr1;rw[VR]at hv;subst hv;refine(Go.Proofs.Any.strconv_Atoi Go.Proofs.Tryz.Ek ⟨⟨s⟩⟩ (CD s) (by show s.length<=18;omega) (CZ hd hn) w).mono ?_;rintro e' w' ⟨rfl,t,rfl⟩;exact sW hr ⟨_,rfl,aO.2 ⟨_,_,rfl,rfl,aO.2 ⟨_,_,rfl,rfl,rfl⟩⟩⟩ rfl (Lib.bytesWorld_below _ _ _)
open Go.RowKit in
def HA{h:ah}{n:Nat}(hn:n<=7):lP Go.Proofs.Tryz.prog 252 [.str [48],.int .i64 (n:Nat)] h (.str (List.replicate n 48)) h:=by
 intro m w vs hr ha;obtain⟨v1,vs1,rfl,V6,hr1⟩:=aO.1 ha;obtain⟨v2,vs2,rfl,Vo,SY⟩:=aO.1 hr1;rw[bE]at SY;subst SY;have V6:v1=.string ⟨⟨[48]⟩⟩:=V6;have Vo:v2=.int .i64 (n:Int):=Vo;subst V6;subst Vo;have hs:(⟨⟨[48]⟩⟩:ByteArray).size=1:=rfl;refine(Go.Proofs.Any.strings_Repeat Go.Proofs.Tryz.El Go.Proofs.Tryz.pg ⟨⟨[48]⟩⟩ n w Om (by rw[hs];omega)).mono ?_;rintro e' w' ⟨rfl,hb⟩;have er:Lib.repeatL [48] n=List.replicate n 48:=by
  have:=Lib.repeatL_replicate 48 1 n;rw[aa3]at this;exact this
 refine sW (v:=.string ⟨(Lib.repeatL [48] n).toArray⟩) hr ?_ rfl hb;show Value.string ⟨(Lib.repeatL [48] n).toArray⟩=.string ⟨⟨List.replicate n 48⟩⟩;rw[er]
def Rj:qn Go.Proofs.Tryz.prog:=by
 refine⟨λh0 h1 w=>?_,λhs hl=>⟨_,[],by rw[Zr];exact Eu hs hl,rfl⟩,λh1 h2 h3=>⟨_,[],by rw[Zr];exact Fk h1 h2 h3,rfl⟩,λh1=>⟨_,[],by rw[Zr];exact HA h1,rfl⟩⟩;obtain⟨mu,tl,hb⟩:=w;exact⟨_,[],by rw[Zr];exact Ew h0 h1 hb,rfl⟩
def Rb:C9 Go.Proofs.Tryz.prog:=
 ⟨run_callFunc_extern Go.Proofs.Tryz.func288 (by kernel_rfl) (by kernel_rfl) (by kernel_rfl) (by kernel_rfl),run_callFunc_extern Go.Proofs.Tryz.func262 (by kernel_rfl) (by kernel_rfl) (by kernel_rfl) (by kernel_rfl)⟩
open Go.ChangeShapes Go.WideShapes Go.Deep
inductive CT where
 |int (k:IntKind)
 |bool
 |str
 |sl (row:List CT)
def lM(P:Program)(f:TypeId->Option (List CT)):List Field->Nat->Option (List CT)
 |[],_=>some []
 |x::r,o=>
  match f x.type with
  |some a=>
   if x.offset=o/\a.length=P.cellsOf x.type then
    match lM P f r (o+a.length)with
    |some b=>some (a++b)
    |none=>none
   else none
  |none=>none
def Ah(P:Program):Nat->TypeId->Option (List CT)
 | 0,_=>none
 |n+1,t=>
  match P.underlying t with
  |some (.int k)=>some [.int k]
  |some .bool=>some [.bool]
  |some .string=>some [.str]
  |some (.slice e)=>
   match Ah P n e with
   |some r=>if r.length=P.cellsOf e/\0<r.length then some [.sl r]else none
   |none=>none
  |some (.struct fs)=>
   match lM P (Ah P n) fs.toList 0 with
   |some r=>if r.length=P.cellsOf t then some r else none
   |none=>none
  |_=>none
mutual
def TY(h:ah):CT->AV->Prop
 |.int k,a=>∃z,a=.int k z/\(Lit.int k z).wf=true
 |.bool,a=>∃b,a=.bool b
 |.str,a=>∃s:By,a=.str s/\s.length<=maxLen
 |.sl r,a=>∃cs:List (List AV),aH h a r.length cs/\cs.length<=maxLen/\∀c∈cs,jn h r c
def jn(h:ah):List CT->List AV->Prop
 |[],l=>l=[]
 |t::ts,l=>∃a l',l=a::l'/\TY h t a/\jn h ts l'
end
mutual
theorem TY.ext{h k}(e:Ext h k):∀{t}{a},TY h t a->TY k t a
 |.int _,a,x=>x
 |.bool,a,x=>x
 |.str,a,x=>x
 |.sl r,a,x=>by
  rw[TY]at x ⊢;obtain⟨cs,h1,h2,h3⟩:=x;exact⟨cs,h1.ext e,h2,λc hc=>jn.ext e (h3 c hc)⟩
theorem jn.ext{h k}(e:Ext h k):∀{ts}{l},jn h ts l->jn k ts l
 |[],l,x=>x
 |t::ts,l,x=>by
  rw[jn]at x ⊢;obtain⟨a,l',h1,h2,h3⟩:=x;exact⟨a,l',h1,TY.ext e h2,jn.ext e h3⟩
end
theorem TY.one{h}:∀{t}{a},TY h t a->a.one=true
 |.int _,a,x=>by rw[TY]at x;obtain⟨z,rfl,_⟩:=x;rfl
 |.bool,a,x=>by rw[TY]at x;obtain⟨z,rfl⟩:=x;rfl
 |.str,a,x=>by rw[TY]at x;obtain⟨z,rfl,_⟩:=x;rfl
 |.sl r,a,x=>by rw[TY]at x;obtain⟨z,h1,_⟩:=x;exact h1.one
theorem jn.one{h}:∀{ts}{l},jn h ts l->l.all AV.one=true
 |[],l,x=>by rw[jn]at x;subst x;rfl
 |t::ts,l,x=>by
  rw[jn]at x;obtain⟨a,l',rfl,h1,h2⟩:=x;rw[aau,h1.one,jn.one h2];rfl
theorem jn.length{h}:∀{ts}{l},jn h ts l->l.length=ts.length
 |[],l,x=>by rw[jn]at x;subst x;rfl
 |t::ts,l,x=>by
  rw[jn]at x;obtain⟨a,l',rfl,h1,h2⟩:=x;rw[YV,YV,jn.length h2]
theorem jn.append{h}:∀{ts us}{l m},jn h ts l->jn h us m->jn h (ts++us) (l++m)
 |[],us,l,m,x,y=>by rw[jn]at x;subst x;exact y
 |t::ts,us,l,m,x,y=>by
  rw[jn]at x;obtain⟨a,l',rfl,h1,h2⟩:=x;show jn h (t:: (ts++us)) (a:: (l'++m));rw[jn];exact⟨a,_,rfl,h1,jn.append h2 y⟩
def gJ(E:List sK):b9:=λb=>E[b]?
def ka(E F:List sK):(gJ E).le (gJ (E++F)):=λb e hb=>by
 unfold gJ at hb ⊢;rw[YT (YQ.1 hb).1];exact hb
structure AW(P:Program)(w:World)(E:List sK)(B:ah):Prop where
 len:E.length=B.length
 own:∀(b:Nat) e,E[b]? =some e->e.own=false/\e.cb<w.heap.size
 dR:∀(b:Nat) e k,E[b]? =some e->B[b]? =some k->BR P (gJ E) w e k/\(k=.dead\/∃c,k=.cells c false false)
 fX:∀g,g<P.globals.size->∃e,E[g]? =some e/\e.cb=g/\e.d=0/\e.own=false/\e.sz=EE P g
variable {P:Program}{w:World}{E:List sK}{B:ah}
def AW.hr(a:AW P w E B):HR P (gJ E) B w where
 cK:=λb e hb=>by rw[<-a.len];exact(YQ.1 hb).1
 dR:=λb e k hb hk=>(a.dR b e k hb hk).1
 sep:=λb1 b2 e1 e2 k1 k2 _ h1 h2 hk1 RJ _=>by
  rcases(a.dR b1 e1 k1 h1 hk1).2 with rfl|⟨c1,rfl⟩
  ·cases k2<;>trivial
  ·rcases(a.dR b2 e2 k2 h2 RJ).2 with rfl|⟨c2,rfl⟩
   ·trivial
   ·exact⟨rfl,rfl,λx=>by cases x⟩
 fX:=a.fX
 lt:=λb e hb=>(a.own b e hb).2
def AW.push(a:AW P w E B){e k}(ho:e.own=false)(hlt:e.cb<w.heap.size)(hb:BR P (gJ E) w e k)(hk:k=.dead\/∃c,k=.cells c false false):AW P w (E++[e]) (B++[k]) where
 len:=by simp[a.len]
 own:=λb e' h=>by
  by_cases hlb:b<E.length
  ·rw[YT hlb]at h;exact a.own b e' h
  ·have:=(YQ.1 h).1;simp at this;have:b=E.length:=Om
   subst this;simp at h;subst h;exact⟨ho,hlt⟩
 dR:=λb e' k' h h'=>by
  by_cases hlb:b<E.length
  ·rw[YT hlb]at h;rw[YT (by rw[<-a.len];exact hlb)]at h';exact⟨(a.dR b e' k' h h').1.mono (ka E [e]),(a.dR b e' k' h h').2⟩
  ·have:=(YQ.1 h).1;simp at this;have Th:b=E.length:=Om
   have hbb:b=B.length:=by rw[Th,a.len]
   rw[Th]at h;rw[hbb]at h';simp at h h';subst h;subst h';exact⟨hb.mono (ka E [e]),hk⟩
 fX:=λg hg=>by
  obtain⟨e',h1,h2⟩:=a.fX g hg;exact⟨e',ka E [e] g e' h1,h2⟩
def Laid(P:Program)(w:World)(E:List sK)(B:ah)(row:List CT)(cs:List Value):Prop:=
 ∃F C ax,AW P w (E++F) (B++C)/\cI (gJ (E++F)) ax cs/\jn (B++C) row ax
def Laid.app{row row2 cs UK}(h1:Laid P w E B row cs)(h2:∀F C,AW P w (E++F) (B++C)->Laid P w (E++F) (B++C) row2 UK):Laid P w E B (row++row2) (cs++UK):=by
 obtain⟨F,C,ax,a1,a2,a3⟩:=h1;obtain⟨F',C',ax',b1,b2,b3⟩:=h2 F C a1;refine⟨F++F',C++C',ax++ax',by rw[<-YR,<-YR];exact b1,?_,?_⟩
 ·rw[<-YR];exact(cI.mono (ka _ _) _ _ a2).append b2
 ·rw[<-YR];exact jn.append (a3.ext ⟨C',rfl⟩) b3
def Cj(a:AW P w E B):Laid P w E B [] []:=⟨[],[],[],by simpa using a,by rw[bE],rfl⟩
def n6(a:AW P w E B){t x v}(hv:VR (gJ E) x v)(ht:TY B t x):Laid P w E B [t] [v]:=
 ⟨[],[],[x],by simpa using a,by simpa using aO.2 ⟨v,[],rfl,hv,by rw[bE]⟩,by
  rw[Zr,jn];exact⟨x,[],rfl,ht,rfl⟩⟩
section
variable {H:Type}{enc:TypeId×Value->H}{base:Nat}{held:Bool}
theorem tq{es:Nat}{r:List CT}{a:Addr}{m:Nat}(row:∀i,i<m->∃cs,w.cells? base (a.add (i*es)) es=some cs/\∀E B,AW P w E B->Laid P w E B r cs):∀(k:Nat) {E:List sK}{B:ah},k<=m->AW P w E B->
  ∃(F:List sK) (C:ah) (rows:List (List AV)) (VL:List Value),AW P w (E++F) (B++C)/\rows.length=k/\cI (gJ (E++F)) rows.flatten VL/\(∀c∈rows,jn (B++C) r c)/\VL.length=k*es/\∀i,i<k*es->w.cell? (a.add i)=VL[i]?
 | 0,E,B,_,aw=>⟨[],[],[],[],by rw[Zr,Zr];exact aw,rfl,rfl,λc hc=>by(cases hc),by rw[aaZ];rfl,λi hi=>by rw[aaZ]at hi;exact absurd hi (Nat.not_lt_zero _)⟩
 |k+1,E,B,hkm,aw=>by
  obtain⟨F,C,rows,VL,h1,h2,h3,h4,h5,h6⟩:=tq row k Om aw;obtain⟨cs,TB,hl⟩:=row k Om;obtain⟨F',C',ax,a1,a2,a3⟩:=hl _ _ h1;obtain⟨_,hlen,SD⟩:=World.cells?_some TB;refine⟨F++F',C++C',rows++[ax],VL++cs,by rw[<-YR,<-YR];exact a1,by rw[YP,h2];rfl,?_,?_,by rw[YP,h5,hlen,aaf],?_⟩
  ·rw[<-YR,aaC];refine(cI.mono (ka _ _) _ _ h3).append ?_;have:[ax].flatten=ax:=Si
   rw[this];exact a2
  ·intro c Wh;rw[<-YR];rcases YZ.1 Wh with hm|hm
   ·exact(h4 c hm).ext ⟨C',rfl⟩
   ·rw[Zm]at hm;subst hm;exact a3
  ·intro i hi;rw[aaf]at hi;by_cases hlt:i<k*es
   ·rw[h6 i hlt,YT Om]
   ·rw[Y7 Om,h5,<-SD (i-k*es) Om,add_add,show k*es+(i-k*es)=i by omega]
theorem p6{f:TypeId->Option (List CT)}{cs:List Value}:∀(l:List Field) (o:Nat) {row:List CT},lM P f l o=some row->
  (∀x∈l,∀a,f x.type=some a->∀E B,AW P w E B->Laid P w E B a ((cs.drop x.offset).take (P.cellsOf x.type)))->∀E B,AW P w E B->Laid P w E B row ((cs.drop o).take row.length)
 |[],o,row,h,_,E,B,aw=>by
  unfold lM at h;cases h;rw[YX,List.take_zero];exact Cj aw
 |x::l,o,row,h,hf,E,B,aw=>by
  unfold lM at h;split at h
  case h_2=>cases h
  rename_i a ha;split at h
  case isFalse=>cases h
  rename_i hc;split at h
  case h_2=>cases h
  rename_i b hb;cases h;have h1:=hf x (ZS ..) a ha E B aw;rw[hc.1,<-hc.2]at h1;rw[YP,List.take_add,aat];exact h1.app λF C aw'=>p6 l _ hb (λy hy=>hf y (ZG _ hy)) _ _ aw'
theorem ji(hz:∃(z:Nat) (cc:Array Value) (el:TypeId) (fz:Nat×Nat),w.heap[z]? =some (Obj.cells cc el fz)):∀(n:Nat) (t:TypeId) (row:List CT),Ah P n t=some row->∀(fuel:Nat) (cs:List Value) (x:DataW H×List MemPlace),
  DataW.trod enc P w base (λ_=>true) held fuel t cs=some x->∀E B,AW P w E B->Laid P w E B row cs
 | 0,t,row,h,_,_,_,_,_,_,_=>by cases h
 |n+1,t,row,h,fuel,cs,x,ht,E,B,aw=>by
  unfold Ah at h;split at h
  ·rename_i k hu;cases h;obtain⟨z,rfl,_,hwf⟩:=DataW.trod_int hu ht;exact n6 aw (x:=.int k z) (by rw[VR]) (by rw[TY];exact⟨z,rfl,hwf⟩)
  ·rename_i hu;cases h;obtain⟨b,rfl,_⟩:=DataW.trod_bool hu ht;exact n6 aw (x:=.bool b) (by rw[VR]) (by rw[TY];exact⟨b,rfl⟩)
  ·rename_i hu;cases h;obtain⟨s,rfl,_,hs⟩:=DataW.trod_string hu ht;refine n6 aw (x:=.str s.data.toList) (by rw[VR]) (by rw[TY];exact⟨_,rfl,by simpa using hs⟩)
  ·rename_i e hu;split at h
   case h_2=>cases h
   rename_i r hr;split at h
   case isFalse=>cases h
   rename_i hc;cases h;obtain⟨Tl,hpos⟩:=hc;rcases open_slice hu ht with⟨rfl,_⟩|⟨a,len,cap,m,n',D,Pl,rfl,hb,hl,hm,WD,_,hx⟩
   ·exact n6 aw (x:=.af) (by rw[VR]) (by rw[TY];exact⟨[],.nil,Zw _,λc hc=>by cases hc⟩)
   simp only[Zi]at WD;subst WD;rw[<-Tl]at hx;by_cases hcap:m=0
   ·have R2:len=0:=Om
    subst R2;subst hcap;obtain⟨z,cc,el,fz,Yf⟩:=hz;have h0lt:z<w.heap.size:=(Ze.1 Yf).1;have hbr:BR P (gJ E) w ⟨z,0,cc.size,false⟩ (.cells [] false false):=
     ⟨cc,el,fz,Yf,⟨Zw _,Zw _,rfl⟩,λi x hx=>by(rw[List.getElem?_nil]at hx;cases hx),⟨λx=>absurd x aaU,λx=>by rcases x with x|x<;>exact absurd x aaU⟩⟩
    have aw2:=aw.push (e:=⟨z,0,cc.size,false⟩) (k:=.cells [] false false) rfl h0lt hbr (.inr ⟨[],rfl⟩);refine⟨[⟨z,0,cc.size,false⟩],[.cells [] false false],[.slice B.length 0 0 r.length],aw2,?_,?_⟩
    ·refine aO.2 ⟨_,[],rfl,?_,by rw[bE]⟩;rw[VR];exact⟨⟨z,0,cc.size,false⟩,a,0,by unfold gJ;rw[<-aw.len];simp,rfl,Y9 _,λx=>absurd x Om,by rw[aaZ];exact Zw _⟩
    ·rw[jn];refine⟨_,[],rfl,?_,by rw[jn]⟩;rw[TY];refine⟨[],?_,Zw _,λc hc=>by cases hc⟩;exact aH.mk (cs:=[]) (b:=B.length) (o:=0) (c:=[]) (mu:=false) (tl:=false) Si Si Si (λx hx=>by cases hx)
   ·obtain⟨cs0,h00,_⟩:=hx 0 Om;obtain⟨csl,T3,_⟩:=hx (m-1) Om;obtain⟨_,R2,hc0⟩:=World.cells?_some h00;obtain⟨_,hlenl,hcl⟩:=World.cells?_some T3;have SI:=hc0 0 hpos;have hlast:=hcl (r.length-1) Om;rw[add_add]at hlast;rw[add_add,aaZ,abl]at SI;have ha0:a.add 0=a:=by unfold Addr.add;simp
    rw[ha0,YU Om]at SI;unfold World.cell? at SI;split at SI
    case h_2=>cases SI
    rename_i cc el fz Uc;split at SI
    ·cases SI
    rename_i hspot;have VO:a=⟨a.block,a.off,none⟩:=by
     cases a with
     |mk b o s=>cases s with
      |none=>rfl
      |some s=>exact absurd rfl hspot
    have Ux:∀i,a.add i=⟨a.block,a.off+i,none⟩:=λi=>by
     unfold Addr.add;by_cases hi:i=0
     ·subst hi;rw[Zb rfl];exact VO
     ·rw[Y6 hi]
    have UJ:∀i,w.cell? (a.add i)=cc[a.off+i]? :=λi=>by
     rw[Ux];unfold World.cell?;simp only[Uc,Option.isSome_none,ZM,Zf]
    have hmr:(m-1)*r.length+(r.length-1)+1=m*r.length:=by
     obtain⟨m',rfl⟩:∃m',m=m'+1:=⟨m-1,Om⟩;rw[aaf];simp only[Nat.add_sub_cancel];omega
    have ep:a.off+m*r.length<=cc.size:=by
     rw[UJ,YU Om]at hlast;have:=(Ze.1 hlast).1;omega
    obtain⟨F,C,rows,VL,h1,h2,h3,h4,h5,h6⟩:=tq (P:=P) (w:=w) (base:=base) (es:=r.length) (r:=r) (a:=a) (m:=m)
     (λi hi=>by
      obtain⟨cs',q1,q2⟩:=hx i hi;exact⟨cs',q1,λE B aw=>ji hz n e r hr _ _ _ q2 E B aw⟩) len hl aw
    have Sg:rows.flatten.length=len*r.length:=by rw[<-h5,h3.length]
    have hmul:len*r.length<=m*r.length:=Z3 _ hl;have TE:∀c∈rows,c.length=r.length:=λc hc=>(h4 c hc).length
    have hone:∀x∈rows.flatten,x.one=true:=λx hx=>by
     obtain⟨c,hc,V5⟩:=List.mem_flatten.1 hx;exact Zy.1 (h4 c hc).one x V5
    have hlt:a.block<w.heap.size:=(Ze.1 Uc).1;have hbr:BR P (gJ (E++F)) w ⟨a.block,a.off,cc.size,false⟩ (.cells rows.flatten false false):=
     ⟨cc,el,fz,Uc,⟨by rw[Sg];show a.off+_<=_;omega,by rw[Sg];show a.off+_<=cc.size;omega,rfl⟩,λi x hx=>by
       refine⟨hone x (ZT hx),?_⟩;obtain⟨v,hv,RK⟩:=h3.get hx;have hi:i<len*r.length:=by rw[<-Sg];exact(YQ.1 hx).1
       refine⟨v,?_,RK⟩;show cc[a.off+i]? =some v;rw[<-UJ,h6 i hi,hv],⟨λx=>absurd x aaU,λx=>by rcases x with x|x<;>exact absurd x aaU⟩⟩
    have aw2:=h1.push (e:=⟨a.block,a.off,cc.size,false⟩) (k:=.cells rows.flatten false false) rfl hlt hbr (.inr ⟨_,rfl⟩);rw[YR,YR]at aw2;refine⟨F++[⟨a.block,a.off,cc.size,false⟩],C++[.cells rows.flatten false false],[.slice (B++C).length 0 len r.length],aw2,?_,?_⟩
    ·refine aO.2 ⟨_,[],rfl,?_,by rw[bE]⟩;rw[VR];refine⟨⟨a.block,a.off,cc.size,false⟩,a,m,?_,rfl,hl,λ_=>?_,?_⟩
     ·unfold gJ;rw[<-h1.len,<-YR,Y7 (Y9 _),Z2];rfl
     ·show a=⟨a.block,0+a.off,none⟩;rw[ZN];exact VO
     ·show 0+a.off+m*r.length<=cc.size;omega
    ·rw[jn];refine⟨_,[],rfl,?_,by rw[jn]⟩;rw[TY];refine⟨rows,?_,Om,λc hc=>?_⟩
     ·rw[<-h2];refine aH.mk (c:=rows.flatten) (mu:=false) (tl:=false) ?_ ?_ ?_ TE
      ·rw[<-YR,Y7 (Y9 _),Z2];rfl
      ·rw[aag,h2,<-Sg,ZA]
      ·rw[h2,Sg];omega
     ·rw[<-YR];exact(h4 c hc).ext ⟨_,rfl⟩
  ·rename_i fs hu;split at h
   case h_2=>cases h
   rename_i r hr;split at h
   case isFalse=>cases h
   rename_i hc;cases h;obtain⟨xs,n',rfl,rfl,hlen,hxl,hf⟩:=DataW.trod_struct hu ht;have:=p6 (P:=P) (w:=w) (cs:=cs) fs.toList 0 hr (λx hx a ha E B aw=>by
    obtain⟨i,hi⟩:=List.getElem?_of_mem hx;have hi':fs[i]? =some x:=by rw[<-aap];exact hi
    have hlt:i<xs.length:=by rw[hxl];exact(Ze.1 hi').1
    have h1:=hf i x hi';rw[YU hlt]at h1;exact ji hz n x.type a ha _ _ _ h1 E B aw) E B aw
   rw[aag,hc,<-hlen,ZA]at this;exact this
  ·cases h
inductive AT where
 |one (t:CT)
 |agg (r:List CT)
def GJ(P:Program)(e:TypeId):Option CT:=
 match P.underlying e with
 |some (.int k)=>some (.int k)
 |some .string=>some .str
 |_=>none
def IW(P:Program)(n:Nat)(t:TypeId):Option AT:=
 match P.underlying t with
 |some (.struct _)=>
  match Ah P n t with
  |some r=>some (.agg r)
  |none=>none
 |some (.int k)=>some (.one (.int k))
 |some .bool=>some (.one .bool)
 |some .string=>some (.one .str)
 |some (.slice _)=>
  match Ah P n t with
  |some [c]=>some (.one c)
  |_=>none
 |some (.array m e)=>
  match GJ P e with
  |some c=>if P.cellsOf e=1/\P.cellsOf t=m then some (.agg (List.replicate m c))else none
  |none=>none
 |_=>none
def tY{w r b0}{t e:TypeId}{m v}(ht:P.underlying t=some (.array m e))(h:Value.okWide P w r b0 t v):∃cs,v=.agg cs/\cs.size=P.cellsOf t:=by
 simp only[Value.okWide,ht]at h;obtain⟨cs,h1,h2,_⟩:=h;exact⟨cs,h1,h2⟩
theorem te{M B c}:∀(L:List Value),(∀i (hi:i<L.length),∃a,VR M a L[i]/\TY B c a)->∃l:List AV,cI M l L/\jn B (List.replicate L.length c) l
 |[],_=>⟨[],by rw[bE],by rw[YX,abj,jn]⟩
 |v::L,h=>by
  obtain⟨a,e,hz⟩:=h 0 Si;obtain⟨l,h1,h2⟩:=te L λi hi=>h (i+1) (by simpa using hi)
  simp only[List.getElem_cons_zero]at e;refine⟨a::l,aO.2 ⟨_,_,rfl,e,h1⟩,?_⟩;rw[YV,aav,jn];exact⟨_,_,rfl,hz,h2⟩
def tK(P:Program)(n:Nat):List TypeId->Option (List AT)
 |[]=>some []
 |t::ts=>
  match IW P n t,tK P n ts with
  |some a,some l=>some (a::l)
  |_,_=>none
def GO(h:ah):AT->AV->Prop
 |.one t,a=>TY h t a
 |.agg r,a=>∃l,a=.agg l/\jn h r l
theorem GO.ext{h k}(e:Ext h k):∀{t}{a},GO h t a->GO k t a
 |.one _,_,x=>TY.ext e x
 |.agg _,_,⟨l,e1,x⟩=>⟨l,e1,jn.ext e x⟩
def sH(h:ah):List AT->List AV->Prop
 |[],l=>l=[]
 |t::ts,l=>∃a l',l=a::l'/\GO h t a/\sH h ts l'
def Ck(hz:∃(z:Nat) (cc:Array Value) (el:TypeId) (fz:Nat×Nat),w.heap[z]? =some (Obj.cells cc el fz)){n}{t:TypeId}{at'}(h:IW P n t=some at'){v d ps}(ht:DataW.Trod enc P w base (λ_=>true) held t v d ps)
  {r}{b0}(ho:Value.okWide P w r b0 t v) (aw:AW P w E B):∃(F:List sK) (C:ah) (a:AV),AW P w (E++F) (B++C)/\VR (gJ (E++F)) a v/\GO (B++C) at' a:=by
 obtain⟨fuel,ht⟩:=ht;unfold IW at h;split at h
 ·rename_i fs hu;split at h
  case h_2=>cases h
  rename_i r hr;cases h;obtain⟨cs,rfl,_⟩:=okWide_struct hu ho;obtain⟨F,C,ax,h1,h2,h3⟩:=ji hz n t r hr fuel _ _ ht E B aw;refine⟨F,C,.agg ax,h1,?_,ax,rfl,h3⟩;rw[VR];exact⟨_,rfl,h2⟩
 ·rename_i k hu;cases h;obtain⟨z,rfl⟩:=okWide_int hu ho;obtain⟨z',e,_,hwf⟩:=DataW.trod_int hu ht;cases e;exact⟨[],[],.int k z,by rw[Zr,Zr];exact aw,by rw[VR],by show TY _ _ _;rw[TY];exact⟨z,rfl,hwf⟩⟩
 ·rename_i hu;cases h;obtain⟨z,rfl⟩:=okWide_bool hu ho;exact⟨[],[],.bool z,by rw[Zr,Zr];exact aw,by rw[VR],by show TY _ _ _;rw[TY];exact⟨z,rfl⟩⟩
 ·rename_i hu;cases h;obtain⟨s,rfl⟩:=okWide_string hu ho;obtain⟨s',e,_,hs⟩:=DataW.trod_string hu ht;cases e;exact⟨[],[],.str s.data.toList,by rw[Zr,Zr];exact aw,by rw[VR],by show TY _ _ _;rw[TY];exact⟨_,rfl,by simpa using hs⟩⟩
 ·rename_i e hu;split at h
  case h_2=>cases h
  rename_i c hc;cases h;obtain⟨a,len,cap,rfl⟩:=okWide_slice hu ho;obtain⟨F,C,ax,h1,h2,h3⟩:=ji hz n t _ hc fuel _ _ ht E B aw;rw[jn]at h3;obtain⟨x,l',rfl,h4,h5⟩:=h3;rw[jn]at h5;subst h5;obtain⟨y,ys,e,h6,_⟩:=aO.1 h2;cases e;exact⟨F,C,x,h1,h6,h4⟩
 ·rename_i m e hu;split at h
  case h_2=>cases h
  rename_i c hk;split at h
  case isFalse=>cases h
  rename_i hc;cases h;obtain⟨cs,rfl,TB⟩:=tY hu ho;obtain⟨xs,n',rfl,_,hlen,hxl,hf⟩:=DataW.trod_array hu ht;have hcl:(Value.agg cs).cells.toList=cs.toList:=rfl;rw[hcl]at hlen hf;rw[hc.2]at hlen;obtain⟨l,h1,h2⟩:=te (M:=gJ E) (B:=B) (c:=c) cs.toList λi hi=>by
   have hi':i<xs.length:=Om
   have h3:=hf i Om;rw[hc.1,aa3,YU hi',aaD hi,aaN,List.take_zero]at h3;unfold GJ at hk;split at hk
   ·rename_i k hk';cases hk;obtain⟨z,e1,_,hwf⟩:=DataW.trod_int hk' h3;exact⟨.int k z,by rw[(List.cons.inj e1).1,VR],by rw[TY];exact⟨z,rfl,hwf⟩⟩
   ·rename_i hk';cases hk;obtain⟨s',e1,_,hs⟩:=DataW.trod_string hk' h3;exact⟨.str s'.data.toList,by rw[(List.cons.inj e1).1,VR],by rw[TY];exact⟨_,rfl,by simpa using hs⟩⟩
   ·cases hk
  rw[hlen]at h2;exact⟨[],[],.agg l,by rw[Zr,Zr];exact aw,by rw[VR,Zr];exact⟨_,rfl,h1⟩,l,rfl,by rw[Zr];exact h2⟩
 ·cases h
theorem tr(hz:∃(z:Nat) (cc:Array Value) (el:TypeId) (fz:Nat×Nat),w.heap[z]? =some (Obj.cells cc el fz)){n r b0}:∀(tys:List TypeId) {ats},tK P n tys=some ats->∀(vs:List Value) (ds:List (DataW H)) (ps:List MemPlace),
  DataW.TrodAll enc P w base (λ_=>true) held tys vs ds ps->(∀(j:Nat) t v,tys[j]? =some t->vs[j]? =some v->Value.okWide P w r b0 t v)->∀{E}{B},AW P w E B->
  ∃(F:List sK) (C:ah) (ax:List AV),AW P w (E++F) (B++C)/\cI (gJ (E++F)) ax vs/\sH (B++C) ats ax
 |[],ats,h,vs,ds,ps,ht,_,E,B,aw=>by
  unfold tK at h;cases h;cases vs with
  |cons v vs=>cases ds<;>exact ht.elim
  |nil=>exact⟨[],[],[],by rw[Zr,Zr];exact aw,by rw[bE],by rw[sH]⟩
 |t::tys,ats,h,vs,ds,ps,ht,ho,E,B,aw=>by
  unfold tK at h;split at h
  case h_2=>cases h
  rename_i a l ha hl;cases h;cases vs with
  |nil=>cases ds<;>exact ht.elim
  |cons v vs=>
   cases ds with
   |nil=>exact ht.elim
   |cons d ds=>
    obtain⟨p,q,h1,h2,_⟩:=ht;obtain⟨F,C,x,a1,a2,a3⟩:=Ck hz ha h1 (ho 0 t v rfl rfl) aw;obtain⟨F',C',xs,b1,b2,b3⟩:=tr hz tys hl vs ds q h2 (λj t v h h'=>ho (j+1) t v h h') a1;refine⟨F++F',C++C',x::xs,by rw[<-YR,<-YR];exact b1,?_,?_⟩
    ·rw[<-YR];exact aO.2 ⟨v,vs,rfl,VR.mono (ka _ _) _ _ a2,b2⟩
    ·rw[<-YR,sH];exact⟨x,xs,rfl,a3.ext ⟨C',rfl⟩,b3⟩
end
open Go.ChangeShapes Go.WideShapes Go.RowKit
def CY(f:DataW Unit->Option (List AV)):List (DataW Unit)->Option (List AV)
 |[]=>some []
 |d::r=>
  match f d,CY f r with
  |some a,some b=>some (a++b)
  |_,_=>none
def zf(P:Program):Nat->TypeId->DataW Unit->Option (List AV)
 | 0,_,_=>none
 |n+1,t,d=>
  match P.underlying t with
  |some (.int k)=>
   match d with
   |.lit (.int _ z)=>some [.int k z]
   |_=>none
  |some .string=>
   match d with
   |.lit (.string s)=>some [.str s]
   |_=>none
  |some (.array m e)=>
   match d with
   |.agg l=>
    match CY (zf P n e) l with
    |some r=>if P.cellsOf t=m*P.cellsOf e then some r else none
    |none=>none
   |_=>none
  |_=>none
section
variable {P:Program}{w:World}{base:Nat}{sp:Nat->Bool}{held:Bool}
theorem zg{f:DataW Unit->Option (List AV)}{m:b9}{ce:Nat}{cs:List Value}{g:List Value->Option (DataW Unit×List MemPlace)}(hf:∀c d p ax,g c=some (d,p)->f d=some ax->cI m ax c/\ax.all AV.one=true):
  ∀(l:List (DataW Unit×List MemPlace)) (o:Nat) {ax:List AV},CY f (l.map (·.1))=some ax->(∀i (hi:i<l.length),g ((cs.drop ((o+i)*ce)).take ce)=some l[i])->cI m ax ((cs.drop (o*ce)).take (l.length*ce))/\ax.all AV.one=true
 |[],o,ax,h,_=>by
  unfold CY at h;cases h;rw[YX,aaZ,List.take_zero];exact⟨by rw[bE],rfl⟩
 |x::l,o,ax,h,hx=>by
  rw[ZP]at h;unfold CY at h;split at h
  case h_2=>cases h
  rename_i a b ha hb;cases h;have h0:=hx 0 (by rw[YV];omega);rw[abl,List.getElem_cons_zero]at h0;obtain⟨p1,p2⟩:=hf _ x.1 x.2 a h0 ha;obtain⟨q1,q2⟩:=zg hf l (o+1) hb (λi hi=>by
   have:=hx (i+1) (by rw[YV];omega);rw[List.getElem_cons_succ]at this;rw[show o+1+i=o+(i+1) by omega];exact this)
  refine⟨?_,by rw[List.all_append,p2,q2];rfl⟩;rw[YV,aaf,Nat.add_comm (l.length*ce) ce,List.take_add,aat];refine p1.append ?_;rw[<-aaf];exact q1
theorem wG{m:b9}:∀(n:Nat) (t:TypeId) (fuel:Nat) (cs:List Value) (d:DataW Unit) (p:List MemPlace) (ax:List AV),
  DataW.trod (λ_=>()) P w base sp held fuel t cs=some (d,p)->zf P n t d=some ax->cI m ax cs/\ax.all AV.one=true
 | 0,_,_,_,_,_,_,_,h=>by cases h
 |n+1,t,fuel,cs,d,p,ax,ht,h=>by
  unfold zf at h;split at h
  ·rename_i k hu;obtain⟨z,rfl,e,_⟩:=DataW.trod_int hu ht;cases e;cases h;exact⟨aO.2 ⟨_,[],rfl,by rw[VR],by rw[bE]⟩,rfl⟩
  ·rename_i hu;obtain⟨s,rfl,e,_⟩:=DataW.trod_string hu ht;cases e;cases h;exact⟨aO.2 ⟨_,[],rfl,rfl,by rw[bE]⟩,rfl⟩
  ·rename_i mm e hu;obtain⟨xs,m',_,ex,hlen,hxl,hf⟩:=DataW.trod_array hu ht;cases ex;simp only at h;split at h
   case h_2=>cases h
   rename_i r hr;split at h
   case isFalse=>cases h
   rename_i hc;cases h;have:=zg (m:=m) (ce:=P.cellsOf e) (cs:=cs) (g:=DataW.trod (λ_=>()) P w base sp held m' e) (λc d p ax h1 h2=>wG n e m' c d p ax h1 h2) xs 0 hr (λi hi=>by
    have:=hf i Om;rw[YU hi]at this;rw[ZN];exact this)
   rw[aaZ,aag,hxl,<-hc,<-hlen,ZA]at this;exact this
  ·cases h
def Gu(P:Program)(laid:List (String×DataW Unit))(n:Nat)(g:Nat):ak:=
 match laid.find? (λx=>P.globalNamed x.1==some g)with
 |some x=>
  match (P.globals[g]?).map (·.type)with
  |some t=>
   match zf P n t x.2 with
   |some ax=>if ax.length=EE P g then .cells ax false false else .dead
   |none=>.dead
  |none=>.dead
 |none=>.dead
def tw(P:Program):List sK:=(List.range P.globals.size).map λg=>⟨g,0,EE P g,false⟩
def vZ(P:Program)(laid:List (String×DataW Unit))(n:Nat):ah:=(List.range P.globals.size).map (Gu P laid n)
theorem kG:∀{laid}{ps},DataW.LaidVars P w laid ps->∀x∈laid,∃g t cs fuel p,P.globalNamed x.1=some g/\(P.globals[g]?).map (·.type)=some t/\w.var? P x.1=some cs/\
  DataW.trod (λ_=>()) P w 0 (λ_=>true) false fuel t cs.toList=some (x.2,p)
 |[],_,_,x,hx=>by cases hx
 |(n,d)::r,ps,h,x,hx=>by
  obtain⟨g,t,cs,fuel,p,q,h1,h2,h3,h4,h5,_⟩:=h;rcases ZC.1 hx with rfl|hx
  ·exact⟨g,t,cs,fuel,p,h1,h2,h3,h4⟩
  ·exact kG h5 x hx
def yx{n g cs}(hg:P.globalNamed n=some g)(h:w.var? P n=some cs):∃el fz,w.heap[g]? =some (.cells cs el fz):=by
 unfold World.var? at h;rw[hg]at h;simp only[Option.bind_some]at h;split at h
 ·rename_i c el fz hb;cases h;exact⟨el,fz,hb⟩
 ·cases h
theorem AW.globals{Xo laid}(hl:laidMet P Xo w)(hsub:∀x∈laid,x∈Xo)(n:Nat){nm d}(hlast:(nm,d)∈laid)(hg:P.globalNamed nm=some (P.globals.size-1)):
  AW P w (tw P) (vZ P laid n)/\∃(z:Nat) (cc:Array Value) (el:TypeId) (fz:Nat×Nat),w.heap[z]? =some (Obj.cells cc el fz):=by
 obtain⟨ps,hv,_,_⟩:=hl;obtain⟨g0,t0,cs0,_,_,a1,_,a3,_⟩:=kG hv _ (hsub _ hlast);obtain⟨el0,fz0,S0⟩:=yx a1 a3;have ep:P.globals.size-1<w.heap.size:=by
  have e:g0=P.globals.size-1:=ZU (a1.symm.trans hg);rw[<-e];exact(Ze.1 S0).1
 have hE:∀(b:Nat) e,(tw P)[b]? =some e->b<P.globals.size/\e=⟨b,0,EE P b,false⟩:=λb e h=>by
  unfold tw at h;rw[aac]at h;have hb:b<P.globals.size:=by
   cases hr:(List.range P.globals.size)[b]? with
   |none=>rw[hr]at h;cases h
   |some y=>have:=(YQ.1 hr).1;simpa using this
  rw[List.getElem?_range hb]at h;exact⟨hb,(ZU h).symm⟩
 refine⟨⟨by simp[tw,vZ],λb e h=>?_,λb e k h h'=>?_,λg hg=>⟨⟨g,0,EE P g,false⟩,?_,rfl,rfl,rfl,rfl⟩⟩,⟨g0,cs0,el0,fz0,S0⟩⟩
 ·obtain⟨hb,rfl⟩:=hE b e h;exact⟨rfl,by show b<_;omega⟩
 ·obtain⟨hb,rfl⟩:=hE b e h;unfold vZ at h';rw[aac,List.getElem?_range hb]at h';have h':=(ZU h').symm;subst h';unfold Gu;split
  case h_2=>exact⟨trivial,.inl rfl⟩
  rename_i x hx;split
  case h_2=>exact⟨trivial,.inl rfl⟩
  rename_i t ht;split
  case h_2=>exact⟨trivial,.inl rfl⟩
  rename_i ax has;split
  case isFalse=>exact⟨trivial,.inl rfl⟩
  rename_i hlen;refine⟨?_,.inr ⟨ax,rfl⟩⟩;obtain⟨g,t',cs,fuel,p,b1,b2,b3,b4⟩:=kG hv x (hsub _ (List.mem_of_find?_eq_some hx));have hgb:P.globalNamed x.1=some b:=by have:=abm hx;simpa using this
  have e1:g=b:=ZU (b1.symm.trans hgb);subst e1;have e2:t' =t:=ZU (b2.symm.trans ht);subst e2;obtain⟨el,fz,Uc⟩:=yx b1 b3;obtain⟨c1,c2⟩:=wG (m:=gJ (tw P)) n t' fuel _ _ _ _ b4 has;have hcl:cs.size=ax.length:=by have:=c1.length;simpa using this
  refine⟨cs,el,fz,Uc,⟨by show 0+_<=_;omega,by show 0+_<=EE P g;omega,by show cs.size=EE P g;omega⟩,λi x hx=>?_,⟨λx=>absurd x aaU,λx=>by rcases x with x|x<;>exact absurd x aaU⟩⟩;refine⟨Zy.1 c2 x (ZT hx),?_⟩;obtain⟨v,V6,Vo⟩:=c1.get hx;refine⟨v,?_,Vo⟩;show cs[0+i]? =some v;rw[ZN,<-aap];exact V6
 ·unfold tw;rw[aac,List.getElem?_range hg];rfl
end
section
variable {P:Program}{W W':World}{E:List sK}{B h':ah}{m':b9}
def AW.below(aw:AW P W E B)(g:Grow (gJ E) B W m' h' W'):Below W.heap.size W W':=
 ⟨g.os,g.tape,g.out,g.size,λk hk=>g.frame k hk λb e hb ho=>by rw[(aw.own b e hb).1]at ho;cases ho⟩
def yi(b:Below W.heap.size W W')(may:MemPlace->Prop):W.keptBut W' may:=by
 refine⟨b.os,b.output,λi hi=>?_⟩;rw[b.block i hi];split
 ·rename_i h1 h2;rw[h1]at h2;simp only[Zu,Obj.cells.injEq]at h2;obtain⟨rfl,rfl,rfl⟩:=h2;exact⟨rfl,rfl,rfl,λ_ _=>rfl⟩
 ·rename_i h1 h2;rw[h1]at h2;simp only[Zu,Obj.map.injEq]at h2;obtain⟨rfl,rfl⟩:=h2;exact .inr ⟨rfl,rfl⟩
 ·rfl
variable {H:Type}{enc:TypeId×Value->H}
theorem mH(hlo:laidOutB P=true)(hb:Below W.heap.size W W'){sp}:∀{tys}{vs}{ds}{ps},(∀t∈tys,P.readableRec t=true/\t<P.types.size)->
  DataW.TrodAll enc P W 0 (λ_=>true) true tys vs ds ps->(∀p∈ps,p.block<W.heap.size)->(∀p∈ps,sp p.block=true)->DataW.TrodAll enc P W' 0 sp true tys vs ds ps
 |[],[],[],ps,_,h,_,_=>h
 |[],[],_::_,_,_,h,_,_=>h.elim
 |[],_::_,_,_,_,h,_,_=>h.elim
 |_::_,[],_,_,_,h,_,_=>h.elim
 |_::_,_::_,[],_,_,h,_,_=>h.elim
 |t::tys,v::vs,d::ds,ps,hr,h,hl,hs=>by
  obtain⟨p,q,h1,h2,rfl⟩:=h;exact⟨p,q,WideElems.Trod_stays hlo (hr t (ZS ..)).1 (hr t (ZS ..)).2 h1 (λx hx=>hb.same (hl x (List.mem_append_left _ hx))) (λx hx=>hs x (List.mem_append_left _ hx)),
   mH hlo hb (λt ht=>hr t (ZG _ ht)) h2 (λx hx=>hl x (List.mem_append_right _ hx)) (λx hx=>hs x (List.mem_append_right _ hx)),rfl⟩
def zQ{f:Func}{s:ChangeSpec}{apart fresh handsOn again:Bool}{args:Array Value}{ds gs:List (DataW H)}{before:List MemPlace}{tb:TypeId}
  (hlo:laidOutB P=true) (hpar:∀t∈f.params.toList,P.readableRec t=true/\t<P.types.size) (hrt:f.resultTypes=#[tb]) (htb:P.underlying tb=some .bool) (hvars:s.vars=[])
  (hfn:(s.fn H (ds++gs))={results:=[.lit (.bool true)],args:=ds}) (hW:DataW.Whole enc P f.params.toList s.vars apart W args.toList ds gs before) (hb:Below W.heap.size W W'):
  s.post enc P f apart fresh handsOn again W args (.bool true) W':=by
 have hlt:=hW.lt;have hW':=hW;obtain⟨p,q,hA,hV,rfl,hz,hn⟩:=hW';rw[hvars]at hV;obtain⟨rfl,rfl⟩:=trodVars_none hV;rw[Zr]at hlt;have hres:∀(b:Nat) (sp:Nat->Bool) (hd:Bool),DataW.TrodAll enc P W' b sp hd f.resultTypes.toList ((Value.bool true).resultList f.resultTypes.size) (s.fn H (ds++[])).results []:=λb sp hd=>by
  rw[hfn,hrt];exact trodAll_mk1 (shut_bool htb _)
 have hargs:∀sp:Nat->Bool,(∀x∈p,sp x.block=true)->DataW.TrodAll enc P W' 0 sp true f.params.toList args.toList (s.fn H (ds++[])).args p:=λsp hs=>by
  rw[hfn];exact mH hlo hb hpar hA hlt hs
 have SH:∀sp:Nat->Bool,DataW.TrodVars enc P W' sp s.vars (s.fn H (ds++[])).vars []:=λsp=>by
  rw[hfn,hvars];rfl
 refine⟨ds,[],p++[],[],p,[],hW,hres _ _ _,hargs _ (λx hx=>by simpa using hlt x hx),SH _,yi hb _,λ_=>?_⟩;refine⟨?_,_,_,([]++p)++[],⟨[]++p,[],trodAll_append (hargs _ (λ_ _=>rfl)) (hres _ _ _),SH _,rfl,?_,?_⟩,?_⟩
 ·exact ok_one hrt rfl (okWide_bool_mk htb _)
 ·intro b off hp;have hp:MemPlace.cell b off∈p:=by simpa using hp
  have:=hz b off (by simpa using hp);unfold World.frozen? at this ⊢;rw[hb.block b (hlt _ hp)];exact this
 ·intro ha;have:=hn ha
  simpa using this
 ·intro x hx _
  simpa using hx
def BL{f:Func}{fid:FuncId}{s:ChangeSpec}{apart fresh handsOn again:Bool}{args:Array Value}{ds gs:List (DataW H)}{before:List MemPlace}{tb:TypeId}{n:Nat}{ats:List AT}{r:Reach}{b0:Nat}
  (hlo:laidOutB P=true) (hpar:∀t∈f.params.toList,P.readableRec t=true/\t<P.types.size) (hrt:f.resultTypes=#[tb]) (htb:P.underlying tb=some .bool) (hvars:s.vars=[])
  (hfn:(s.fn H (ds++gs))={results:=[.lit (.bool true)],args:=ds}) (hats:tK P n f.params.toList=some ats)
  (hval:∀(j:Nat) t v,f.params[j]? =some t->args[j]? =some v->Value.okWide P W r b0 t v)
  (hW:DataW.Whole enc P f.params.toList s.vars apart W args.toList ds gs before) (aw:AW P W E B) (hz:∃(z:Nat) (cc:Array Value) (el:TypeId) (fz:Nat×Nat),W.heap[z]? =some (Obj.cells cc el fz))
  (call:∀k ax,Ext B k->sH k ats ax->ay P fid ax k λv _=>v=.bool true):
  Calls P fid args W λe W'=>∃v,e=.returned v/\s.post enc P f apart fresh handsOn again W args v W':=by
 obtain⟨p,q,hA,_⟩:=id hW;obtain⟨F,C,ax,h1,h2,h3⟩:=tr hz f.params.toList hats args.toList ds p hA (λj t v h h'=>hval j t v (by rw[<-aap];exact h) (by rw[<-aap];exact h')) aw;obtain⟨v,g,hs,rfl⟩:=call (B++C) ax ⟨C,rfl⟩ h3;refine(hs (gJ (E++F)) W args.toList h1.hr h2).mono λe W' ⟨cv,m',he,hv,_,hg⟩=>?_
 rw[VR]at hv;subst hv;exact⟨_,he,zQ hlo hpar hrt htb hvars hfn hW (h1.below hg)⟩
end
end Go.Abs
namespace Go.Proofs.YtgplmdgpmbegiaaGreatDoor
open Go.Abs
noncomputable def v7:ah:=vZ Tryz.prog Rows.houseSafeRow.laid 6
def EG:v7[0]? =some (.cells Q3 false false):=by kernel_rfl
def EF:v7[2]? =some (.cells (Lib.pow10Tab.map (AV.int .u64)) false false):=by kernel_rfl
def Q5{k:ah}(e:Ext v7 k):Gl k:=⟨_,_,e.some EG⟩
def Ri{k:ah}(e:Ext v7 k):Pw k:=⟨_,_,e.some EF⟩
end Go.Proofs.YtgplmdgpmbegiaaGreatDoor
namespace Go.Proofs.YtgplmdgpmbegiaaGreatDoor
open Go.ChangeShapes Go.WideShapes Go.RowKit Go.Abs
def ga{a b:Bool}(h:a=true)(h':b=true):(a&&b)=true:=by rw[h,h'];rfl
def own:ownKnob Tryz.prog.godebug=none:=by kernel_rfl
def laidOut:laidOutB Tryz.prog=true:=by kernel_rfl
def DH:mapsRowed Tryz.prog=true:=by kernel_rfl
def Bz:(Tryz.prog.stops==[])=true:=by kernel_rfl
def BC:(Tryz.prog.stopKnobs==[])=true:=by kernel_rfl
def BD:Tryz.prog.stopsHeard=true:=by kernel_rfl
def BE:Tryz.prog.mayEnter=true:=by kernel_rfl
def BB:(Rows.houseSafeRow.lifted==Tryz.prog.liftsFinal)=true:=by kernel_rfl
def DI:(Tryz.prog.make==some Rows.houseSafeRow.make)=true:=by kernel_rfl
def DL:(Rows.houseSafeRow.plainKeys==Tryz.prog.plainKeys)=true:=by kernel_rfl
def DJ:Tryz.prog.mainIs=some (true, "99e684478f8cae51b056da3a355f6848a653f6e5f09f29bc4422acb306b2dd43".toList):=by kernel_rfl
def BA:true=Tryz.prog.looks []:=by kernel_rfl
def zF(os:Os)(args:Array Value):((World.laidAll Tryz.prog os Rows.houseSafeRow.laid).forCall (λ_ _=>0) ⟨#[],args,[]⟩).Shaped Tryz.prog:=World.shaped_of_ZipB (by kernel_rfl) (by kernel_rfl)
def DK(os:Os)(args:Array Value):laidMetH Tryz.prog Rows.houseSafeRow.laid ((World.laidAll Tryz.prog os Rows.houseSafeRow.laid).forCall (λ_ _=>0) ⟨#[],args,[]⟩).memory:=by
 rw[MakeChecks.laidMetH_plain _ _ _ (by kernel_rfl)];exact laidMet_laidAll _ (by kernel_rfl) (by kernel_rfl)
end Go.Proofs.YtgplmdgpmbegiaaGreatDoor
namespace Go.Abs
def WR.BZ{P:Program}{ro:Option Nat->Prop}{ks:List Kt}{ts:TS}{Q:Ex->TS->ah->Prop}{α:Type}{row:α->List AV}{L:List α}{B Y:ah}{s v:AV}{es i off:Nat}{x':α}{d:Option Nat}{l:List bI}
  (hs:Fr B.length Y s es (L.map row)) (he:Ext B Y) (hi:i<L.length) (ho:off<es) (hv:v.one=true) (hx:row x' =(row L[i]).set off v)
  (K:∀W5:ah,Ext B W5->W5.length=Y.length->Fr B.length W5 s es ((L.set i x').map row)->(∀b,sB s≠some b->W5[b]? =Y[b]?)->WP P ro l ks (put ts d az) W5 Q):
  WR P ro (aW 1 (lL s es i off) v (λb=>Y[b]?)) false d l ks ts Y Q:=by
 obtain⟨g,rfl⟩:=he;refine WR.vt (h0:=B) hs hi ho hv hx ?_;intro g' RT hff hkp;exact K _ ⟨_,rfl⟩ (by simp[RT]) hff λb hb=>hkp b λb0 o n e he z=>hb (by rw[he,z];rfl)
set_option maxRecDepth 10000
attribute [local irreducible] WP WC WE WB WR WF WL WG fU WM
section
variable {P:Program}(T:fp P) {B X W:ah}{ts:TS}{V:RV}{x:EV}
include T
def zM(w:eJ V.an)(ox:bw B x)(we:ko x.ev .accept)(nk:sI V.an x.ev .accept)(s:cE B X x V W V)(hlen:ts.length=250)(t2:slot ts 2=.ptr X.length 0)(t3:slot ts 3=.ptr (X.length+1) 0)(t4:slot ts 4=.ptr (X.length+2) 0):
  WC P bL zN [] ts W (FQ [(4,some (some 7)),(5,none)] (rW B X V (bC V.an x.ev .accept) (dq V.an x.ev .accept))):=by
 have ow:=ox.ext s.ex;have oV:=s.bk.o.ok;have RM:x.ev.kind=bh .accept:=bW we.kd;obtain⟨lr,le,sb,gm⟩:=cE.fa s;obtain⟨i0,d0⟩:=bM ow we 0 0 rfl De;obtain⟨j0,f0,q0⟩:=cU ow we 0 0 rfl De;unfold zN fn225;simp only[ai.tl];have k0:aM x.ev 0∈gP V.an:=nk.kn 0 0 rfl;have T2:x.ev.names=[aM x.ev 0]:=by
  have h1:=we.nl;obtain⟨n,hn⟩:∃n,x.ev.names=[n]:=List.length_eq_one_iff.1 h1;rw[aM,hn];rfl
 have hlt:bn (gP V.an) (aM x.ev 0)<V.lines.length:=by have:=cR k0;simpa [gP,RV.an]using this
 have ei:cT (λy:gZ=>decide (y.name=aM x.ev 0)) V.lines=(bn (gP V.an) (aM x.ev 0):Int):=eT (f:=gZ.name) k0;have sp:du V.an (aM x.ev 0)=V.lines[bn (gP V.an) (aM x.ev 0)]:=de k0;obtain⟨p,hp⟩:∃p,p=bn (gP V.an) (aM x.ev 0):=⟨_,rfl⟩;rw[<-hp]at ei;have hlt:p<V.lines.length:=by rw[hp];exact hlt
 have sp:du V.an (aM x.ev 0)=V.lines[p]:=by rw[sp];congr 1;exact hp.symm
 refine ph (Jl @t2 @t3 @t4 @le @lr @bj @aI @aY @aF @RM @gU @Zt @Zl @j0 @f0 @i0 @d0) ?_;refine WF.ce T.c28 (r28 T (oV.ext Xx) w.len _) λg1=>?_
 rw[ei];obtain⟨W2,So⟩:∃Z,Z=W++g1:=⟨_,rfl⟩;rw[<-So];have R5:cE B X x V W2 V:=by rw[So];exact eX.grow s ⟨g1,rfl⟩
 have ow:=ox.ext R5.ex;have oV:=R5.bk.o.ok;obtain⟨lr,le,sb,gm⟩:=cE.fa R5;have on:=ow.n;rw[T2]at on;have on1:=ow.n.one;refine Rs (A7 t2 t3 t4 @le @lr @aF @aI) ?_;refine WF.res T.c127 (r127 T (oV.ext Xx) w.len on Si) ?_;rintro ns g2 hns;obtain⟨W3,RZ⟩:∃Z,Z=W2++g2:=⟨_,rfl⟩;rw[<-RZ];have Sa:cE B X x V W3 V:=by rw[RZ];exact eX.grow R5 ⟨g2,rfl⟩
 have ow:=ox.ext Sa.ex;have oV:=Sa.bk.o.ok;obtain⟨lr,le,sb,gm⟩:=cE.fa Sa;rw[<-RZ]at hns;obtain⟨S,hS⟩:∃S,S=tZ V.an (aM x.ev 0):=⟨_,rfl⟩;have hfS:(V.an.aj.filter λy=>decide (y.line∈[aM x.ev 0]))=S:=by
  rw[hS,tZ];refine List.filter_congr λy _=>?_
  simp
 rw[hfS]at hns;have hSm:∀y∈S,y∈V.an.aj:=λy hy=>by rw[hS,tZ]at hy;exact(aaa.1 hy).1
 have hSl:S.length<=64:=by
  have h1:S.length<=V.an.aj.length:=by rw[hS,tZ];exact ZD _ _
  have:=w.l2;omega
 rw[aaA]at hns;have ix:aS 3 V.s0 (.i (p:Int))=some (cN V.s0 3 p,.au):=oV.i0.dG hlt;have l2:∀{k:ah},Ext W3 k->aq none (lL V.s0 3 p 2) (λb=>k[b]?)=some (.bool (du V.an (aM x.ev 0)).acc,.au):=λ{k} e=>by rw[sp];exact oV.i0.pW hlt rfl e
 have l1:∀{k:ah},Ext W3 k->aq none (lL V.s0 3 p 1) (λb=>k[b]?)=some (.i (du V.an (aM x.ev 0)).want,.au):=λ{k} e=>by rw[sp];exact oV.i0.pW hlt rfl e
 cases h1:(du V.an (aM x.ev 0)).acc with
 |true=>
  rw[h1]at l2;refine Rs (lQ t2 t3 t4 ix @l2 @lr @aF @fI @sb @gm) ?_;rw[bC,Zb h1];exact z40
 |false=>
 rw[h1]at l2;by_cases h2:(S.length:Int)<(du V.an (aM x.ev 0)).want
 case pos=>
  have e2:decide ((S.length:Int)<(du V.an (aM x.ev 0)).want)=true:=YW h2;refine Rs (Dk t2 t3 t4 ix @l2 @l1 hns.aJ @lr @aF @fI e2 @sb @gm) ?_;rw[bC,Y6 (by rw[h1];decide),Zb (by rw[<-hS];exact h2)];exact z40
 have e2:decide ((S.length:Int)<(du V.an (aM x.ev 0)).want)=false:=YS h2;refine Rs (kS t2 t3 t4 ix @l2 @l1 hns.aJ @lr @aF @fI e2) ?_;refine WL.inv T.mix (λm ts h'=>∃(k:Nat) (g:ah),k<=S.length/\m=S.length-k/\h' =W3++g/\(∀y∈S.take k,cG V.an y (bH x.ev 0)=true)/\ts.length=250/\slot ts 2=.ptr X.length 0/\slot ts 4=.ptr (X.length+2) 0/\slot ts 6=.i (bH x.ev 0)/\slot ts 9=.i (p:Int)/\slot ts 10=ns/\slot ts 11=.i k) S.length
  ⟨0,[],Om,rfl,by rw[Zr],(λy hy=>by cases hy),Sn,(Sq t2),(Sq t4),Sw,Sw,Sw,gM⟩ ?_
 clear t2 t3 t4 hlen;rintro _ ts _ ⟨k,g,hk,rfl,rfl,hsf,hlen,t2,t4,t6,t9,t10,t11⟩;obtain⟨W4,SE⟩:∃Z,Z=W3++g:=⟨_,rfl⟩;rw[<-SE];have Tw:cE B X x V W4 V:=by rw[SE];exact eX.grow Sa ⟨g,rfl⟩
 have ow:=ox.ext Tw.ex;have oV:=Tw.bk.o.ok;obtain⟨lr,le,sb,gm⟩:=cE.fa Tw;have e34:Ext W3 W4:=⟨g,SE⟩;have hns:=hns.ext e34;by_cases SR:k<S.length
 ·have e3:decide ((k:Int)<S.length)=true:=YW Om;have e5:=wrapN (n:=k) Om;have iy:=hns.dG (kk:=.i64) SR;obtain⟨y,hy⟩:∃y,y=S[k]:=⟨_,rfl⟩;have Ta:y∈V.an.aj:=hSm y (by rw[hy];exact Za _);have lf:∀{kk:ah},Ext W4 kk->aq none (cN ns 1 k) (λb=>kk[b]?)=some (.str y.name,.au):=λ{kk} e=>hns.kY SR (by rw[<-hy];rfl) e
  have Uo:y.name∈kv V.an:=Zo Ta;have hps:=cR Uo;have Tn:bn (kv V.an) y.name<V.aj.length:=by simpa [kv,RV.an]using hps
  have iz:aS 3 V.s2 (.i ((bn (kv V.an) y.name:Nat):Int))=some (cN V.s2 3 (bn (kv V.an) y.name),.au):=oV.i2.dG Tn;obtain⟨u,hu⟩:∃u,u=V.aj[bn (kv V.an) y.name]:=⟨_,rfl⟩;have hum:u∈V.aj:=by rw[hu];exact Za _
  have huy:u.1=y:=by
   have a1:kV V.an y.name=y:=mi w.n2.nd Ta;rw[kV,de (f:=gN.name) (l:=V.an.aj) (d:=B5) Uo]at a1;rw[<-a1,hu];exact Bb
  have ly:∀{kk:ah},Ext W4 kk->aq (some 3) (cN V.s2 3 (bn (kv V.an) y.name)) (λb=>kk[b]?)=some (.agg (aX u),.au):=λ{kk} e=>by rw[hu];exact oV.i2.jD Tn e
  have ou:=oV.e2 u hum;have hul:=(w.ue.sh u hum);refine Rs (Dk t2 t4 t6 t9 t10 t11 hns.aJ e3 @lr @dy @aF @iy @lf) ?_;refine WF.ce T.c22 (r22 T (oV.ext Xx) w.len _) λg3=>?_
  have ej:cT (λy':gN×AV=>decide (y'.1.name=y.name)) V.aj=(bn (kv V.an) y.name:Int):=by
   rw[gC];exact eT (f:=λy:gN×AV=>y.1.name) (by rw[<-gC];exact Uo)
  rw[ej];refine Rs (A8 t2 t4 t6 t9 t10 t11 @iz @ly) ?_;refine WF.ce T.c23 (r23 T (oV.ext Xx) w.len (ou.ext Xx) hul.2 hul.1 _) λg4=>?_
  rw[huy];cases h4:cG V.an y (bH x.ev 0)with
  |false=>
   refine Rs (kS t2 t4 t6 t9 t10 t11 @Zq @lr @aF @sb @gm) ?_;rw[bC,Y6 (by rw[h1];decide),Y6 (by rw[<-hS];exact h2),Zb (by rw[<-hS];exact aaj.2 ⟨y,by rw[hy];exact Za _,by rw[h4];rfl⟩)];exact cE.fin (eX.grow Tw (by rw[YR];exact⟨_,rfl⟩)) (λz=>absurd z De)
  |true=>
   refine Rs (A8 t2 t4 t6 t9 t10 t11 @Zg e5) ?_;refine⟨_,Om,k+1,g++g3++g4,Om,rfl,by rw[SE];simp only[YR],?_,rfl⟩;intro y' hy';exact QF
 ·have e3:decide ((k:Int)<S.length)=false:=YS Om;have e4:k=S.length:=Om
  rw[e4,ZA]at hsf;have Td:bC V.an x.ev .accept=0:=by
   rw[bC,Y6 (by rw[h1];decide),Y6 (by rw[<-hS];exact h2),Y6];exact Kc
  refine Rs (kS t2 t4 t6 t9 t10 t11 hns.aJ e3 @lr @fI ix) ?_;refine WR.BZ (B:=B) (x':={V.lines[p]with acc:=true}) (row:=bV) Tw.bk.o.i0 Tw.ex hlt De rfl rfl ?_;intro W5 x5 l5 hff hk5;have s5:cE B X x V W5 {V with lines:=V.lines.set p {V.lines[p]with acc:=true} }:=eX.q0 Tw hff (λi _ hne=>hk5 i hne) x5 Om;obtain⟨lr,_,sb,gm⟩:=cE.fa s5;refine Rs (lQ t2 t4 t6 t9 t10 t11 @lr @aF @sb @gm) ?_;exact z183
end
structure GQ(X:ah)(x:EV)(U:RV)(h:ah):Prop where
 r:h[X.length]? =some (.b U.row)
 e:h[X.length+1]? =some (.b x.row)
 n:bw h x
theorem GQ.ext{X h k x U}(s:GQ X x U h)(e:Ext h k):GQ X x U k:=⟨e.some s.r,e.some s.e,s.n.ext e⟩
section
variable {P:Program}(T:fp P) {B X W:ah}{ts:TS}{V:RV}{x:EV}
include T
def D5(w:eJ V.an)(ox:bw B x)(we:ko x.ev .copy)(nk:sI V.an x.ev .copy)(s:cE B X x V W V)(hlen:ts.length=250)(t2:slot ts 2=.ptr X.length 0)(t3:slot ts 3=.ptr (X.length+1) 0)(t4:slot ts 4=.ptr (X.length+2) 0):
  WC P bL zN [] ts W (FQ [(4,some (some 7)),(5,none)] (rW B X V (bC V.an x.ev .copy) (dq V.an x.ev .copy))):=by
 have ow:=ox.ext s.ex;have oV:=s.bk.o.ok;have RM:x.ev.kind=bh .copy:=bW we.kd;obtain⟨lr,le,sb,gm⟩:=cE.fa s;obtain⟨i0,d0⟩:=bM ow we 0 0 rfl De;obtain⟨i1,d1⟩:=bM ow we 1 1 rfl De;obtain⟨j0,f0,q0⟩:=cU ow we 0 0 rfl De;unfold zN fn225;simp only[ai.tl];have k0:aM x.ev 0∈jG V.an:=nk.kn 0 1 rfl;have k1:aM x.ev 1∈jG V.an:=nk.kn 1 1 rfl;have T3:V.aj.length<=64:=by have:=w.l2;simpa [RV.an]using this
 have htp:∀y∈V.aj,y.1.aB.length<2^30:=λy hy=>(w.ue.sh y hy).2
 by_cases h1:aM x.ev 0=aM x.ev 1
 case pos=>
  have e1:decide (aM x.ev 0=aM x.ev 1)=true:=YW h1;refine ph (M0 @t2 @t3 @t4 @le @lr @bj @aI @aY @aF @RM @gU @Zt @Zl @j0 @f0 @i0 @d0 @i1 @d1 @e1 @sb @gm) ?_;rw[bC,Zb h1];exact G1
 have e1:decide (aM x.ev 0=aM x.ev 1)=false:=YS h1;refine ph (Nn @t2 @t3 @t4 @le @lr @bj @aI @aY @aF @RM @gU @Zt @Zl @j0 @f0 @i0 @d0 @i1 @d1 @e1) ?_;refine WF.ce T.c84 (r84 T (oV.ext Xx) w.len k0 _) λg1=>?_
 obtain⟨W2,So⟩:∃Z,Z=W++g1:=⟨_,rfl⟩;rw[<-So];have R5:cE B X x V W2 V:=by rw[So];exact eX.grow s ⟨g1,rfl⟩
 have ow:=ox.ext R5.ex;have oV:=R5.bk.o.ok;obtain⟨lr,le,sb,gm⟩:=cE.fa R5;obtain⟨i0,d0⟩:=bM ow we 0 0 rfl De;obtain⟨i1,d1⟩:=bM ow we 1 1 rfl De;obtain⟨j0,f0,q0⟩:=cU ow we 0 0 rfl De;cases h2:fR V.an (bH x.ev 0) (aM x.ev 0)with
 |false=>
  refine Rs (A8 t2 t3 t4 @Zq @lr @aF @sb @gm) ?_;rw[bC,Y6 h1,Zb (by rw[h2];rfl)];exact JF
 |true=>
 refine Rs (lQ t2 t3 t4 @Zg @le @lr @aF @aI @i1 @d1) ?_;refine WF.ce T.c84 (r84 T (oV.ext Xx) w.len k1 _) λg2=>?_
 obtain⟨W3,RZ⟩:∃Z,Z=W2++g2:=⟨_,rfl⟩;rw[<-RZ];have Sa:cE B X x V W3 V:=by rw[RZ];exact eX.grow R5 ⟨g2,rfl⟩
 have ow:=ox.ext Sa.ex;have oV:=Sa.bk.o.ok;obtain⟨lr,le,sb,gm⟩:=cE.fa Sa;obtain⟨i0,d0⟩:=bM ow we 0 0 rfl De;obtain⟨i1,d1⟩:=bM ow we 1 1 rfl De;obtain⟨j0,f0,q0⟩:=cU ow we 0 0 rfl De;cases h3:fR V.an (bH x.ev 0) (aM x.ev 1)with
 |false=>
  refine Rs (A8 t2 t3 t4 @Zq @lr @aF @sb @gm) ?_;rw[bC,Y6 h1,Y6 (by rw[h2];decide),Zb (by rw[h3];rfl)];exact z40
 |true=>
 have Td:bC V.an x.ev .copy=0:=by rw[bC,Y6 h1,Y6 (by rw[h2];decide),Y6 (by rw[h3];decide)]
 refine Rs (A4 t2 t3 t4 @Zg) ?_;obtain⟨a,ha⟩:∃a,a=aM x.ev 0:=⟨_,rfl⟩;obtain⟨z,hz⟩:∃z,z=aM x.ev 1:=⟨_,rfl⟩;refine WL.inv T.mix (λm ts W=>∃(k:Nat) (U:RV),k<=V.aj.length/\m=V.aj.length-k/\cE B X x V W U/\U.s2=V.s2/\U.aj.length=V.aj.length/\
   {U.an with aj:=V.an.aj} =V.an/\(∀i (hi:i<U.aj.length) (hi':i<V.aj.length),(U.aj[i]).1=if i<k then fO a z (V.aj[i]).1 else(V.aj[i]).1)/\
   ts.length=250/\slot ts 2=.ptr X.length 0/\slot ts 3=.ptr (X.length+1) 0/\slot ts 4=.ptr (X.length+2) 0/\slot ts 7=.i k) V.aj.length
  ⟨0,V,Om,rfl,Sa,rfl,rfl,rfl,λi hi hi'=>by rw[Y6 Om],Sn,(Sq t2),(Sq t3),(Sq t4),gM⟩ ?_
 clear t2 t3 t4 hlen i0 i1 d0 d1 j0 f0 oV ow lr le sb gm;rintro _ ts W4 ⟨k,U,hk,rfl,s,Se,TF,hreg,hU,hlen,t2,t3,t4,t7⟩;have ow:=ox.ext s.ex;have oU:=s.bk.o.ok;obtain⟨lr,le,sb,gm⟩:=cE.fa s;by_cases hlt:k<V.aj.length
 ·have UU:k<U.aj.length:=Om
  have e3:=ee hlt;have e5:=wrapN (n:=k) Om;have ll:∀(G:Nat->Option ak),Go.Abs.jh .sl G U.s2=some V.aj.length:=λG=>by rw[oU.i2.aJ,TF]
  have ix:aS 3 U.s2 (.i (k:Int))=some (cN U.s2 3 k,.au):=oU.i2.dG UU;have SG:U.aj[k]∈U.aj:=Za _;have hx1:(U.aj[k]).1=(V.aj[k]).1:=by rw[hU k UU hlt,Y6 Om]
  have hxl:(U.aj[k]).1.aB.length<2^30:=by rw[hx1];exact htp _ (Za _)
  have VG:=s.bk.o.e2 _ SG;have next:∀(U2:RV),U2.aj.length=V.aj.length->(∀i (hi:i<U2.aj.length) (hi':i<U.aj.length),(U2.aj[i]).1=if i=k then fO a z (U.aj[i]).1 else(U.aj[i]).1)->
    ∀i (hi:i<U2.aj.length) (hi':i<V.aj.length),(U2.aj[i]).1=if i<k+1 then fO a z (V.aj[i]).1 else(V.aj[i]).1:=by
   intro U2 a3 a5 i hi hi';exact QJ
  obtain⟨y,hy⟩:∃y,y=U.aj[k]:=⟨_,rfl⟩;have ly:∀{kk:ah},Ext W4 kk->aq none (lL U.s2 3 k 2) (λb=>kk[b]?)=some (y.2,.au):=λ{kk} e=>oU.i2.pW UU (by rw[<-hy];rfl) e
  rw[<-hy]at VG hxl;have oy:=VG.ba.one;obtain⟨i0,d0⟩:=bM ow we 0 0 rfl De;obtain⟨i1,d1⟩:=bM ow we 1 1 rfl De;rw[<-ha]at d0;rw[<-hz]at d1;refine Rs (wP t2 t3 t4 t7 @lr @le @dy @ll e3 ix @ly @aI @i0 @d0) ?_;refine WF.ce T.c35 (r35 T (VG.ba.ext Xx) Om a) λg3=>?_
  by_cases c1:a∈y.1.aB
  case neg=>
   have u1:decide (a∈y.1.aB)=false:=YS c1;rw[u1];refine Rs (A5 t2 t3 t4 t7 e5) ?_;refine⟨_,Om,k+1,U,Om,rfl,eX.grow s ⟨g3,rfl⟩,Se,TF,hreg,next U TF (λi hi hi'=>?_),rfl⟩;split
   ·rename_i TO;subst TO;rw[<-hy,fO,Y6 (λw=>c1 w.1)]
   ·rfl
  have u1:decide (a∈y.1.aB)=true:=YW c1;rw[u1];refine Rs (A8 t2 t3 t4 t7 @le @aI @i1 @d1) ?_;refine WF.ce T.c35 (r35 T (VG.ba.ext Xx) Om z) λg4=>?_
  by_cases c2:z∈y.1.aB
  ·have u2:decide (z∈y.1.aB)=true:=YW c2;rw[u2];refine Rs (A6 t2 t3 t4 t7 @Zg e5) ?_;refine⟨_,Om,k+1,U,Om,rfl,eX.grow s (by rw[YR];exact⟨_,rfl⟩),Se,TF,hreg,next U TF (λi hi hi'=>?_),rfl⟩;split
   ·rename_i TO;subst TO;rw[<-hy,fO,Y6 (λw=>w.2 c2)]
   ·rfl
  have u2:decide (z∈y.1.aB)=false:=YS c2;rw[u2];refine Rs (A5 t2 t3 t4 t7 @Zq) ?_;obtain⟨W5,Ug⟩:∃Z,Z=W4++g3++g4:=⟨_,rfl⟩;rw[<-Ug];have XP:Ext W4 W5:=by rw[Ug,YR];exact⟨_,rfl⟩
  have s5:cE B X x V W5 U:=eX.grow s XP;have S5:GQ X x U W5:=⟨s5.bk.m,cE.Md s5,ox.ext s5.ex⟩;have hfx5:=s5.bk.o.e2 y (by rw[hy];exact SG);refine pa (GQ X x U) ?_;refine c9 S5 rfl rfl ?_;refine Rs (A4 t2 t3 t4 t7) ?_;refine kW S5 (v:=U.s2) (λg hg=>?_) ?_
  ·simp only[aQ,aT,bo,bp,reduceAdd,reduceMul,reduceLeDiff,reduceEqDiff,bz,hlen,Zf,Zi,t2,aA hg.r,dy]
  refine Rs (A4 t2 t3 t4 t7) ?_;refine c9 S5 rfl rfl ?_;refine Rs (A4 t2 t3 t4 t7) ?_;refine c9 S5 rfl rfl ?_;refine Rs (A4 t2 t3 t4 t7) ?_;have S6:GQ X x U (W5++[ak.b []]):=S5.ext ⟨_,rfl⟩;refine c9 S6 rfl rfl ?_;refine Rs (A4 t2 t3 t4 t7) ?_;refine c9 S6 rfl rfl ?_;refine Rs (A4 t2 t3 t4 t7) ?_;obtain⟨n5,hn5⟩:∃n,n=W5.length:=⟨_,rfl⟩;refine WR.ql (N:=n5) (w:=16) a8 (Nat.le_of_eq hn5) (hfx5.ba.ext Xx) (by simp only[YY];omega) λt0 g5 ft=>?_
  obtain⟨W6,TC⟩:∃Z,Z=W5++[ak.b []]++g5:=⟨_,rfl⟩;rw[<-TC]at ft ⊢;have e56:Ext W5 W6:=by rw[TC,YR];exact⟨_,rfl⟩
  have S7:GQ X x U W6:=S5.ext e56;have oq:=S7.n;have iq:aS 1 x.sn (.i 1)=_:=(wo oq we (i:=1) De).1;have p0:=ft.ba.one;refine Rs (A4 t2 t3 t4 t7) ?_;refine c9 S7 rfl rfl ?_;refine Rs (A4 t2 t3 t4 t7) ?_;refine kW S7 (v:=x.sn) (λg hg=>?_) ?_
  ·simp only[aQ,aT,bo,bp,reduceAdd,reduceMul,reduceLeDiff,reduceEqDiff,bz,hlen,Zf,Zi,t3,aA hg.e,aI]
  refine Rs (A4 t2 t3 t4 t7) ?_;refine c9 S7 rfl rfl ?_;refine Rs (A5 t2 t3 t4 t7 @iq) ?_;refine kW S7 (v:=.str z) (λg hg=>?_) ?_
  ·have h9:=@(wo hg.n we (i:=1) De).2;rw[<-hz]at h9;refine Zs t3 ?_;exact h9 (Ext.refl _)
  refine Rs (A4 t2 t3 t4 t7) ?_;refine c9 S7 rfl rfl ?_;refine Rs (A4 t2 t3 t4 t7) ?_;refine c9 (S7.ext ⟨_,rfl⟩) rfl rfl ?_;refine Rs (A4 t2 t3 t4 t7) ?_;rw[hn5]at ft;have s6:cE B X x V W6 U:=eX.grow s5 e56;refine WR.qm (B:=W5) (cs:=y.1.aB.map ao) ft rfl e56 De (by simp only[YY];omega) ?_;intro W7 t' x7 hff hn7 q7 l7 hk7;have hrow:y.1.aB.map ao++[[AV.str z]]=(y.1.aB++[z]).map ao:=by rw[Y5];rfl
  rw[hrow]at hff;have k7:∀i,i<W5.length->W7[i]? =W5[i]? :=λi hi=>x7.get hi
  have s7:cE B X x V W7 U:=eX.grow s5 x7;have S8:GQ X x U W7:=S5.ext x7;refine Rs (A4 t2 t3 t4 t7) ?_;refine o9 S8 rfl ?_;have hs27:Fr B.length W7 U.s2 3 (U.aj.map aX):=s7.bk.o.i2;have ix:aS 3 U.s2 (.i (k:Int))=some (cN U.s2 3 k,.au):=oU.i2.dG UU;refine Rs (A6 t2 t3 t4 t7 ix q7) ?_;refine WR.BZ (B:=B) (x':=(⟨y.1.name,y.1.line,y.1.aB++[z]⟩,t')) (row:=aX) hs27 s7.ex UU De q7 (by rw[<-hy];rfl) ?_;intro W8 x8 l8 hf8 hk8;have ft8:Fr B.length W8 t' 1 ((y.1.aB++[z]).map ao):=(hff.aD λi hi=>hk8 i λe=>by
   have h1:=(hff.bN hi).1;have h2:=(s5.bk.o.dR (b:=i) (by rw[<-e];simp[RV.bl])).2;omega).low s5.ex.len
  have s8:cE B X x V W8 {U with aj:=U.aj.set k (⟨y.1.name,y.1.line,y.1.aB++[z]⟩,t') }:=eX.qS s UU hf8 ft8 (λj hj=>by have h1:=(hff.bN hj).1;have:=XP.len;omega) (λj hj n1 n2=>by
   rw[hk8 j n1,k7 j (by have:=XP.len;omega)];exact XP.get hj) x8 (by have:=XP.len;have:=e56.len;omega)
  refine Rs (A5 t2 t3 t4 t7 e5) ?_;refine⟨_,Om,k+1,_,Om,rfl,s8,Se,(by simp only[ZI];exact TF),hreg,next _ (by simp only[ZI];exact TF) (λi hi hi'=>?_),rfl⟩;by_cases TO:i=k
  ·subst TO;simp only[aaT,Zi];rw[<-hy,fO,Zb ⟨c1,c2⟩]
  ·exact JI
 ·have e3:decide ((k:Int)<V.aj.length)=false:=YS Om;have e4:k=V.aj.length:=Om
  have ll:∀(G:Nat->Option ak),Go.Abs.jh .sl G U.s2=some V.aj.length:=λG=>by rw[oU.i2.aJ,TF]
  refine Rs (kS t2 t3 t4 t7 @lr @dy @ll e3 @aF @sb @gm) ?_;rw[Td];refine cE.fin s (λ_=>?_);exact QR
def Ct{d}(hd:d=.line\/d=.tape\/d=.gx\/d=.copy\/d=.accept)(o:cH B.length X V)(w:eJ V.an)(hx:Ext B X)(ox:bw B x)(we:ko x.ev d)(nk:sI V.an x.ev d):
  dm P 225 [.agg V.row,.agg x.row] X (rW B X V (bC V.an x.ev d) (dq V.an x.ev d)):=by
 refine .of T.mix (abq T.c225 (Zz some Of)) ?_;obtain⟨ts,RG⟩:∃ts,ts=aR 250 [.agg V.row,.agg x.row]:=⟨_,rfl⟩;have hlen:ts.length=250:=by rw[RG];rfl
 have t0:slot ts 0=.agg V.row:=by rw[RG];rfl
 have t1:slot ts 1=.agg x.row:=by rw[RG];rfl
 show WC P bL (.seq ((fn225).body.hd) zN) [] (aR 250 [.agg V.row,.agg x.row]) X (FQ [(4,some (some 7)),(5,none)] (rW B X V (bC V.an x.ev d) (dq V.an x.ev d)));rw[<-RG];clear RG;have RF:=@aC.box _ _ o.ok;have hex:=@bw.box _ _ (ox.ext hx);have s:cE B X x V (X++[.b V.row]++[.b x.row]++[.b kT]) V:=by
  exact z20
 unfold kT at s;generalize hB:zN=R;unfold fn225;simp only[ai.hd];refine Rs (A4 t0 t1 @RF @hex) ?_;rw[<-hB];rcases hd with rfl|rfl|rfl|rfl|rfl
 ·exact D4 T w ox we nk s Sn Sw (by simp only[aQ,aT,bo,bp,reduceAdd,reduceMul,reduceLeDiff,reduceEqDiff,bz,hlen,Zf,Zi];simp) (by simp only[aQ,aT,bo,bp,reduceAdd,reduceMul,reduceLeDiff,reduceEqDiff,bz,hlen,Zf,Zi];simp)
 ·exact D2 T w ox we nk s Sn Sw (by simp only[aQ,aT,bo,bp,reduceAdd,reduceMul,reduceLeDiff,reduceEqDiff,bz,hlen,Zf,Zi];simp) (by simp only[aQ,aT,bo,bp,reduceAdd,reduceMul,reduceLeDiff,reduceEqDiff,bz,hlen,Zf,Zi];simp)
 ·exact D3 T w ox we nk s Sn Sw (by simp only[aQ,aT,bo,bp,reduceAdd,reduceMul,reduceLeDiff,reduceEqDiff,bz,hlen,Zf,Zi];simp) (by simp only[aQ,aT,bo,bp,reduceAdd,reduceMul,reduceLeDiff,reduceEqDiff,bz,hlen,Zf,Zi];simp)
 ·exact D5 T w ox we nk s Sn Sw (by simp only[aQ,aT,bo,bp,reduceAdd,reduceMul,reduceLeDiff,reduceEqDiff,bz,hlen,Zf,Zi];simp) (by simp only[aQ,aT,bo,bp,reduceAdd,reduceMul,reduceLeDiff,reduceEqDiff,bz,hlen,Zf,Zi];simp)
 ·exact zM T w ox we nk s Sn Sw (by simp only[aQ,aT,bo,bp,reduceAdd,reduceMul,reduceLeDiff,reduceEqDiff,bz,hlen,Zf,Zi];simp) (by simp only[aQ,aT,bo,bp,reduceAdd,reduceMul,reduceLeDiff,reduceEqDiff,bz,hlen,Zf,Zi];simp)
end
def eX.LS{B W0 W W2 b K U}(s:eX B W0 b K W U)(hk:∀i,i<W.length->W2[i]? =W[i]?)(hl:W.length<=W2.length)(hx:Ext B W2):eX B W0 b K W2 U:=by
 refine⟨⟨s.bk.o.au λi hi=>hk i (s.bk.o.dR hi).2,s.bk.hN,(hk _ s.bk.lt).trans s.bk.m,s.bk.ne⟩,hx,ZL s.ln hl,λi hi=>?_,s.kl⟩;rw[hk i (ZQ (s.kl i hi).1 s.ln)];exact s.kp i hi
structure uQ(B W Y:ah)(mb:Nat)(c:List AV)(t:AV)(ins:List (By)):Prop where
 k:∀i,i<W.length->Y[i]? =W[i]?
 b:B.length<=W.length
 l:W.length<=mb
 x:Ext B Y
 m:Y[mb]? =some (.b c)
 f:Fr W.length Y t 1 (ins.map ao)
 n:∀i,sB t=some i->i≠mb
def uQ.lt{B W Y mb c t ins}(s:uQ B W Y mb c t ins):mb<Y.length:=(YQ.1 s.m).1
def uQ.grow{B W Y Y2 mb c t ins}(s:uQ B W Y mb c t ins)(e:Ext Y Y2):uQ B W Y2 mb c t ins:=by
 have h1:=s.lt;have h2:=s.l;exact⟨λi hi=>by rw[e.get Om,s.k i hi],s.b,s.l,s.x.trans e,e.some s.m,s.f.ext e,s.n⟩
theorem uQ.set{B W Y mb c t ins}(s:uQ B W Y mb c t ins)(c':List AV):uQ B W (Y.set mb (.b c')) mb c' t ins:=by
 have h1:=s.lt;have h2:=s.l;have h3:=s.b;exact⟨λi hi=>by rw[Zc Om,s.k i hi],s.b,s.l,s.x.iQ Om,Zd h1,s.f.aD λi hi=>Zc (aam (s.n i hi)),s.n⟩
def uQ.rc{B X W Y x V mb c t ins}(s:uQ B W Y mb c t ins)(r:cE B X x V W V):cE B X x V Y V:=
 eX.LS r s.k (by have:=s.lt;have:=s.l;omega) s.x
def uQ.st{B W Y mb c t ins}(s:uQ B W Y mb c t ins){i v}(hv:v.one=true)(hi:i+1<=c.length):aW 1 (.ptr mb i) v (λz=>Y[z]?)=some (az,.set mb (.b (c.set i v))):=
 (aL s.m).trans (bX hv hi)
def wE(k:Nat):ai:=(fn226).body.dr k
def Fg(k:Nat):ai:=((fn226).body.dr k).hd
def P6:wE 1=.seq (Fg 1) (wE 2):=rfl
def IM:wE 2=.seq (Fg 2) (wE 3):=rfl
def P7:fn226=⟨96,2,[(4,some (some 7)),(5,none)],.seq (Fg 0) (wE 1)⟩:=rfl
section
variable {P:Program}(T:fp P) {B X W Y:ah}{ts:TS}{V:RV}{x:EV}{mb:Nat}
include T
theorem uv(w:eJ V.an)(s:cE B X x V W V){y t ins}(hb:uQ B W Y mb [.str y.name,.str y.gives,.str y.line,t] t ins)(hy:y.bA=ins)(hlen:ts.length=96)(t2:slot ts 2=.ptr X.length 0)(t4:slot ts 4=.ptr (X.length+2) 0)(t6:slot ts 6=.ptr mb 0):
  WC P bL (wE 3) [] ts Y (FQ [(4,some (some 7)),(5,none)] (rW B X V (if 32<=V.an.aE.length then 5 else 0) {V.an with aE:=V.an.aE++[y] })):=by
 have sY:=hb.rc s;have oV:=sY.bk.o.ok;have lm:=@eE _ _ _ hb.m;have hml:V.an.aE.length=V.aE.length:=by simp[RV.an]
 have ot:=hb.f.ba.one;obtain⟨lr,le,sb,gm⟩:=cE.fa sY;unfold wE fn226;simp only[ai.j,ai.s,ai.r,ai.dr,ai.tl];by_cases h1:32<=V.aE.length
 case pos=>
  have e1:decide ((32:Int)<=(V.aE.length:Int))=true:=YW Om;refine Rs (lQ t2 t4 t6 @lr @fP oV.i3.aJ e1 @aF @sb @gm) ?_;rw[hml,Zb h1];exact JE
 have e1:decide ((32:Int)<=(V.aE.length:Int))=false:=YS Om;obtain⟨z,hz⟩:∃z:List AV,z=aV (y,t):=⟨_,rfl⟩;have TJ:[AV.str y.name,.str y.gives,.str y.line,t]=z:=by rw[hz];rfl
 refine Rs (A9 t2 t4 t6 @lr @fP oV.i3.aJ e1 @lm @ot) ?_;rw[TJ];refine WR.qm (B:=B) (cs:=V.aE.map aV) (sY.bk.o.i3) (by rw[hz];rfl) sY.ex De (by rw[YY];omega) ?_;intro W5 s' x5 hff hn5 q5 l5 hk5;have hrow:V.aE.map aV++[z]=(V.aE++[(y,t)]).map aV:=by rw[Y5,hz];rfl
 rw[hrow]at hff;have hlW:W.length<=Y.length:=by have:=hb.lt;have:=hb.l;omega
 have bU:∀i,sB t=some i->sB V.s3≠some i:=λi hi e=>by
  have h1:=(hb.f.bN hi).1;have h2:=(s.bk.o.dR (b:=i) (by rw[<-e];simp[RV.bl])).2;omega
 have f5:Fr B.length W5 t 1 (y.bA.map ao):=by
  rw[hy];exact(hb.f.aD λi hi=>hk5 i (hb.f.bN hi).2 (bU i hi)).low hb.b
 have s5:cE B X x V (W5.set X.length (.b (V.row.set 4 s'))) {V with aE:=V.aE++[(y,t)],s3:=s'}:=eX.p3 s hff f5 (λi hi=>.inr (by have:=hn5 i hi;omega)) (λi hi=>⟨(hb.f.bN hi).1,λe=>by have:=hn5 i e;have:=(hb.f.bN hi).2;omega⟩) (λi hi hne=>(hk5 i Om hne).trans (hb.k i hi)) x5 Om;have mB:W5[X.length]? =some (.b V.row):=(hk5 _ sY.bk.lt (λz=>sY.bk.ne (by rw[<-z];simp[RV.bl]))).trans sY.bk.m;have Tu:aW 1 (.ptr X.length 4) s' (λz=>W5[z]?)=some (az,.set X.length (.b (V.row.set 4 s'))):=(aL mB).trans (bX q5 (by show 4+1<=7;omega));refine Rs (A5 t2 t4 t6 @Tu q5) ?_;obtain⟨W6,TC⟩:∃Z,Z=W5.set X.length (.b (V.row.set 4 s')):=⟨_,rfl⟩
 rw[<-TC]at s5 ⊢;obtain⟨lr,le,sb,gm⟩:=cE.fa s5;refine Rs (A7 t2 t4 t6 @lr @aF @sb @gm) ?_;rw[hml,Y6 h1];exact cE.fin s5 (λ_=>by simp only[RV.an,Y5,ZP,aaF])
variable {t:AV}
def Ax(w:eJ V.an)(ox:bw B x)(we:ko x.ev .source)(nk:sI V.an x.ev .source)(s:cE B X x V W V)(hb:uQ B W Y mb [.str (aM x.ev 0),.str [],.str [],t] t (x.ev.names.drop 1))(ht:t.one=true)(hlen:ts.length=96)(t2:slot ts 2=.ptr X.length 0)(t3:slot ts 3=.ptr (X.length+1) 0)(t4:slot ts 4=.ptr (X.length+2) 0)(t6:slot ts 6=.ptr mb 0):
  WC P bL (wE 2) [] ts Y (FQ [(4,some (some 7)),(5,none)] (rW B X V (bC V.an x.ev .source) (dq V.an x.ev .source))):=by
 have sY:=hb.rc s;have ow:=ox.ext sY.ex;have oV:=sY.bk.o.ok;have RM:x.ev.kind=bh .source:=bW we.kd;have lm:=@eE _ _ _ hb.m;obtain⟨lr,le,sb,gm⟩:=cE.fa sY;rw[IM];generalize hR:wE 3=R;unfold Fg fn226;simp only[ai.j,ai.s,ai.r,ai.dr,ai.tl,ai.hd];refine ph (mQ t2 t3 t4 t6 @le @bj @RM @iD @j8 @jt @Zt @Zl) ?_;refine pa (λg=>cE B X x V g V) ?_;refine c9 sY rfl rfl ?_;refine Rs (A4 t2 t3 t4 t6) ?_;refine kW sY (v:=x.sn) (λg hg=>?_) ?_
 ·simp only[aQ,aT,bo,bp,reduceAdd,reduceMul,reduceLeDiff,reduceEqDiff,bz,hlen,Zf,Zi,t3,cE.le hg (Ext.refl _),aI]
 refine Rs (A4 t2 t3 t4 t6) ?_;have i1:aS 1 x.sn (.i 1)=_:=(wo ow we (i:=1) De).1;refine c9 sY rfl rfl ?_;refine Rs (A5 t2 t3 t4 t6 @i1) ?_;refine kW sY (v:=.str (aM x.ev 1)) (λg hg=>?_) ?_
 ·have h9:=@(wo (ox.ext (eX.ex hg)) we (i:=1) De).2;refine Zs t3 ?_;exact h9 (Ext.refl _)
 refine Rs (A4 t2 t3 t4 t6) ?_;refine c9 sY rfl rfl ?_;refine Rs (A4 t2 t3 t4 t6) ?_;have Sf:=hb.set [.str (aM x.ev 0),.str dQ,.str [],t];have kU:aW 1 (.ptr mb 1) (.str [115,104,111,116,115]) (λz=>Y[z]?)=some (az,.set mb (.b [.str (aM x.ev 0),.str dQ,.str [],t])):=hb.st rfl (by show 1+1<=4;omega);obtain⟨Y1,VP⟩:∃Z,Z=Y.set mb (.b [.str (aM x.ev 0),.str dQ,.str [],t]):=⟨_,rfl⟩;rw[<-VP]at Sf;refine c9 sY rfl rfl ?_;refine Rs (A5 t2 t3 t4 t6 @kU) ?_;rw[<-VP];have S1:=Sf.rc s;refine o9 S1 rfl ?_;have Su:=Sf.set [.str (aM x.ev 0),.str dQ,.str (aM x.ev 1),t];have eP:aW 1 (.ptr mb 2) (.str (aM x.ev 1)) (λz=>Y1[z]?)=some (az,.set mb (.b [.str (aM x.ev 0),.str dQ,.str (aM x.ev 1),t])):=Sf.st rfl (by show 2+1<=4;omega)
 have Ue:=Su.set [.str (aM x.ev 0),.str dQ,.str (aM x.ev 1),.af];have nM:aW 1 (.ptr mb 3) .af (λz=>(Y1.set mb (.b [.str (aM x.ev 0),.str dQ,.str (aM x.ev 1),t]))[z]?)=some (az,.set mb (.b [.str (aM x.ev 0),.str dQ,.str (aM x.ev 1),.af])):=Su.st rfl (by show 3+1<=4;omega);have hb4:uQ B W _ mb [.str (aM x.ev 0),.str dQ,.str (aM x.ev 1),.af] .af []:=⟨Ue.k,Ue.b,Ue.l,Ue.x,Ue.m,.nil,λi hi=>by cases hi⟩;refine Rs (A6 t2 t3 t4 t6 @eP @nM) ?_;rw[<-hR];exact uv T w s (y:=⟨aM x.ev 0,dQ,aM x.ev 1,[]⟩) hb4 rfl Sn (Sq t2) (Sq t4) (Sq t6)
def Ff(w:eJ V.an)(ox:bw B x)(we:ko x.ev .fW)(nk:sI V.an x.ev .fW)(s:cE B X x V W V)(hb:uQ B W Y mb [.str (aM x.ev 0),.str [],.str [],t] t (x.ev.names.drop 1))(ht:t.one=true)(hlen:ts.length=96)(t2:slot ts 2=.ptr X.length 0)(t3:slot ts 3=.ptr (X.length+1) 0)(t4:slot ts 4=.ptr (X.length+2) 0)(t6:slot ts 6=.ptr mb 0):
  WC P bL (wE 2) [] ts Y (FQ [(4,some (some 7)),(5,none)] (rW B X V (bC V.an x.ev .fW) (dq V.an x.ev .fW))):=by
 have sY:=hb.rc s;have ow:=ox.ext sY.ex;have oV:=sY.bk.o.ok;have RM:x.ev.kind=bh .fW:=bW we.kd;have lm:=@eE _ _ _ hb.m;obtain⟨lr,le,sb,gm⟩:=cE.fa sY;obtain⟨i1,d1⟩:=bM ow we 1 1 rfl De;obtain⟨j1,f1,q1⟩:=cU ow we 1 1 rfl De;have k1:aM x.ev 1∈iC V.an:=nk.kn 1 3 rfl;rw[IM];generalize hR:wE 3=R;unfold Fg fn226;simp only[ai.j,ai.s,ai.r,ai.dr,ai.tl,ai.hd];refine ph (GU @t2 @t3 @t4 @t6 @le @lr @aI @aY @aF @bj @RM @iD @j8 @jt @Zt @Zl @j1 @f1) ?_;refine WF.ce T.c20 (r20 T _ _ _) λg1=>?_
 obtain⟨Y1,VP⟩:∃Z,Z=Y++g1:=⟨_,rfl⟩;rw[<-VP];have hb:=hb.grow (show Ext Y Y1 from⟨g1,VP⟩);have sY:=hb.rc s;have ow:=ox.ext sY.ex;have oV:=sY.bk.o.ok;have lm:=@eE _ _ _ hb.m;obtain⟨lr,le,sb,gm⟩:=cE.fa sY;obtain⟨i1,d1⟩:=bM ow we 1 1 rfl De;obtain⟨j1,f1,q1⟩:=cU ow we 1 1 rfl De;by_cases h1:bg (bH x.ev 1) 1 4=0
 case neg=>
  have e1:decide (bg (bH x.ev 1) 1 4≠0)=true:=YW h1;refine Rs (A8 t2 t3 t4 e1 @lr @aF @sb @gm) ?_;rw[bC,Zb h1];exact JE
 have e1:decide (bg (bH x.ev 1) 1 4≠0)=false:=YS (λz=>z h1);refine Rs (mQ t2 t3 t4 t6 @le @lr @aI @aY @aF e1 @j1 @f1) ?_;refine WF.ce T.c263 (r263 T _) λg2=>?_
 obtain⟨Y2,Uf⟩:∃Z,Z=Y1++g2:=⟨_,rfl⟩;rw[<-Uf];have hb:=hb.grow (show Ext Y1 Y2 from⟨g2,Uf⟩);have sY:=hb.rc s;have ow:=ox.ext sY.ex;have oV:=sY.bk.o.ok;have lm:=@eE _ _ _ hb.m;obtain⟨lr,le,sb,gm⟩:=cE.fa sY;obtain⟨i1,d1⟩:=bM ow we 1 1 rfl De;obtain⟨j1,f1,q1⟩:=cU ow we 1 1 rfl De;refine Rs (kS t2 t3 t4 t6 @le @lr @aI @aY @aF @i1 @d1) ?_;refine WF.ce T.c264 (r264 T (oV.ext Xx) w.len k1) λg3=>?_
 obtain⟨Y3,hY3⟩:∃Z,Z=Y2++g3:=⟨_,rfl⟩;rw[<-hY3];have hb:=hb.grow (show Ext Y2 Y3 from⟨g3,hY3⟩);have sY:=hb.rc s;have ow:=ox.ext sY.ex;have oV:=sY.bk.o.ok;have lm:=@eE _ _ _ hb.m;obtain⟨lr,le,sb,gm⟩:=cE.fa sY;by_cases h2:(gS V.an (aM x.ev 1)).gives=mT (bH x.ev 1)
 case neg=>
  have e2:decide ((gS V.an (aM x.ev 1)).gives≠mT (bH x.ev 1))=true:=YW h2;refine Rs (A9 t2 t3 t4 t6 e2 @lr @aF @sb @gm) ?_;rw[bC,Y6 (λz=>z h1),Zb h2];exact JE
 have e2:decide ((gS V.an (aM x.ev 1)).gives≠mT (bH x.ev 1))=false:=YS (λz=>z h2);have Sf:=hb.set [.str (aM x.ev 0),.str (jS (bH x.ev 1)),.str [],t];have kU:aW 1 (.ptr mb 1) (.str (jS (bH x.ev 1))) (λz=>Y3[z]?)=some (az,.set mb (.b [.str (aM x.ev 0),.str (jS (bH x.ev 1)),.str [],t])):=hb.st rfl (by show 1+1<=4;omega);refine Rs (A6 t2 t3 t4 t6 e2 @kU) ?_;rw[<-hR];have hc:bC V.an x.ev .fW=if 32<=V.an.aE.length then 5 else 0:=by rw[bC,Y6 (λz=>z h1),Y6 (λz=>z h2)]
 rw[hc];exact uv T w s (y:=⟨aM x.ev 0,jS (bH x.ev 1),[],x.ev.names.drop 1⟩) Sf rfl Sn (Sq t2) (Sq t4) (Sq t6)
def CV(w:eJ V.an)(ox:bw B x)(we:ko x.ev .merge)(nk:sI V.an x.ev .merge)(s:cE B X x V W V)(hb:uQ B W Y mb [.str (aM x.ev 0),.str [],.str [],t] t (x.ev.names.drop 1))(ht:t.one=true)(hlen:ts.length=96)(t2:slot ts 2=.ptr X.length 0)(t3:slot ts 3=.ptr (X.length+1) 0)(t4:slot ts 4=.ptr (X.length+2) 0)(t6:slot ts 6=.ptr mb 0):
  WC P bL (wE 2) [] ts Y (FQ [(4,some (some 7)),(5,none)] (rW B X V (bC V.an x.ev .merge) (dq V.an x.ev .merge))):=by
 have sY:=hb.rc s;have ow:=ox.ext sY.ex;have oV:=sY.bk.o.ok;have RM:x.ev.kind=bh .merge:=bW we.kd;have lm:=@eE _ _ _ hb.m;obtain⟨lr,le,sb,gm⟩:=cE.fa sY;obtain⟨i1,d1⟩:=bM ow we 1 1 rfl De;obtain⟨i2,d2⟩:=bM ow we 2 2 rfl De;have k1:aM x.ev 1∈iC V.an:=nk.kn 1 3 rfl;have k2:aM x.ev 2∈iC V.an:=nk.kn 2 3 rfl;rw[IM];generalize hR:wE 3=R;unfold Fg fn226;simp only[ai.j,ai.s,ai.r,ai.dr,ai.tl,ai.hd];by_cases h1:aM x.ev 1=aM x.ev 2
 case pos=>
  have e1:decide (aM x.ev 1=aM x.ev 2)=true:=YW h1;refine ph (Qr @t2 @t3 @t4 @t6 @le @lr @aI @aY @aF @bj @RM @iD @j8 @jt @Zt @Zl @i1 @d1 @i2 @d2 @e1 @sb @gm) ?_;rw[bC,Zb h1];exact JE
 have e1:decide (aM x.ev 1=aM x.ev 2)=false:=YS h1;refine ph (Ra @t2 @t3 @t4 @t6 @le @lr @aI @aY @aF @bj @RM @iD @j8 @jt @Zt @Zl @i1 @d1 @i2 @d2 @e1) ?_;refine WF.ce T.c264 (r264 T (oV.ext Xx) w.len k1) λg2=>?_
 obtain⟨Y1,VP⟩:∃Z,Z=Y++g2:=⟨_,rfl⟩;rw[<-VP];have hb:=hb.grow (show Ext Y Y1 from⟨g2,VP⟩);have sY:=hb.rc s;have ow:=ox.ext sY.ex;have oV:=sY.bk.o.ok;have lm:=@eE _ _ _ hb.m;obtain⟨lr,le,sb,gm⟩:=cE.fa sY;have Sf:=hb.set [.str (aM x.ev 0),.str (gS V.an (aM x.ev 1)).gives,.str [],t];have kU:aW 1 (.ptr mb 1) (.str (gS V.an (aM x.ev 1)).gives) (λz=>Y1[z]?)=some (az,.set mb (.b [.str (aM x.ev 0),.str (gS V.an (aM x.ev 1)).gives,.str [],t])):=hb.st rfl (by show 1+1<=4;omega);refine Rs (A5 t2 t3 t4 t6 @kU) ?_;obtain⟨Y2,Uf⟩:∃Z,Z=Y1.set mb (.b [.str (aM x.ev 0),.str (gS V.an (aM x.ev 1)).gives,.str [],t]):=⟨_,rfl⟩
 rw[<-Uf]at Sf ⊢;have hb:=Sf;obtain⟨Y3,hY3⟩:∃Z,Z=Y2++[]:=⟨_,rfl⟩;rw[Zr]at hY3;rw[<-hY3];have hb:=hb.grow (show Ext Y2 Y3 from⟨[],by rw[Zr];exact hY3⟩);have sY:=hb.rc s;have ow:=ox.ext sY.ex;have oV:=sY.bk.o.ok;have lm:=@eE _ _ _ hb.m;obtain⟨lr,le,sb,gm⟩:=cE.fa sY;obtain⟨i1,d1⟩:=bM ow we 1 1 rfl De;obtain⟨i2,d2⟩:=bM ow we 2 2 rfl De;refine Rs (kS t2 t3 t4 t6 @le @lr @aI @aY @aF @i2 @d2) ?_;refine WF.ce T.c264 (r264 T (oV.ext Xx) w.len k2) λg3=>?_
 obtain⟨Y4,hY4⟩:∃Z,Z=Y3++g3:=⟨_,rfl⟩;rw[<-hY4];have hb:=hb.grow (show Ext Y3 Y4 from⟨g3,hY4⟩);have sY:=hb.rc s;have ow:=ox.ext sY.ex;have oV:=sY.bk.o.ok;have lm:=@eE _ _ _ hb.m;obtain⟨lr,le,sb,gm⟩:=cE.fa sY;by_cases h2:(gS V.an (aM x.ev 1)).gives=(gS V.an (aM x.ev 2)).gives
 case neg=>
  have e2:decide ((gS V.an (aM x.ev 2)).gives≠(gS V.an (aM x.ev 1)).gives)=true:=YW (λz=>h2 z.symm);refine Rs (lQ t2 t3 t4 t6 @lm e2 @lr @aF @sb @gm) ?_;rw[bC,Y6 h1,Zb h2];exact JE
 have e2:decide ((gS V.an (aM x.ev 2)).gives≠(gS V.an (aM x.ev 1)).gives)=false:=YS (λz=>z h2.symm);refine Rs (A6 t2 t3 t4 t6 @lm e2) ?_;rw[<-hR];have hc:bC V.an x.ev .merge=if 32<=V.an.aE.length then 5 else 0:=by rw[bC,Y6 h1,Y6 (λz=>z h2)]
 rw[hc];exact uv T w s (y:=⟨aM x.ev 0,(gS V.an (aM x.ev 1)).gives,[],x.ev.names.drop 1⟩) hb rfl Sn (Sq t2) (Sq t4) (Sq t6)
omit T in
theorem Gg(o:cH B.length X V)(hx:Ext B X):cE B X x V (X++[.b V.row]++[.b x.row]++[.b kT]) V:=by
 exact z20
def CS{d}(hd:d=.source\/d=.fW\/d=.merge)(w:eJ V.an)(ox:bw B x)(we:ko x.ev d)(nk:sI V.an x.ev d)(s:cE B X x V W V)(hlen:ts.length=96)(t2:slot ts 2=.ptr X.length 0)(t3:slot ts 3=.ptr (X.length+1) 0)(t4:slot ts 4=.ptr (X.length+2) 0):
  WC P bL (wE 1) [] ts W (FQ [(4,some (some 7)),(5,none)] (rW B X V (bC V.an x.ev d) (dq V.an x.ev d))):=by
 have ow:=ox.ext s.ex;have hn1:1<=x.ev.names.length:=by rw[we.nl];rcases hd with rfl|rfl|rfl<;>decide
 have hn3:x.ev.names.length<=3:=by rw[we.nl];rcases hd with rfl|rfl|rfl<;>decide
 have U6:0<(bK d).length:=by rw[<-we.nl];exact hn1
 obtain⟨i0,d0⟩:=bM ow we 0 0 rfl U6;obtain⟨lr,le,sb,gm⟩:=cE.fa s;obtain⟨s',es',RH⟩:=ow.n.Dl (lo:=some (.i 1)) (hi:=none) (my (k:=1) hn1);have et:List.take (x.ev.names.length-1) (List.drop 1 x.ev.names)=x.ev.names.drop 1:=ZE Si;rw[et]at RH;rw[P6];generalize hR:wE 2=R;unfold Fg fn226;simp only[ai.j,ai.s,ai.r,ai.dr,ai.tl,ai.hd];refine Rs (A8 t2 t3 t4 @le @aI @i0 @d0 @es') ?_;refine WR.ql (N:=W.length) (w:=16) a8 (Y9 _) (RH.ext Xx) (by simp only[YY,aa7];omega) λt g f=>?_
 have ot:=f.ba.one;obtain⟨Y,hY⟩:∃Z,Z=W++[ak.b []]++g:=⟨_,rfl⟩;rw[<-hY]at f ⊢;have eY:Ext W Y:=by rw[hY,YR];exact⟨_,rfl⟩
 refine Rs (A4 t2 t3 t4 @ot) ?_;have hb:uQ B W (Y++[ak.b [AV.str (aM x.ev 0),.str [],.str [],t]]) Y.length [AV.str (aM x.ev 0),.str [],.str [],t] t (x.ev.names.drop 1):=by
  refine⟨λi hi=>?_,s.ex.len,eY.len,s.ex.trans (eY.trans ⟨_,rfl⟩),a8,f.app _,λi hi e=>?_⟩
  ·rw[YT (by have:=eY.len;omega),eY.get hi]
  ·have:=(f.bN hi).2;omega
 rw[<-hR];rcases hd with rfl|rfl|rfl
 ·exact Ax T w ox we nk s hb ot Sn (Sq t2) (Sq t3) (Sq t4) Sw
 ·exact Ff T w ox we nk s hb ot Sn (Sq t2) (Sq t3) (Sq t4) Sw
 ·exact CV T w ox we nk s hb ot Sn (Sq t2) (Sq t3) (Sq t4) Sw
def Ij{d}(hd:d=.source\/d=.fW\/d=.merge)(o:cH B.length X V)(w:eJ V.an)(hx:Ext B X)(ox:bw B x)(we:ko x.ev d)(nk:sI V.an x.ev d):
  dm P 226 [.agg V.row,.agg x.row] X (rW B X V (bC V.an x.ev d) (dq V.an x.ev d)):=by
 refine .of T.mix (abq T.c226 (Zz some P7)) ?_;obtain⟨ts,RG⟩:∃ts,ts=aR 96 [.agg V.row,.agg x.row]:=⟨_,rfl⟩;have hlen:ts.length=96:=by rw[RG];rfl
 have t0:slot ts 0=.agg V.row:=by rw[RG];rfl
 have t1:slot ts 1=.agg x.row:=by rw[RG];rfl
 show WC P bL (.seq (Fg 0) (wE 1)) [] (aR 96 [.agg V.row,.agg x.row]) X (FQ [(4,some (some 7)),(5,none)] (rW B X V (bC V.an x.ev d) (dq V.an x.ev d)));rw[<-RG];clear RG;have RF:=@aC.box _ _ o.ok;have hex:=@bw.box _ _ (ox.ext hx);have s:cE B X x V (X++[.b V.row]++[.b x.row]++[.b kT]) V:=Gg o hx;unfold kT at s;generalize hR:wE 1=R;unfold Fg fn226;simp only[ai.dr,ai.hd];refine Rs (A4 t0 t1 @RF @hex) ?_;rw[<-hR];exact CS T hd w ox we nk s Sn Sw (by simp only[aQ,aT,bo,bp,reduceAdd,reduceMul,reduceLeDiff,reduceEqDiff,bz,hlen,Zf,Zi];simp) (by simp only[aQ,aT,bo,bp,reduceAdd,reduceMul,reduceLeDiff,reduceEqDiff,bz,hlen,Zf,Zi];simp)
end
def Ai(k:Nat):ai:=(fn227).body.dr k
def PX(k:Nat):ai:=((fn227).body.dr k).hd
def PW:fn227=⟨223,2,[(4,some (some 7)),(5,none)],.seq (PX 0) (Ai 1)⟩:=rfl
structure Qm(V:RV)(n:By)(p:Nat)(J:k9×AV):Prop where
 ps:p=bn (iX V.an) n
 lt:p<V.aG.length
 g:V.aG[p]? =some J
 e:J.1=gE V.an n
 m:J∈V.aG
 i:cT (λy:k9×AV=>decide (y.1.name=n)) V.aG=(p:Int)
def O5{V n}(hn:n∈iX V.an):∃p J,Qm V n p J:=by
 have hlt:bn (iX V.an) n<V.aG.length:=by have:=cR hn;simpa [iX,RV.an]using this
 refine⟨_,V.aG[bn (iX V.an) n],rfl,hlt,YU hlt,?_,Za _,?_⟩
 ·rw[gE,de (f:=k9.name) (l:=V.an.aG) (d:=zS) hn];exact Bb
 ·rw[iJ];exact eT (f:=λy:k9×AV=>y.1.name) (by rw[<-iJ];exact hn)
theorem Qm.at{V n p J}(j:Qm V n p J):V.aG[p]'j.lt=J:=by
 have:=j.g;rw[YU j.lt]at this;exact ZU this
section
variable {P:Program}(T:fp P) {B X W:ah}{ts:TS}{V:RV}{x:EV}
include T
def IL(w:eJ V.an)(ox:bw B x)(we:ko x.ev .rel)(nk:sI V.an x.ev .rel)(s:cE B X x V W V)(hlen:ts.length=223)(t2:slot ts 2=.ptr X.length 0)(t3:slot ts 3=.ptr (X.length+1) 0)(t4:slot ts 4=.ptr (X.length+2) 0):
  WC P bL (Ai 1) [] ts W (FQ [(4,some (some 7)),(5,none)] (rW B X V (bC V.an x.ev .rel) (dq V.an x.ev .rel))):=by
 have ow:=ox.ext s.ex;have oV:=s.bk.o.ok;have RM:x.ev.kind=bh .rel:=bW we.kd;obtain⟨lr,le,sb,gm⟩:=cE.fa s;obtain⟨i0,d0⟩:=bM ow we 0 0 rfl De;unfold Ai fn227;simp only[ai.j,ai.s,ai.r,ai.dr,ai.tl];have k0:aM x.ev 0∈lh V.an:=nk.kn 0 5 rfl;have hlt:bn (lh V.an) (aM x.ev 0)<V.aN.length:=by have:=cR k0;simpa [lh,RV.an]using this
 have ei:cT (λy:qo=>decide (y.name=aM x.ev 0)) V.aN=(bn (lh V.an) (aM x.ev 0):Int):=eT (f:=qo.name) k0;have sp:j5 V.an (aM x.ev 0)=V.aN[bn (lh V.an) (aM x.ev 0)]:=de k0;obtain⟨p,hp⟩:∃p,p=bn (lh V.an) (aM x.ev 0):=⟨_,rfl⟩;rw[<-hp]at ei;have hlt:p<V.aN.length:=by rw[hp];exact hlt
 have sp:j5 V.an (aM x.ev 0)=V.aN[p]:=by rw[sp];congr 1;exact hp.symm
 refine ph (yu @t2 @t3 @t4 @le @lr @bj @aI @aY @aF @RM @gU @Zt @Zl @i0 @d0) ?_;refine WF.ce T.c57 (r57 T (oV.ext Xx) w.len _) λg1=>?_
 rw[ei];obtain⟨W2,So⟩:∃Z,Z=W++g1:=⟨_,rfl⟩;rw[<-So];have R5:cE B X x V W2 V:=by rw[So];exact eX.grow s ⟨g1,rfl⟩
 have ow:=ox.ext R5.ex;have oV:=R5.bk.o.ok;obtain⟨lr,le,sb,gm⟩:=cE.fa R5;have ix:aS 4 V.s5 (.i (p:Int))=some (cN V.s5 4 p,.au):=oV.i5.dG hlt;have l3:∀{k:ah},Ext W2 k->aq none (lL V.s5 4 p 3) (λb=>k[b]?)=some (.bool (j5 V.an (aM x.ev 0)).rel,.au):=λ{k} e=>by rw[sp];exact oV.i5.pW hlt rfl e
 cases h1:(j5 V.an (aM x.ev 0)).rel with
 |true=>
  rw[h1]at l3;refine Rs (lQ t2 t3 t4 ix @l3 @lr @aF @iG @sb @gm) ?_;rw[bC,Zb h1];exact JF
 |false=>
  rw[h1]at l3;have Td:bC V.an x.ev .rel=0:=by rw[bC,Y6 (by rw[h1];decide)]
  refine Rs (A7 t2 t3 t4 ix @l3 @lr @iG) ?_;refine WR.BZ (B:=B) (x':={V.aN[p]with rel:=true}) (row:=dh) R5.bk.o.i5 R5.ex hlt De rfl rfl ?_;intro W5 x5 l5 hff hk5;have s5:cE B X x V W5 {V with aN:=V.aN.set p {V.aN[p]with rel:=true} }:=eX.q5 R5 hff (λi _ hne=>hk5 i hne) x5 Om;obtain⟨lr,_,sb,gm⟩:=cE.fa s5;refine Rs (A7 t2 t3 t4 @lr @aF @sb @gm) ?_;exact z183
def ET(w:eJ V.an)(ox:bw B x)(we:ko x.ev .gy)(nk:sI V.an x.ev .gy)(s:cE B X x V W V)(hlen:ts.length=223)(t2:slot ts 2=.ptr X.length 0)(t3:slot ts 3=.ptr (X.length+1) 0)(t4:slot ts 4=.ptr (X.length+2) 0):
  WC P bL (Ai 1) [] ts W (FQ [(4,some (some 7)),(5,none)] (rW B X V (bC V.an x.ev .gy) (dq V.an x.ev .gy))):=by
 have ow:=ox.ext s.ex;have oV:=s.bk.o.ok;have RM:x.ev.kind=bh .gy:=bW we.kd;obtain⟨lr,le,sb,gm⟩:=cE.fa s;obtain⟨i0,d0⟩:=bM ow we 0 0 rfl De;obtain⟨i1,d1⟩:=bM ow we 1 1 rfl De;unfold Ai fn227;simp only[ai.j,ai.s,ai.r,ai.dr,ai.tl];have k1:aM x.ev 1∈iX V.an:=nk.kn 1 4 rfl;obtain⟨p,J,jx⟩:=O5 k1;have ix:aS 3 V.s4 (.i (p:Int))=some (cN V.s4 3 p,.au):=oV.i4.dG jx.lt;refine ph (Dr t2 t3 t4 @le @lr @bj @aI @aY @gh @aF @RM @gU @Zt @Zl @i1 @d1) ?_;refine WF.ce T.c56 (r56 T (oV.ext Xx) w.len _) λg1=>?_
 rw[jx.i];obtain⟨W2,So⟩:∃Z,Z=W++g1:=⟨_,rfl⟩;rw[<-So];have R5:cE B X x V W2 V:=by rw[So];exact eX.grow s ⟨g1,rfl⟩
 have ow:=ox.ext R5.ex;have oV:=R5.bk.o.ok;obtain⟨lr,le,sb,gm⟩:=cE.fa R5;obtain⟨i0,d0⟩:=bM ow we 0 0 rfl De;obtain⟨i1,d1⟩:=bM ow we 1 1 rfl De;have ld:∀{k:ah},Ext W2 k->aq (some 3) (cN V.s4 3 p) (λb=>k[b]?)=some (.agg (bO J),.au):=λ{k} e=>by rw[<-jx.at];exact oV.i4.jD jx.lt e
 have oJ:=oV.e4 J jx.m;have oJ1:=oJ.one;have hJ:=w.jb J.1 (Zo jx.m);unfold bO at ld;refine Rs (A6 t2 t3 t4 ix @ld @oJ1) ?_;obtain⟨jb,hjb⟩:∃n,n=W2.length:=⟨_,rfl⟩;rw[<-hjb];obtain⟨W3,RZ⟩:∃Z,Z=W2++[ak.b [AV.str J.1.name,.str J.1.mod,J.2]]:=⟨_,rfl⟩;rw[<-RZ];have Sa:cE B X x V W3 V:=by rw[RZ];exact eX.grow R5 ⟨[ak.b [AV.str J.1.name,.str J.1.mod,J.2]],rfl⟩
 have ow:=ox.ext Sa.ex;have oV:=Sa.bk.o.ok;obtain⟨lr,le,sb,gm⟩:=cE.fa Sa;obtain⟨i0,d0⟩:=bM ow we 0 0 rfl De;obtain⟨i1,d1⟩:=bM ow we 1 1 rfl De;have mj:W3[jb]? =some (.b [AV.str J.1.name,.str J.1.mod,J.2]):=by rw[RZ,hjb];exact a8
 have lj:=@eE _ _ _ mj;have oJ:=oV.e4 J jx.m;refine Rs (kS t2 t3 t4 @le @lr @bj @aI @aY @aF @i1 @d1) ?_;refine WF.ce T.c265 (r265 T (oV.ext Xx) w.len _) λg2=>?_
 obtain⟨W4,SE⟩:∃Z,Z=W3++g2:=⟨_,rfl⟩;rw[<-SE];have Tw:cE B X x V W4 V:=by rw[SE];exact eX.grow Sa ⟨g2,rfl⟩
 have ow:=ox.ext Tw.ex;have oV:=Tw.bk.o.ok;obtain⟨lr,le,sb,gm⟩:=cE.fa Tw;obtain⟨i0,d0⟩:=bM ow we 0 0 rfl De;obtain⟨i1,d1⟩:=bM ow we 1 1 rfl De;have mj:=(show Ext W3 W4 from⟨g2,SE⟩).some mj;have lj:=@eE _ _ _ mj;have oJ:=oV.e4 J jx.m;cases h1:qb V.an (aM x.ev 1)with
 |true=>
  refine Rs (A7 t2 t3 t4 @lr @aF @sb @gm) ?_;rw[bC,Zb h1];exact z146
 |false=>
 refine Rs (A5 t2 t3 t4 @lj @oJ1) ?_;refine WF.res T.c60 (r60 T (x:=J) (oJ.ext Xx) Om) ?_;rintro vl g3 SB;obtain⟨W5,Ug⟩:∃Z,Z=W4++g3:=⟨_,rfl⟩;rw[<-Ug];have sW5:cE B X x V W5 V:=by rw[Ug];exact eX.grow Tw ⟨g3,rfl⟩
 have ow:=ox.ext sW5.ex;have oV:=sW5.bk.o.ok;obtain⟨lr,le,sb,gm⟩:=cE.fa sW5;obtain⟨i0,d0⟩:=bM ow we 0 0 rfl De;obtain⟨i1,d1⟩:=bM ow we 1 1 rfl De;rw[<-Ug]at SB;have mj:=(show Ext W4 W5 from⟨g3,Ug⟩).some mj;have lj:=@eE _ _ _ mj;have oJ:=oV.e4 J jx.m;rw[jx.e]at SB;by_cases h2:cW (gE V.an (aM x.ev 1)).bB 0=[]
 case neg=>
  have e2:decide ((0:Int)<((cW (gE V.an (aM x.ev 1)).bB 0).length:Int))=true:=YW (by have:=aaQ.2 h2;omega);refine Rs (A9 t2 t3 t4 SB.aJ e2 @lr @aF @sb @gm) ?_;rw[bC,Y6 (by rw[h1];decide),Zb h2];exact cE.fin sW5 (λz=>absurd z De)
 have e2:decide ((0:Int)<((cW (gE V.an (aM x.ev 1)).bB 0).length:Int))=false:=YS (by rw[h2];decide);by_cases h3:16<=V.aN.length
 case pos=>
  have e3:decide ((16:Int)<=(V.aN.length:Int))=true:=YW Om;refine Rs (mQ t2 t3 t4 SB.aJ e2 @lr @iG oV.i5.aJ e3 @aF @sb @gm) ?_;rw[bC,Y6 (by rw[h1];decide),Y6 (λz=>z h2),Zb (show 16<=V.an.aN.length from h3)];exact cE.fin sW5 (λz=>absurd z De)
 have e3:decide ((16:Int)<=(V.aN.length:Int))=false:=YS Om;have Td:bC V.an x.ev .gy=0:=by rw[bC,Y6 (by rw[h1];decide),Y6 (λz=>z h2),Y6 (show ¬16<=V.an.aN.length from h3)]
 refine Rs (GU t2 t3 t4 @le @lr @bj @aI @aY SB.aJ e2 @iG oV.i5.aJ e3 @i0 @d0 @i1 @d1 @lj) ?_;refine WF.ce T.c31 (r31 T (oJ.ext Xx) Om hJ.2.2.2) λg4=>?_
 rw[jx.e];obtain⟨W6,TC⟩:∃Z,Z=W5++g4:=⟨_,rfl⟩;rw[<-TC];have Wm:cE B X x V W6 V:=by rw[TC];exact eX.grow sW5 ⟨g4,rfl⟩
 have ow:=ox.ext Wm.ex;have oV:=Wm.bk.o.ok;obtain⟨lr,le,sb,gm⟩:=cE.fa Wm;obtain⟨y,hy⟩:∃y:qo,y=⟨aM x.ev 0,aM x.ev 1,fZ (gE V.an (aM x.ev 1)).bB,false⟩:=⟨_,rfl⟩;obtain⟨z,hz⟩:∃z:List AV,z=dh y:=⟨_,rfl⟩;have TJ:[AV.str (aM x.ev 0),.str (aM x.ev 1),.i (fZ (gE V.an (aM x.ev 1)).bB),.bool false]=z:=by rw[hz,hy];rfl
 refine Rs (A3 t2 t3 t4) ?_;rw[TJ];refine WR.qm (B:=B) (cs:=V.aN.map dh) (Wm.bk.o.i5) (by rw[hz];rfl) Wm.ex De (by rw[YY];omega) ?_;intro W7 s' x5 hff hn5 q5 l5 hk5;have hrow:V.aN.map dh++[z]=(V.aN++[y]).map dh:=by rw[Y5,hz];rfl
 rw[hrow]at hff;have s5:cE B X x V (W7.set X.length (.b (V.row.set 6 s'))) {V with aN:=V.aN++[y],s5:=s'}:=eX.p5 Wm hff (λi hi=>.inr (aaS (hn5 i hi))) hk5 x5 l5;have mB:W7[X.length]? =some (.b V.row):=(hk5 _ Wm.bk.lt (λz=>Wm.bk.ne (by rw[<-z];simp[RV.bl]))).trans Wm.bk.m;have Tu:aW 1 (.ptr X.length 6) s' (λz=>W7[z]?)=some (az,.set X.length (.b (V.row.set 6 s'))):=(aL mB).trans (bX q5 (by show 6+1<=7;omega));refine Rs (A5 t2 t3 t4 @Tu q5) ?_;obtain⟨W8,hW8⟩:∃Z,Z=W7.set X.length (.b (V.row.set 6 s')):=⟨_,rfl⟩;rw[<-hW8]at s5 ⊢;obtain⟨lr,_,sb,gm⟩:=cE.fa s5;refine Rs (A7 t2 t3 t4 @lr @aF @sb @gm) ?_
 rw[Td];exact cE.fin s5 (λ_=>by rw[hy];rfl)
def EU(w:eJ V.an)(ox:bw B x)(we:ko x.ev .fail)(nk:sI V.an x.ev .fail)(s:cE B X x V W V)(hlen:ts.length=223)(t2:slot ts 2=.ptr X.length 0)(t3:slot ts 3=.ptr (X.length+1) 0)(t4:slot ts 4=.ptr (X.length+2) 0):
  WC P bL (Ai 1) [] ts W (FQ [(4,some (some 7)),(5,none)] (rW B X V (bC V.an x.ev .fail) (dq V.an x.ev .fail))):=by
 have ow:=ox.ext s.ex;have oV:=s.bk.o.ok;have RM:x.ev.kind=bh .fail:=bW we.kd;obtain⟨lr,le,sb,gm⟩:=cE.fa s;obtain⟨i0,d0⟩:=bM ow we 0 0 rfl De;obtain⟨j1,f1,q1⟩:=cU ow we 1 1 rfl De;unfold Ai fn227;simp only[ai.j,ai.s,ai.r,ai.dr,ai.tl];have k0:aM x.ev 0∈iX V.an:=nk.kn 0 4 rfl;obtain⟨p,J,jx⟩:=O5 k0;have ix:aS 3 V.s4 (.i (p:Int))=some (cN V.s4 3 p,.au):=oV.i4.dG jx.lt;refine ph (yu t2 t3 t4 @le @lr @bj @aI @aY @aF @RM @gU @Zt @Zl @i0 @d0) ?_;refine WF.ce T.c56 (r56 T (oV.ext Xx) w.len _) λg1=>?_
 rw[jx.i];obtain⟨W2,So⟩:∃Z,Z=W++g1:=⟨_,rfl⟩;rw[<-So];have R5:cE B X x V W2 V:=by rw[So];exact eX.grow s ⟨g1,rfl⟩
 have ow:=ox.ext R5.ex;have oV:=R5.bk.o.ok;obtain⟨lr,le,sb,gm⟩:=cE.fa R5;obtain⟨i0,d0⟩:=bM ow we 0 0 rfl De;obtain⟨j1,f1,q1⟩:=cU ow we 1 1 rfl De;refine Rs (kS t2 t3 t4 @le @lr @bj @aI @aY @aF @i0 @d0) ?_;refine WF.ce T.c265 (r265 T (oV.ext Xx) w.len _) λg2=>?_
 obtain⟨W3,RZ⟩:∃Z,Z=W2++g2:=⟨_,rfl⟩;rw[<-RZ];have Sa:cE B X x V W3 V:=by rw[RZ];exact eX.grow R5 ⟨g2,rfl⟩
 have ow:=ox.ext Sa.ex;have oV:=Sa.bk.o.ok;obtain⟨lr,le,sb,gm⟩:=cE.fa Sa;obtain⟨i0,d0⟩:=bM ow we 0 0 rfl De;obtain⟨j1,f1,q1⟩:=cU ow we 1 1 rfl De;have oJ:=oV.e4 J jx.m;have l2:∀{k:ah},Ext W3 k->aq none (lL V.s4 3 p 2) (λb=>k[b]?)=some (J.2,.au):=λ{k} e=>oV.i4.pW jx.lt (by rw[jx.at];rfl) e
 cases h1:qb V.an (aM x.ev 0)with
 |true=>
  refine Rs (A7 t2 t3 t4 @lr @aF @sb @gm) ?_;have hc:bC V.an x.ev .fail=23:=by
   exact z131
  rw[hc];exact z40
 |false=>
 by_cases h2:(J.1.bB.length:Int)<=bH x.ev 1
 case pos=>
  have e2:decide ((J.1.bB.length:Int)<=bH x.ev 1)=true:=YW h2;refine Rs (GU t2 t3 t4 @le @lr @bj @aI @aY @gh @aF @j1 @f1 ix @l2 oJ.aJ e2 @sb @gm) ?_;have hc:bC V.an x.ev .fail=3:=by
   exact z107
  rw[hc];exact z40
 have e2:decide ((J.1.bB.length:Int)<=bH x.ev 1)=false:=YS h2;have hct:jT V.an x.ev=0:=by rw[jT,Y6 (by rw[h1];decide),<-jx.e,Y6 h2]
 have hsl:(bH x.ev 1).toNat<J.1.bB.length:=Om
 have Xi:bH x.ev 1=((bH x.ev 1).toNat:Int):=Om
 have iy:aS 1 J.2 (.i (bH x.ev 1))=some (cN J.2 1 (bH x.ev 1).toNat,.au):=by
  rw[Xi];exact oJ.dG hsl
 have hsu:fH V.an x.ev=J.1.bB[(bH x.ev 1).toNat]:=by
  exact J9
 have lv:∀{k:ah},Ext W3 k->aq none (cN J.2 1 (bH x.ev 1).toNat) (λb=>k[b]?)=some (.i (fH V.an x.ev),.au):=λ{k} e=>by rw[hsu];exact oJ.kY hsl rfl e
 have VJ:cN J.2 1 (bH x.ev 1).toNat=lL J.2 1 (bH x.ev 1).toNat 0:=rfl;by_cases h3:fH V.an x.ev<0
 case pos=>
  have e3:decide (fH V.an x.ev<0)=true:=YW h3;exact QV
 have e3:decide (fH V.an x.ev<0)=false:=YS h3;have Td:bC V.an x.ev .fail=0:=by rw[bC,Y6 (λz=>z hct),Y6 h3]
 repeat (first|simp (config:={maxSteps:=1000000}) only[aQ,aT,bo,bp,reduceAdd,reduceMul,reduceLeDiff,reduceEqDiff,bz,hlen,Zf,Zi,t2,t3,t4,le,lr,bj,aI,aY,aF,RM,gU,reduceCtorEq,Zt,Zl,gh,j1,f1,ix,l2,oJ.aJ,e2,iy,lv,e3]|simp (config:={maxSteps:=1000000}) (disch:=first|(simp only[YP,YV,YX]<;>omega)|rfl|omega|fail) only[fc,aQ,aT,bo,bp,reduceAdd,reduceMul,reduceLeDiff,reduceEqDiff,bz,hlen,Zf,Zi,t2,t3,t4,le,lr,bj,aI,aY,aF,RM,gU,reduceCtorEq,Zt,Zl,gh,j1,f1,ix,l2,oJ.aJ,e2,iy,lv,e3])
 rw[VJ];have hfJ:Fr B.length W3 J.2 1 (J.1.bB.map aK):=Sa.bk.o.e4 J jx.m;refine WR.BZ (B:=B) (x':=(-1:Int)) (row:=aK) (L:=J.1.bB) hfJ Sa.ex hsl De rfl rfl ?_;intro W5 x5 l5 hff hk5;have s5:cE B X x V W5 {V with aG:=V.aG.set p ({J.1 with bB:=J.1.bB.set (bH x.ev 1).toNat (-1:Int) },J.2) }:=by
  have Yz:(V.aG[p]'jx.lt).2=J.2:=by rw[jx.at]
  have:=eX.qJ Sa (W2:=W5) jx.lt (y:={J.1 with bB:=J.1.bB.set (bH x.ev 1).toNat (-1:Int) }) (by rw[jx.at];exact⟨rfl,rfl⟩) (by rw[Yz];exact hff) (λi _ hne=>hk5 i (by rw[<-Yz];exact hne)) x5 Om;rw[Yz]at this;exact this
 obtain⟨lr,_,sb,gm⟩:=cE.fa s5;refine Rs (A7 t2 t3 t4 @lr @aF @sb @gm) ?_;rw[Td];refine cE.fin s5 (λ_=>?_);have e:mY V.an x.ev (-1:Int)=(V.aG.set p ({J.1 with bB:=J.1.bB.set (bH x.ev 1).toNat (-1:Int) },J.2)).map Prod.fst:=by
  rw[mY,<-jx.ps,<-jx.e,aa0];rfl
 rw[dq,e];rfl
def ES(w:eJ V.an)(ox:bw B x)(we:ko x.ev .fV)(nk:sI V.an x.ev .fV)(s:cE B X x V W V)(hlen:ts.length=223)(t2:slot ts 2=.ptr X.length 0)(t3:slot ts 3=.ptr (X.length+1) 0)(t4:slot ts 4=.ptr (X.length+2) 0):
  WC P bL (Ai 1) [] ts W (FQ [(4,some (some 7)),(5,none)] (rW B X V (bC V.an x.ev .fV) (dq V.an x.ev .fV))):=by
 have ow:=ox.ext s.ex;have oV:=s.bk.o.ok;have RM:x.ev.kind=bh .fV:=bW we.kd;obtain⟨lr,le,sb,gm⟩:=cE.fa s;obtain⟨i0,d0⟩:=bM ow we 0 0 rfl De;obtain⟨j1,f1,q1⟩:=cU ow we 1 1 rfl De;obtain⟨j2,f2,q2⟩:=cU ow we 2 2 rfl De;unfold Ai fn227;simp only[ai.j,ai.s,ai.r,ai.dr,ai.tl];have k0:aM x.ev 0∈iX V.an:=nk.kn 0 4 rfl;obtain⟨p,J,jx⟩:=O5 k0;have ix:aS 3 V.s4 (.i (p:Int))=some (cN V.s4 3 p,.au):=oV.i4.dG jx.lt;refine ph (yu t2 t3 t4 @le @lr @bj @aI @aY @aF @RM @gU @Zt @Zl @i0 @d0) ?_;refine WF.ce T.c56 (r56 T (oV.ext Xx) w.len _) λg1=>?_
 rw[jx.i];obtain⟨W2,So⟩:∃Z,Z=W++g1:=⟨_,rfl⟩;rw[<-So];have R5:cE B X x V W2 V:=by rw[So];exact eX.grow s ⟨g1,rfl⟩
 have ow:=ox.ext R5.ex;have oV:=R5.bk.o.ok;obtain⟨lr,le,sb,gm⟩:=cE.fa R5;obtain⟨i0,d0⟩:=bM ow we 0 0 rfl De;obtain⟨j1,f1,q1⟩:=cU ow we 1 1 rfl De;obtain⟨j2,f2,q2⟩:=cU ow we 2 2 rfl De;refine Rs (kS t2 t3 t4 @le @lr @bj @aI @aY @aF @i0 @d0) ?_;refine WF.ce T.c265 (r265 T (oV.ext Xx) w.len _) λg2=>?_
 obtain⟨W3,RZ⟩:∃Z,Z=W2++g2:=⟨_,rfl⟩;rw[<-RZ];have Sa:cE B X x V W3 V:=by rw[RZ];exact eX.grow R5 ⟨g2,rfl⟩
 have ow:=ox.ext Sa.ex;have oV:=Sa.bk.o.ok;obtain⟨lr,le,sb,gm⟩:=cE.fa Sa;obtain⟨i0,d0⟩:=bM ow we 0 0 rfl De;obtain⟨j1,f1,q1⟩:=cU ow we 1 1 rfl De;obtain⟨j2,f2,q2⟩:=cU ow we 2 2 rfl De;have oJ:=oV.e4 J jx.m;have l2:∀{k:ah},Ext W3 k->aq none (lL V.s4 3 p 2) (λb=>k[b]?)=some (J.2,.au):=λ{k} e=>oV.i4.pW jx.lt (by rw[jx.at];rfl) e
 cases h1:qb V.an (aM x.ev 0)with
 |true=>
  refine Rs (A7 t2 t3 t4 @lr @aF @sb @gm) ?_;have hc:bC V.an x.ev .fV=23:=by
   exact z131
  rw[hc];exact z40
 |false=>
 by_cases h2:(J.1.bB.length:Int)<=bH x.ev 1
 case pos=>
  have e2:decide ((J.1.bB.length:Int)<=bH x.ev 1)=true:=YW h2;refine Rs (GU t2 t3 t4 @le @lr @bj @aI @aY @gh @aF @j1 @f1 ix @l2 oJ.aJ e2 @sb @gm) ?_;have hc:bC V.an x.ev .fV=3:=by
   exact z107
  rw[hc];exact z40
 have e2:decide ((J.1.bB.length:Int)<=bH x.ev 1)=false:=YS h2;have hct:jT V.an x.ev=0:=by rw[jT,Y6 (by rw[h1];decide),<-jx.e,Y6 h2]
 have hsl:(bH x.ev 1).toNat<J.1.bB.length:=Om
 have Xi:bH x.ev 1=((bH x.ev 1).toNat:Int):=Om
 have iy:aS 1 J.2 (.i (bH x.ev 1))=some (cN J.2 1 (bH x.ev 1).toNat,.au):=by
  rw[Xi];exact oJ.dG hsl
 have hsu:fH V.an x.ev=J.1.bB[(bH x.ev 1).toNat]:=by
  exact J9
 have lv:∀{k:ah},Ext W3 k->aq none (cN J.2 1 (bH x.ev 1).toNat) (λb=>k[b]?)=some (.i (fH V.an x.ev),.au):=λ{k} e=>by rw[hsu];exact oJ.kY hsl rfl e
 have VJ:cN J.2 1 (bH x.ev 1).toNat=lL J.2 1 (bH x.ev 1).toNat 0:=rfl;by_cases h3:0<=fH V.an x.ev
 case pos=>
  have e3:decide (0<=fH V.an x.ev)=true:=YW h3;exact QV
 have e3:decide (0<=fH V.an x.ev)=false:=YS h3;have Td:bC V.an x.ev .fV=0:=by rw[bC,Y6 (λz=>z hct),Y6 h3]
 repeat (first|simp (config:={maxSteps:=1000000}) only[aQ,aT,bo,bp,reduceAdd,reduceMul,reduceLeDiff,reduceEqDiff,bz,hlen,Zf,Zi,t2,t3,t4,le,lr,bj,aI,aY,aF,RM,gU,reduceCtorEq,Zt,Zl,gh,j1,f1,j2,f2,ix,l2,oJ.aJ,e2,iy,lv,e3]|simp (config:={maxSteps:=1000000}) (disch:=first|(simp only[YP,YV,YX]<;>omega)|rfl|omega|fail) only[fc,aQ,aT,bo,bp,reduceAdd,reduceMul,reduceLeDiff,reduceEqDiff,bz,hlen,Zf,Zi,t2,t3,t4,le,lr,bj,aI,aY,aF,RM,gU,reduceCtorEq,Zt,Zl,gh,j1,f1,j2,f2,ix,l2,oJ.aJ,e2,iy,lv,e3])
 rw[VJ];have hfJ:Fr B.length W3 J.2 1 (J.1.bB.map aK):=Sa.bk.o.e4 J jx.m;refine WR.BZ (B:=B) (x':=(bH x.ev 2)) (row:=aK) (L:=J.1.bB) hfJ Sa.ex hsl De rfl rfl ?_;intro W5 x5 l5 hff hk5;have s5:cE B X x V W5 {V with aG:=V.aG.set p ({J.1 with bB:=J.1.bB.set (bH x.ev 1).toNat (bH x.ev 2) },J.2) }:=by
  have Yz:(V.aG[p]'jx.lt).2=J.2:=by rw[jx.at]
  have:=eX.qJ Sa (W2:=W5) jx.lt (y:={J.1 with bB:=J.1.bB.set (bH x.ev 1).toNat (bH x.ev 2) }) (by rw[jx.at];exact⟨rfl,rfl⟩) (by rw[Yz];exact hff) (λi _ hne=>hk5 i (by rw[<-Yz];exact hne)) x5 Om;rw[Yz]at this;exact this
 obtain⟨lr,_,sb,gm⟩:=cE.fa s5;refine Rs (A7 t2 t3 t4 @lr @aF @sb @gm) ?_;rw[Td];refine cE.fin s5 (λ_=>?_);have e:mY V.an x.ev (bH x.ev 2)=(V.aG.set p ({J.1 with bB:=J.1.bB.set (bH x.ev 1).toNat (bH x.ev 2) },J.2)).map Prod.fst:=by
  rw[mY,<-jx.ps,<-jx.e,aa0];rfl
 rw[dq,e];rfl
end
structure RC(W Y:ah)(jb:Nat)(c:List AV)(t:AV)(k:Nat):Prop where
 l:W.length<=jb
 x:Ext W Y
 m:Y[jb]? =some (.b (c++[t]))
 f:Fr W.length Y t 1 ((List.replicate k (-1:Int)).map aK)
 n:sB t≠some jb
section
variable {P:Program}(T:fp P) {B X W:ah}{ts:TS}{V:RV}{x:EV}
include T
def IK(w:eJ V.an)(ox:bw B x)(we:ko x.ev .run)(nk:sI V.an x.ev .run)(s:cE B X x V W V)(hlen:ts.length=223)(t2:slot ts 2=.ptr X.length 0)(t3:slot ts 3=.ptr (X.length+1) 0)(t4:slot ts 4=.ptr (X.length+2) 0):
  WC P bL (Ai 1) [] ts W (FQ [(4,some (some 7)),(5,none)] (rW B X V (bC V.an x.ev .run) (dq V.an x.ev .run))):=by
 have ow:=ox.ext s.ex;have oV:=s.bk.o.ok;have RM:x.ev.kind=bh .run:=bW we.kd;obtain⟨lr,le,sb,gm⟩:=cE.fa s;obtain⟨i0,d0⟩:=bM ow we 0 0 rfl De;obtain⟨i1,d1⟩:=bM ow we 1 1 rfl De;obtain⟨j1,f1,q1⟩:=cU ow we 1 1 rfl De;unfold Ai fn227;simp only[ai.j,ai.s,ai.r,ai.dr,ai.tl];have k1:aM x.ev 1∈iC V.an:=nk.kn 1 3 rfl;refine ph (yu t2 t3 t4 @le @lr @bj @aI @aY @aF @RM @gU @Zt @Zl @i1 @d1) ?_;refine WF.res T.c59 (r59 T (oV.ext Xx) w _) ?_;rintro ns g1 hns;obtain⟨W2,So⟩:∃Z,Z=W++g1:=⟨_,rfl⟩;rw[<-So];have R5:cE B X x V W2 V:=by rw[So];exact eX.grow s ⟨g1,rfl⟩
 have ow:=ox.ext R5.ex;have oV:=R5.bk.o.ok;obtain⟨lr,le,sb,gm⟩:=cE.fa R5;rw[<-So]at hns;obtain⟨S,hS⟩:∃S,S=jd V.an (aM x.ev 1):=⟨_,rfl⟩;rw[<-hS]at hns;have hSm:∀y∈S,y∈V.an.lines:=λy hy=>by rw[hS,jd]at hy;exact(aaa.1 hy).1
 have hSl:S.length<=16:=by
  have h1:S.length<=V.an.lines.length:=by rw[hS,jd];exact ZD _ _
  have:=w.l0;omega
 rw[aaA]at hns;refine Rs (A3 t2 t3 t4) ?_;refine WL.inv T.mix (λm ts h'=>∃(k:Nat) (g:ah),k<=S.length/\m=S.length-k/\h' =W2++g/\(∀y∈S.take k,y.acc=true)/\ts.length=223/\slot ts 2=.ptr X.length 0/\slot ts 3=.ptr (X.length+1) 0/\slot ts 4=.ptr (X.length+2) 0/\slot ts 6=ns/\slot ts 7=.i k) S.length
  ⟨0,[],Om,rfl,by rw[Zr],(λy hy=>by cases hy),Sn,(Sq t2),(Sq t3),(Sq t4),Sw,gM⟩ ?_
 clear t2 t3 t4 hlen;rintro _ ts _ ⟨k,g,hk,rfl,rfl,hsf,hlen,t2,t3,t4,t6,t7⟩;obtain⟨W3,RZ⟩:∃Z,Z=W2++g:=⟨_,rfl⟩;rw[<-RZ];have Sa:cE B X x V W3 V:=by rw[RZ];exact eX.grow R5 ⟨g,rfl⟩
 have ow:=ox.ext Sa.ex;have oV:=Sa.bk.o.ok;obtain⟨lr,le,sb,gm⟩:=cE.fa Sa;have e23:Ext W2 W3:=⟨g,RZ⟩;have hns:=hns.ext e23;by_cases SR:k<S.length
 ·have e3:decide ((k:Int)<S.length)=true:=YW Om;have e5:=wrapN (n:=k) Om;have iy:=hns.dG (kk:=.i64) SR;obtain⟨y,hy⟩:∃y,y=S[k]:=⟨_,rfl⟩;have Ta:y∈V.an.lines:=hSm y (by rw[hy];exact Za _);have lf:∀{kk:ah},Ext W3 kk->aq none (cN ns 1 k) (λb=>kk[b]?)=some (.str y.name,.au):=λ{kk} e=>hns.kY SR (by rw[<-hy];rfl) e
  have Uo:y.name∈gP V.an:=Zo Ta;have hps:=cR Uo;have Tn:bn (gP V.an) y.name<V.lines.length:=by simpa [gP,RV.an]using hps
  have iz:aS 3 V.s0 (.i ((bn (gP V.an) y.name:Nat):Int))=some (cN V.s0 3 (bn (gP V.an) y.name),.au):=oV.i0.dG Tn;have huy:V.lines[bn (gP V.an) y.name]=y:=by
   have a1:du V.an y.name=y:=mi w.n0.nd Ta;rw[du,de (f:=gZ.name) (l:=V.an.lines) (d:=B7) Uo]at a1;exact a1
  have ly:∀{kk:ah},Ext W3 kk->aq none (lL V.s0 3 (bn (gP V.an) y.name) 2) (λb=>kk[b]?)=some (.bool y.acc,.au):=λ{kk} e=>oV.i0.pW Tn (by rw[huy];rfl) e
  refine Rs (mQ t2 t3 t4 t6 t7 hns.aJ e3 @lr @fI @aF @iy @lf) ?_;refine WF.ce T.c28 (r28 T (oV.ext Xx) w.len _) λg3=>?_
  have ej:cT (λy':gZ=>decide (y'.name=y.name)) V.lines=(bn (gP V.an) y.name:Int):=eT (f:=gZ.name) Uo;rw[ej];cases h4:y.acc with
  |false=>
   rw[h4]at ly;refine Rs (mQ t2 t3 t4 t6 t7 @iz @ly @Zq @lr @aF @sb @gm) ?_;rw[bC,Zb (by rw[<-hS];exact aaj.2 ⟨y,by rw[hy];exact Za _,by rw[h4];rfl⟩)];exact cE.fin (eX.grow Sa ⟨g3,rfl⟩) (λz=>absurd z De)
  |true=>
   rw[h4]at ly;refine Rs (A9 t2 t3 t4 t6 t7 @iz @ly @Zg e5) ?_;refine⟨_,Om,k+1,g++g3,Om,rfl,by rw[RZ];simp only[YR],?_,rfl⟩;intro y' hy';exact QF
 have e3:decide ((k:Int)<S.length)=false:=YS Om;have e4:k=S.length:=Om
 rw[e4,ZA]at hsf;have hne:¬(jd V.an (aM x.ev 1)).any (λx=>!x.acc)=true:=by
  exact Kc
 obtain⟨i0,d0⟩:=bM ow we 0 0 rfl De;obtain⟨i1,d1⟩:=bM ow we 1 1 rfl De;obtain⟨j1,f1,q1⟩:=cU ow we 1 1 rfl De;refine Rs (wP t2 t3 t4 @le @lr @bj @aI @aY t6 t7 hns.aJ e3 @j1 @f1) ?_;refine WF.ce T.c20 (r20 T _ _ _) λg4=>?_
 obtain⟨W4,SE⟩:∃Z,Z=W3++g4:=⟨_,rfl⟩;rw[<-SE];have Tw:cE B X x V W4 V:=by rw[SE];exact eX.grow Sa ⟨g4,rfl⟩
 have ow:=ox.ext Tw.ex;have oV:=Tw.bk.o.ok;obtain⟨lr,le,sb,gm⟩:=cE.fa Tw;obtain⟨i0,d0⟩:=bM ow we 0 0 rfl De;obtain⟨i1,d1⟩:=bM ow we 1 1 rfl De;obtain⟨j1,f1,q1⟩:=cU ow we 1 1 rfl De;by_cases h1:bg (bH x.ev 1) 1 32=0
 case neg=>
  have e1:decide (bg (bH x.ev 1) 1 32≠0)=true:=YW h1;refine Rs (A8 t2 t3 t4 e1 @lr @aF @sb @gm) ?_;rw[bC,Y6 hne,Zb h1];exact z146
 have e1:decide (bg (bH x.ev 1) 1 32≠0)=false:=YS (λz=>z h1);have T6:V.an.aG.length=V.aG.length:=by simp[RV.an]
 by_cases h2:16<=V.aG.length
 case pos=>
  have e2:decide ((16:Int)<=(V.aG.length:Int))=true:=YW Om;refine Rs (kS t2 t3 t4 e1 @lr @gh oV.i4.aJ e2 @aF @sb @gm) ?_;rw[bC,Y6 hne,Y6 (λz=>z h1),Zb (by rw[T6];exact h2)];exact z146
 have e2:decide ((16:Int)<=(V.aG.length:Int))=false:=YS Om;have Td:bC V.an x.ev .run=0:=by rw[bC,Y6 hne,Y6 (λz=>z h1),Y6 (by rw[T6];exact h2)]
 have hr:=iH (λz=>z h1);obtain⟨n,hn⟩:∃n:Nat,n=(bH x.ev 1).toNat:=⟨_,rfl⟩;have hnv:bH x.ev 1=(n:Int):=Om
 have hn32:n<=32:=Om
 obtain⟨jb,hjb⟩:∃n,n=W4.length:=⟨_,rfl⟩;refine Rs (Dr t2 t3 t4 @le @lr @bj @aI @aY e1 @gh oV.i4.aJ e2 @i0 @d0 @i1 @d1) ?_;rw[<-hjb];refine WL.inv T.mix (λm ts Y=>∃(k:Nat) (t:AV),k<=n/\m=n-k/\RC W4 Y jb [AV.str (aM x.ev 0),.str (aM x.ev 1)] t k/\ts.length=223/\slot ts 2=.ptr X.length 0/\slot ts 3=.ptr (X.length+1) 0/\slot ts 4=.ptr (X.length+2) 0/\slot ts 8=.ptr jb 0/\slot ts 9=.i k) n
  ⟨0,.af,Om,rfl,⟨Om,⟨_,rfl⟩,by rw[hjb];exact a8,.nil,by simp[sB]⟩,Sn,(Sq t2),(Sq t3),(Sq t4),Sw,gM⟩ ?_
 clear t2 t3 t4 t6 t7 hlen;rintro _ ts Y ⟨k',t,hk',rfl,hb,hlen,t2,t3,t4,t8,t9⟩;have sY:cE B X x V Y V:=eX.grow Tw hb.x;have ow:=ox.ext sY.ex;have oV:=sY.bk.o.ok;obtain⟨lr,le,sb,gm⟩:=cE.fa sY;obtain⟨j1,f1,q1⟩:=cU ow we 1 1 rfl De;have lj:=@eE _ _ _ hb.m;have ot:=hb.f.ba.one;have Yy:=(YQ.1 hb.m).1;by_cases hlt3:k'<n
 ·have e6:decide ((k':Int)<bH x.ev 1)=true:=YW Om;have e7:IntKind.i64.wrap ((k':Int)+1)=((k'+1:Nat):Int):=wrapN Om;refine Rs (wP t2 t3 t4 @le @lr @bj @aI @aY t8 t9 @j1 @f1 e6 @lj) ?_;refine WR.qm (B:=W4) (cs:=(List.replicate k' (-1:Int)).map aK) hb.f rfl hb.x De (by simp only[YY,Z4];omega) ?_;intro W5 s' x5 hff hn5 q5 l5 hk5;have hrow:(List.replicate k' (-1:Int)).map aK++[[AV.i (-1)]]=(List.replicate (k'+1) (-1:Int)).map aK:=by rw[List.replicate_succ',Y5];rfl
  rw[hrow]at hff;have m5:W5[jb]? =some (.b [AV.str (aM x.ev 0),.str (aM x.ev 1),t]):=(hk5 jb Yy hb.n).trans hb.m;have Tu:aW 1 (.ptr jb 2) s' (λz=>W5[z]?)=some (az,.set jb (.b [AV.str (aM x.ev 0),.str (aM x.ev 1),s'])):=(aL m5).trans (bX q5 (by show 2+1<=3;omega));have hs'j:∀i,sB s' =some i->i≠jb:=λi hi=>by have:=hn5 i hi;omega
  refine Rs (A8 t2 t3 t4 t8 t9 @Tu q5 e7) ?_;refine⟨_,Om,k'+1,s',Om,rfl,⟨hb.l,x5.iQ hb.l,Zd Om,hff.aD λi hi=>Zc (aam (hs'j i hi)),λe=>hs'j _ e rfl⟩,rfl⟩
 ·have e6:decide ((k':Int)<bH x.ev 1)=false:=YS Om;have ekn:k' =n:=Om
  obtain⟨y,hy⟩:∃y:k9,y=⟨aM x.ev 0,aM x.ev 1,List.replicate n (-1)⟩:=⟨_,rfl⟩;obtain⟨z,hz⟩:∃z:List AV,z=bO (y,t):=⟨_,rfl⟩;have TJ:[AV.str (aM x.ev 0),.str (aM x.ev 1),t]=z:=by rw[hz,hy];rfl
  have hbf:=hb.f;rw[ekn]at hbf;refine Rs (Dr t2 t3 t4 @le @lr @bj @aI @aY t8 t9 @j1 @f1 e6 @gh @lj @ot) ?_;rw[TJ];refine WR.qm (B:=B) (cs:=V.aG.map bO) (sY.bk.o.i4) (by rw[hz];rfl) sY.ex De (by rw[YY];omega) ?_;intro W5 s' x5 hff hn5 q5 l5 hk5;have hrow:V.aG.map bO++[z]=(V.aG++[(y,t)]).map bO:=by rw[Y5,hz];rfl
  rw[hrow]at hff;have hlW:W4.length<=Y.length:=hb.x.len;have bU:∀i,sB t=some i->sB V.s4≠some i:=λi hi e=>by
   have h1:=(hbf.bN hi).1;have h2:=(Tw.bk.o.dR (b:=i) (by rw[<-e];simp[RV.bl])).2;omega
  have f5:Fr B.length W5 t 1 (y.bB.map aK):=by
   rw[hy];exact(hbf.aD λi hi=>hk5 i (hbf.bN hi).2 (bU i hi)).low Tw.ex.len
  have s5:cE B X x V (W5.set X.length (.b (V.row.set 5 s'))) {V with aG:=V.aG++[(y,t)],s4:=s'}:=eX.p4 Tw hff f5 (λi hi=>.inr (by have:=hn5 i hi;omega)) (λi hi=>⟨(hbf.bN hi).1,λe=>by have:=hn5 i e;have:=(hbf.bN hi).2;omega⟩) (λi hi hne=>(hk5 i Om hne).trans (hb.x.get hi)) x5 Om;have mB:W5[X.length]? =some (.b V.row):=(hk5 _ sY.bk.lt (λz=>sY.bk.ne (by rw[<-z];simp[RV.bl]))).trans sY.bk.m;have Tu:aW 1 (.ptr X.length 5) s' (λz=>W5[z]?)=some (az,.set X.length (.b (V.row.set 5 s'))):=(aL mB).trans (bX q5 (by show 5+1<=7;omega));refine Rs (A7 t2 t3 t4 t8 t9 @Tu q5) ?_;obtain⟨W6,TC⟩:∃Z,Z=W5.set X.length (.b (V.row.set 5 s')):=⟨_,rfl⟩
  rw[<-TC]at s5 ⊢;obtain⟨lr,_,sb,gm⟩:=cE.fa s5;refine Rs (A9 t2 t3 t4 t8 t9 @lr @aF @sb @gm) ?_;rw[Td];exact cE.fin s5 (λ_=>by simp only[RV.an,Y5,ZP,aaF,dq,hy,hn])
def Cs{d}(hd:d=.run\/d=.fV\/d=.fail\/d=.gy\/d=.rel)(o:cH B.length X V)(w:eJ V.an)(hx:Ext B X)(ox:bw B x)(we:ko x.ev d)(nk:sI V.an x.ev d):
  dm P 227 [.agg V.row,.agg x.row] X (rW B X V (bC V.an x.ev d) (dq V.an x.ev d)):=by
 refine .of T.mix (abq T.c227 (Zz some PW)) ?_;obtain⟨ts,RG⟩:∃ts,ts=aR 223 [.agg V.row,.agg x.row]:=⟨_,rfl⟩;have hlen:ts.length=223:=by rw[RG];rfl
 have t0:slot ts 0=.agg V.row:=by rw[RG];rfl
 have t1:slot ts 1=.agg x.row:=by rw[RG];rfl
 show WC P bL (.seq (PX 0) (Ai 1)) [] (aR 223 [.agg V.row,.agg x.row]) X (FQ [(4,some (some 7)),(5,none)] (rW B X V (bC V.an x.ev d) (dq V.an x.ev d)));rw[<-RG];clear RG;have RF:=@aC.box _ _ o.ok;have hex:=@bw.box _ _ (ox.ext hx);have s:cE B X x V (X++[.b V.row]++[.b x.row]++[.b kT]) V:=Gg o hx;unfold kT at s;generalize hR:Ai 1=R;unfold PX fn227;simp only[ai.dr,ai.hd];refine Rs (A4 t0 t1 @RF @hex) ?_;rw[<-hR];rcases hd with rfl|rfl|rfl|rfl|rfl
 ·exact IK T w ox we nk s Sn Sw (by simp only[aQ,aT,bo,bp,reduceAdd,reduceMul,reduceLeDiff,reduceEqDiff,bz,hlen,Zf,Zi];simp) (by simp only[aQ,aT,bo,bp,reduceAdd,reduceMul,reduceLeDiff,reduceEqDiff,bz,hlen,Zf,Zi];simp)
 ·exact ES T w ox we nk s Sn Sw (by simp only[aQ,aT,bo,bp,reduceAdd,reduceMul,reduceLeDiff,reduceEqDiff,bz,hlen,Zf,Zi];simp) (by simp only[aQ,aT,bo,bp,reduceAdd,reduceMul,reduceLeDiff,reduceEqDiff,bz,hlen,Zf,Zi];simp)
 ·exact EU T w ox we nk s Sn Sw (by simp only[aQ,aT,bo,bp,reduceAdd,reduceMul,reduceLeDiff,reduceEqDiff,bz,hlen,Zf,Zi];simp) (by simp only[aQ,aT,bo,bp,reduceAdd,reduceMul,reduceLeDiff,reduceEqDiff,bz,hlen,Zf,Zi];simp)
 ·exact ET T w ox we nk s Sn Sw (by simp only[aQ,aT,bo,bp,reduceAdd,reduceMul,reduceLeDiff,reduceEqDiff,bz,hlen,Zf,Zi];simp) (by simp only[aQ,aT,bo,bp,reduceAdd,reduceMul,reduceLeDiff,reduceEqDiff,bz,hlen,Zf,Zi];simp)
 ·exact IL T w ox we nk s Sn Sw (by simp only[aQ,aT,bo,bp,reduceAdd,reduceMul,reduceLeDiff,reduceEqDiff,bz,hlen,Zf,Zi];simp) (by simp only[aQ,aT,bo,bp,reduceAdd,reduceMul,reduceLeDiff,reduceEqDiff,bz,hlen,Zf,Zi];simp)
end
def uz(k:Nat):ai:=(fn129).body.dr k
def C7(k:Nat):ai:=((fn129).body.dr k).hd
def Qf:fn129=⟨63,2,[(4,some (some 7)),(5,none)],.seq (C7 0) (uz 1)⟩:=rfl
def MM:uz 1=.seq (C7 1) (uz 2):=rfl
def Qe:uz 2=.seq (C7 2) (uz 3):=rfl
def Qd:uz 3=.seq (C7 3) (uz 4):=rfl
def Qc:uz 4=.seq (C7 4) (uz 5):=rfl
def JC(h:ah)(c:Int)(R':eM):AV->ah->Prop:=λv k=>Ext h k/\∃V':RV,v=.dM [.agg V'.row,.i c]/\aC k V'/\(c=0->V'.an=R'/\∀i,some i∈V'.bl->h.length<=i)
def aC.Js{h:ah}{V:RV}(o:aC h V){W:ah}{b:Nat}(hz:W[b]? =some (.b kT)):aW 7 (.ptr b 0) (.agg V.row) (λz=>W[z]?)=some (az,.set b (.b V.row)):=by
 have h1:=@aL 7 b 0 (.agg V.row) (λz=>W[z]?) _ hz;have st:=@aC.st _ _ o;unfold kT at h1;rw[st]at h1;exact h1
def aC.Rg{h:ah}{V U:RV}(o:aC h V){W:ah}{b:Nat}(hz:W[b]? =some (.b U.row)):aW 7 (.ptr b 0) (.agg V.row) (λz=>W[z]?)=some (az,.set b (.b V.row)):=by
 have h1:=@aL 7 b 0 (.agg V.row) (λz=>W[z]?) _ hz;rw[h1];exact o.st
def oa{W:ah}{b:Nat}{V:RV}(hb:b<W.length):aq (some 7) (.ptr b 0) (λz=>(W.set b (.b V.row))[z]?)=some (.agg V.row,.au):=by
 rw[aA (Zd hb)];rfl
section
variable {P:Program}(T:fp P) {h K:ah}{ts:TS}{V U:RV}{x:EV}
include T
def I3{d:Kd}{ob:Nat}{c:Int}{R':eM}(we:ko x.ev d)(hd:d≠.eF)(ox:bw h x)(hx:Ext h K)(hob:h.length+2<ob)(mo:K[ob]? =some (.b U.row))(me:K[h.length+1]? =some (.b x.row))(mr:K[h.length+2]? =some (.b kT))
  (oU:aC K U) (hU:∀i,some i∈U.bl->h.length+2<i/\i≠ob) (hc:c=0->{U.an with tick:=bH x.ev 0} =R') (hlen:ts.length=63) (t3:slot ts 3=.ptr (h.length+1) 0) (t4:slot ts 4=.ptr (h.length+2) 0) (t7:slot ts 7=.ptr ob 0) (t8:slot ts 8=.i c):
  WC P bL (uz 5) [] ts K (FQ [(4,some (some 7)),(5,none)] (JC h c R')):=by
 have:=T.mix;have hv0:0<cC d:=by cases d<;>first|exact absurd rfl hd|decide
 have ow:=ox.ext hx;obtain⟨j0,f0,_⟩:=cU ow we 0 0 rfl hv0;have le:=@eE _ _ _ me;obtain⟨V2,hV2⟩:∃V2:RV,V2={U with tick:=bH x.ev 0}:=⟨_,rfl⟩;have hrow:U.row.set 0 (.i (bH x.ev 0))=V2.row:=by rw[hV2];rfl
 have sbo:aW 1 (.ptr ob 0) (.i (bH x.ev 0)) (λz=>K[z]?)=some (az,.set ob (.b V2.row)):=by
  rw[<-hrow];exact(aL mo).trans (bX rfl (by show 0+1<=7;omega))
 unfold uz fn129 gA;simp only[ai.j,ai.s,ai.r,ai.dr,ai.tl];refine Rs (A9 t3 t4 t7 t8 @le @aY @j0 @f0 @sbo) ?_;have hbo:=(YQ.1 mo).1;have hbr:=(YQ.1 mr).1;obtain⟨K1,Vd⟩:∃Z,Z=K.set ob (.b V2.row):=⟨_,rfl⟩;rw[<-Vd];have mo1:K1[ob]? =some (.b V2.row):=by rw[Vd];exact Zd hbo
 have mr1:K1[h.length+2]? =some (.b kT):=by rw[Vd,Zc Om];exact mr
 have l1:K1.length=K.length:=by rw[Vd,ZI]
 have lo:=@eE _ _ _ mo1;have oV:aC K V2:=by rw[hV2];exact⟨oU.i0,oU.i1,oU.i2,oU.i3,oU.i4,oU.i5,oU.e2,oU.e3,oU.e4⟩
 have sb:=oV.Js mr1;have gm:=oa (W:=K1) (b:=h.length+2) (V:=V2) Om;refine Rs (A8 t3 t4 t7 t8 @lo @aF @sb @gm) ?_;refine⟨?_,V2,rfl,oV.au λi hi=>?_,λz=>⟨by rw[<-hc z,hV2];rfl,λi hi=>?_⟩⟩
 ·rw[Vd];exact(hx.iQ Om).iQ Om
 ·have:some i∈U.bl:=by rw[hV2]at hi;exact hi
  have:=hU i this;rw[Zc Om,Vd,Zc Om]
 ·have:some i∈U.bl:=by rw[hV2]at hi;exact hi
  have:=hU i this;omega
def ML{d:Kd}{B X:ah}{ob:Nat}(we:ko x.ev d)(hd:d≠.eF)(nk:sI U.an x.ev d)(w:eJ U.an)(ox:bw h x)(hB:Ext h B)(hx:Ext B X)(hob:ob<X.length)(hbo:B.length<=ob)(hBl:h.length+3<=B.length)(mo:X[ob]? =some (.b U.row))(me:B[h.length+1]? =some (.b x.row))(mr:B[h.length+2]? =some (.b kT))
  (o:cH B.length X U) (hU:some ob∉U.bl) (hlen:ts.length=63) (t3:slot ts 3=.ptr (h.length+1) 0) (t4:slot ts 4=.ptr (h.length+2) 0) (t7:slot ts 7=.ptr ob 0):
  WC P bL (uz 4) [] ts X (FQ [(4,some (some 7)),(5,none)] (JC h (bC U.an x.ev d) (jP U.an x.ev d))):=by
 have RM:x.ev.kind=bh d:=bW we.kd;have le:∀{k n a},Ext X k->aq n (.ptr (h.length+1) a) (λz=>k[z]?)=dE n a (.b x.row):=λ{_ _ _} e=>aA ((hx.trans e).some me)
 have lo:=@eE _ _ _ mo;have oB:=ox.ext hB;rw[Qc];generalize hR:uz 5=R;unfold C7 fn129 gA;simp only[ai.j,ai.s,ai.r,ai.dr,ai.tl,ai.hd];have fin:∀{v:AV}{k:ah},rW B X U (bC U.an x.ev d) (dq U.an x.ev d) v k->∃V2:RV,v=.dM [.agg V2.row,.i (bC U.an x.ev d)]/\aW 7 (.ptr ob 0) (.agg V2.row) (λz=>k[z]?)=some (az,.set ob (.b V2.row))/\
   (∀ts':TS,ts'.length=63->slot ts' 3=.ptr (h.length+1) 0->slot ts' 4=.ptr (h.length+2) 0->slot ts' 7=.ptr ob 0->slot ts' 8=.i (bC U.an x.ev d)->WC P bL R [] ts' (k.set ob (.b V2.row)) (FQ [(4,some (some 7)),(5,none)] (JC h (bC U.an x.ev d) (jP U.an x.ev d)))):=by
  rintro v k ⟨x1,hl,hfr,V2,rfl,o2,hc,hlo⟩;have mo2:k[ob]? =some (.b U.row):=(hfr ob hob hU).trans mo;have hV2:∀i,some i∈V2.bl->B.length<=i/\i≠ob:=λi hi=>⟨(o2.dR hi).1,λe=>by
   subst e;rcases hlo _ hi with z|z
   ·exact hU z
   ·omega⟩
  refine⟨V2,rfl,o2.ok.Rg mo2,λts' RT u3 u4 u7 u8=>?_⟩;rw[<-hR];refine I3 T we hd ox ((hB.trans x1).iQ Om) Om (Zd (YQ.1 mo2).1) ?_ ?_ (o2.ok.au λi hi=>?_) (λi hi=>?_) (λz=>?_) RT u3 u4 u7 u8
  ·rw[Zc Om];exact x1.some me
  ·rw[Zc Om];exact x1.some mr
  ·rw[Zc (aam (hV2 i hi).2)]
  ·have:=hV2 i hi;exact⟨Om,this.2⟩
  ·rw[hc z];rfl
 cases d with
 |eF=>exact absurd rfl hd
 |line=>
  refine ph (mQ @t3 @t4 @t7 @le @lo @bj @cp @aF @RM @gU @Zt @Zl) ?_;refine WF.gen T.c225 (Ct T (d:=.line) De o w hx oB we nk) ?_;intro v k hv;exact z3
 |tape=>
  refine ph (mQ @t3 @t4 @t7 @le @lo @bj @cp @aF @RM @gU @Zt @Zl) ?_;refine WF.gen T.c225 (Ct T (d:=.tape) De o w hx oB we nk) ?_;intro v k hv;exact z3
 |gx=>
  refine ph (mQ @t3 @t4 @t7 @le @lo @bj @cp @aF @RM @gU @Zt @Zl) ?_;refine WF.gen T.c225 (Ct T (d:=.gx) De o w hx oB we nk) ?_;intro v k hv;exact z3
 |copy=>
  refine ph (mQ @t3 @t4 @t7 @le @lo @bj @cp @aF @RM @gU @Zt @Zl) ?_;refine WF.gen T.c225 (Ct T (d:=.copy) De o w hx oB we nk) ?_;intro v k hv;exact z3
 |accept=>
  refine ph (mQ @t3 @t4 @t7 @le @lo @bj @cp @aF @RM @gU @Zt @Zl) ?_;refine WF.gen T.c225 (Ct T (d:=.accept) De o w hx oB we nk) ?_;intro v k hv;exact z3
 |source=>
  refine ph (mQ @t3 @t4 @t7 @le @lo @bj @cp @aF @RM @gU @Zt @Zl) ?_;refine WF.gen T.c226 (Ij T (d:=.source) De o w hx oB we nk) ?_;intro v k hv;exact z3
 |fW=>
  refine ph (mQ @t3 @t4 @t7 @le @lo @bj @cp @aF @RM @gU @Zt @Zl) ?_;refine WF.gen T.c226 (Ij T (d:=.fW) De o w hx oB we nk) ?_;intro v k hv;exact z3
 |merge=>
  refine ph (mQ @t3 @t4 @t7 @le @lo @bj @cp @aF @RM @gU @Zt @Zl) ?_;refine WF.gen T.c226 (Ij T (d:=.merge) De o w hx oB we nk) ?_;intro v k hv;exact z3
 |run=>
  refine ph (mQ @t3 @t4 @t7 @le @lo @bj @cp @aF @RM @gU @Zt @Zl) ?_;refine WF.gen T.c227 (Cs T (d:=.run) De o w hx oB we nk) ?_;intro v k hv;exact z3
 |fV=>
  refine ph (mQ @t3 @t4 @t7 @le @lo @bj @cp @aF @RM @gU @Zt @Zl) ?_;refine WF.gen T.c227 (Cs T (d:=.fV) De o w hx oB we nk) ?_;intro v k hv;exact z3
 |fail=>
  refine ph (mQ @t3 @t4 @t7 @le @lo @bj @cp @aF @RM @gU @Zt @Zl) ?_;refine WF.gen T.c227 (Cs T (d:=.fail) De o w hx oB we nk) ?_;intro v k hv;exact z3
 |gy=>
  refine ph (mQ @t3 @t4 @t7 @le @lo @bj @cp @aF @RM @gU @Zt @Zl) ?_;refine WF.gen T.c227 (Cs T (d:=.gy) De o w hx oB we nk) ?_;intro v k hv;exact z3
 |rel=>
  refine ph (mQ @t3 @t4 @t7 @le @lo @bj @cp @aF @RM @gU @Zt @Zl) ?_;refine WF.gen T.c227 (Cs T (d:=.rel) De o w hx oB we nk) ?_;intro v k hv;exact z3
def I0{d:Kd}{H:ah}(hH:H=h++[ak.b V.row]++[.b x.row]++[.b kT])(o:aC h V)(w:eJ V.an)(ox:bw h x)(we:ko x.ev d)(hd:d≠.eF)(hlen:ts.length=63)(t2:slot ts 2=.ptr h.length 0)(t3:slot ts 3=.ptr (h.length+1) 0)(t4:slot ts 4=.ptr (h.length+2) 0):
  WC P bL (uz 1) [] ts H (FQ [(4,some (some 7)),(5,none)] (JC h (fY V.an x.ev d) (jP V.an x.ev d))):=by
 have hv0:0<cC d:=by cases d<;>first|exact absurd rfl hd|decide
 have Sb:Ext h H:=by rw[hH];exact Xx
 have Ve:H.length=h.length+3:=by rw[hH];simp
 have mV:H[h.length]? =some (.b V.row):=by rw[hH];simp
 have me:H[h.length+1]? =some (.b x.row):=by rw[hH];simp
 have mr:H[h.length+2]? =some (.b kT):=by rw[hH];simp
 clear hH;have ow:=ox.ext Sb;have oW:=o.ext Sb;obtain⟨j0,f0,_⟩:=cU ow we 0 0 rfl hv0;have lr:=@eE _ _ _ mV;have le:=@eE _ _ _ me;have sb:∀{k},Ext H k->aW 7 (.ptr (h.length+2) 0) (.agg V.row) (λz=>k[z]?)=some (az,.set (h.length+2) (.b V.row)):=λ{_} e=>(o.ext (Sb.trans e)).Js (e.some mr)
 have gm:∀{k},Ext H k->aq (some 7) (.ptr (h.length+2) 0) (λz=>(k.set (h.length+2) (.b V.row))[z]?)=some (.agg V.row,.au):=λ{_} e=>oa (by have:=e.len;omega)
 have YM:∀{k:ah}{c:Int},Ext H k->fY V.an x.ev d=c->c≠0->JC h (fY V.an x.ev d) (jP V.an x.ev d) (.dM [.agg V.row,.i c]) (k.set (h.length+2) (.b V.row)):=by
  intro k c e hc h0;refine⟨(Sb.trans e).iQ Om,V,by rw[hc],?_,λz=>absurd (hc.symm.trans z) h0⟩;exact o.sub λb c' mu tl hb=>by
   have hlt:=(YQ.1 hb).1;rw[Zc Om];exact(Sb.trans e).some hb
 by_cases h1:bH x.ev 0<V.an.tick
 ·have e1:decide (bH x.ev 0<V.tick)=true:=YW h1;rw[MM];generalize hR:uz 2=R;unfold C7 fn129 gA;simp only[ai.j,ai.s,ai.r,ai.dr,ai.tl,ai.hd];refine Rs (Dk t2 t3 t4 @le @lr @aY @sV @aF @j0 @f0 e1 @sb @gm) ?_;exact YM (.refl _) (by rw[fY,Zb h1]) De
 have e1:decide (bH x.ev 0<V.tick)=false:=YS h1;rw[MM,Qe];generalize hR:uz 3=R;unfold C7 fn129 gA;simp only[ai.j,ai.s,ai.r,ai.dr,ai.tl,ai.hd];refine Rs (mQ t2 t3 t4 @le @lr @aY @cp @sV @aF @j0 @f0 e1) ?_;refine WF.ce T.c223 (r223 T (d:=d) (oW.ext Xx) w.len (ow.ext Xx) we) λg1=>?_
 by_cases h2:kD d V.an x.ev=0
 case neg=>
  have e2:decide (kD d V.an x.ev≠0)=true:=YW h2;refine Rs (A8 t2 t3 t4 e2 @lr @aF @sb @gm) ?_;have ef:=YM (k:=H++g1) (c:=kD d V.an x.ev) ⟨g1,rfl⟩ (by rw[fY,Y6 h1,Zb h2]) h2;rw[List.set_append_left _ _ Om]at ef;exact ef
 have e2:decide (kD d V.an x.ev≠0)=false:=YS (λz=>z h2);have hes:fY V.an x.ev d=bC V.an x.ev d:=by rw[fY,Y6 h1,Y6 (λz=>z h2)]
 rw[hes];refine Rs (A4 t2 t3 t4 e2) ?_;rw[<-hR];obtain⟨B,hB⟩:∃B,B=H++g1:=⟨_,rfl⟩;rw[<-hB];have eB:Ext H B:=⟨g1,hB⟩;have lr:∀{k n a},Ext B k->aq n (.ptr h.length a) (λz=>k[z]?)=dE n a (.b V.row):=λ{_ _ _} e=>aA (e.some (eB.some mV))
 clear sb gm YM le f0 j0 e1 e2;rw[Qd];generalize hR:uz 4=R;unfold C7 fn129 gA;simp only[ai.j,ai.s,ai.r,ai.dr,ai.tl,ai.hd];refine Rs (A5 t2 t3 t4 @lr @aF) ?_;refine WF.res T.c224 (r224 T (oW.ext eB) w) ?_;rintro _ g2 ⟨U,hU,rfl,own⟩;have RF:=@aC.box _ _ own.ok;have st:=@aC.st _ _ own.ok;refine Rs (A5 t2 t3 t4 @RF @st) ?_;obtain⟨X0,hX0⟩:∃Z,Z=B++g2:=⟨_,rfl⟩;rw[<-hX0]at own ⊢;have e0:Ext B X0:=⟨g2,hX0⟩;rw[<-hR,<-hU];refine ML T (ob:=X0.length) we hd (by rw[hU];exact vB h2) (by rw[hU];exact w) ox (Sb.trans eB) (e0.trans ⟨_,rfl⟩) Si e0.len (by have:=eB.len;omega) a8 (eB.some me) (eB.some mr) (own.app _) (λhi=>?_) Sn (Sq t3) (Sq t4) Sw
 have:=(own.dR hi).2;omega
def r129{d}(o:aC h V)(w:eJ V.an)(ox:bw h x)(we:ko x.ev d)(hd:d≠.eF):ay P 129 [.agg V.row,.agg x.row] h (λv k=>∃V':RV,v=.dM [.agg V'.row,.i (fY V.an x.ev d)]/\aC k V'/\(fY V.an x.ev d=0->V'.an=jP V.an x.ev d/\∀i,some i∈V'.bl->h.length<=i)):=by
 refine .of T.mix (abq T.c129 (Zz some Qf)) ?_;obtain⟨ts,RG⟩:∃ts,ts=aR 63 [.agg V.row,.agg x.row]:=⟨_,rfl⟩;have hlen:ts.length=63:=by rw[RG];rfl
 have t0:slot ts 0=.agg V.row:=by rw[RG];rfl
 have t1:slot ts 1=.agg x.row:=by rw[RG];rfl
 show WC P bL (.seq (C7 0) (uz 1)) [] (aR 63 [.agg V.row,.agg x.row]) h (FQ [(4,some (some 7)),(5,none)] (JC h (fY V.an x.ev d) (jP V.an x.ev d)));rw[<-RG];clear RG;have RF:=@aC.box _ _ o;have hex:=@bw.box _ _ ox;generalize hR:uz 1=R;unfold C7 fn129 gA;simp only[ai.dr,ai.hd];refine Rs (A4 t0 t1 @RF @hex) ?_;rw[<-hR];exact I0 T rfl o w ox we hd Sn Sw (by simp only[aQ,aT,bo,bp,reduceAdd,reduceMul,reduceLeDiff,reduceEqDiff,bz,hlen,Zf,Zi];simp) (by simp only[aQ,aT,bo,bp,reduceAdd,reduceMul,reduceLeDiff,reduceEqDiff,bz,hlen,Zf,Zi];simp)
end
end Go.Abs
