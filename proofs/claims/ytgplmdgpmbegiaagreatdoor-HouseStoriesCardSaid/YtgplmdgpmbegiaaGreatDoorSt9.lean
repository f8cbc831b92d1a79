/- A part of the proof that HouseStories holds. No condition. -/
import Derived.Test.YtgplmdgpmbegiaaGreatDoorSt8
import Derived.Test.YtgplmdgpmbegiaaGreatDoorSt7
import Derived.Laws.Externs
import Derived.Shelf.Strconv.Itoa3
import Derived.Shelf.Strconv.Atoi
import Derived.Lib.AtoiErrMem
import Derived.Test.YtgplmdgpmbegiaaGreatDoorSt1
import Derived.Test.YtgplmdgpmbegiaaGreatDoorSt2
import Derived.Test.YtgplmdgpmbegiaaGreatDoorSt5
import Derived.Test.YtgplmdgpmbegiaaGreatDoorSt6
import Derived.ChangeArms
import Derived.Deep.Slices
import Derived.WideShapes
import Derived.ChangeShapes
import Derived.ChangeMaps5
import Derived.OpenShut
import Derived.Carry
import Derived.ChangeSame
import Derived.RowKit
import Derived.ProofKit
import Derived.LaidMore
import Derived.Lay
import Derived.SevenTiedAt
import Derived.Stop.Joined
import Derived.Test.YtgplmdgpmbegiaaGreatDoorRows
import Derived.Test.YtgplmdgpmbegiaaGreatDoorTie
import Derived.Test.YtgplmdgpmbegiaaGreatDoorCards
import Derived.Test.YtgplmdgpmbegiaaGreatDoorSt0
set_option maxHeartbeats 4000000
set_option linter.all false
open Nat (reduceAdd reduceMul reduceLeDiff reduceEqDiff)
namespace Go.Abs
theorem tB{c}:∀{s},(fe c s).2.2=true→s= (fe c s).1++c:: (fe c s).2.1
 | [],h=>by cases h
 | x::r,h=>by
  rw[fe]at h ⊢;split
  ·rename_i e;rw[e];rfl
  ·rename_i e;rw[Yd e]at h;exact YC (x::·) (tB (s:=r) h)
set_option maxRecDepth 10000
attribute [local irreducible] WP WC WE WB WR WF WL WG fT WQ
section
variable {P:Program} (T:fy P) {h:ah}
include T
def r37(X:C1 P)(Z:qj P)(w:Pw h)(s:By)(hsl:s.length≤2^37):ay P 37 [.str s] h (fun v k=>∃ (L':List EV) (s':AV),L'.map EV.ev= (lq s).1∧v= .dL [s',.i (lq s).2.1,.i (lq s).2.2]∧Fr h.length k s' 5 (L'.map EV.row)∧∀x∈L',AL h.length k s' x):=by
 refine .kM 55 T.mix T.c37 ?_;intro ts hlen t0;unfold fn37;by_cases h6:1000000 < s.length
 ·have d1:decide ((1000000:Int)< s.length)=true:=X7 Om;refine Rs (A2 t0 @d1) ?_;exact⟨[],.af,by rw[lq,Yh h6];rfl,by rw[lq,Yh h6],.nil,fun x hx=>(by cases hx)⟩
 have d1:decide ((1000000:Int)< s.length)=false:=X3 Om;have hrs:lq s=qZ (s.length+1) s [] 0:=Yd h6;refine Rs (A2 t0 @d1) ?_;refine WL.inv T.mix (fun n ts h'=>∃ (a f:Nat) (out:AV) (L':List EV) (g:ah),a≤s.length∧n=s.length - a∧h' =h++g∧L'.length≤a∧lq s=qZ (f+1) (s.drop a) (L'.map EV.ev) a∧s.length - a≤f∧Fr h.length (h++g) out 5 (L'.map EV.row)∧(∀x∈L',AL h.length (h++g) out x)∧
   ts.length=55∧slot ts 0= .str s∧slot ts 5=out∧slot ts 6= .i a) s.length
  ⟨0,s.length,.af,[],[],Om,rfl,Si,Yg _,hrs,Om,.nil,(fun x hx=>by cases hx),Sn,(Sq t0),Sw,hP⟩ ?_
 rintro _ ts _ ⟨a,f,out,L',g,ha,rfl,rfl,hLa,Ro,hf,hfr,hin,hlen,t0,t5,t6⟩;by_cases hlt:a < s.length
 ·have e3:decide ((a:Int)< s.length)=true:=X7 Om;have hne:s.drop a≠[]:=fun e=>by have:=YC List.length e;rw[aak]at this;simp at this;omega
  obtain⟨f',rfl⟩:∃f',f=f'+1:=⟨f - 1,Om⟩;rw[qZ,Yd hne]at Ro;have hdl: (s.drop a).length=s.length - a:=aak;have hcl:=rG (c:=10) (s:=s.drop a)
  repeat (first| simp (config:={ maxSteps:=1000000 }) only[aW,bd,bC,bD,reduceAdd,reduceMul,reduceLeDiff,reduceEqDiff,bE,hlen,Yo,Ys,t0,t5,t6,e3,j8 (show a≤s.length by omega)]| simp (config:={ maxSteps:=1000000 }) (disch:=first| (simp only[X2,X8,X9]<;>omega)| rfl| omega| fail) only[fU,aW,bd,bC,bD,reduceAdd,reduceMul,reduceLeDiff,reduceEqDiff,bE,hlen,Yo,Ys,t0,t5,t6,e3,j8 (show a≤s.length by omega)])
  refine WF.ce T.c98 (r98 T X (s.drop a) 10 Om) fun g1=>?_
  have Vh:=tB (c:=10) (s:=s.drop a);generalize (fe 10 (s.drop a)).1=ln at Ro hcl Vh ⊢;generalize (fe 10 (s.drop a)).2.1=rest at Ro hcl Vh ⊢;cases hwh: (fe 10 (s.drop a)).2.2 with
  | false=>
   rw[hwh]at Ro;refine Rs (A4 t0 t5 t6 @Yz) ?_;rw[Ro];exact⟨L',_,rfl,rfl,hfr.app g1,fun x hx=>(hin x hx).app g1⟩
  | true=>
  rw[hwh]at Ro;have Vh:=Vh hwh;have Tc: (s.drop a).length=ln.length+ (rest.length+1):=by rw[Vh];simp
  have RY:rest=s.drop (a+ln.length+1):=by
   have: (s.drop a).drop (ln.length+1)=rest:=by rw[Vh,←ZD];simp
   rw[←this,ZD];congr 1
  have w1:IntKind.i64.wrap (((L'.map EV.row).length:Int)+1)= (L'.length:Int)+1:=by rw[Ya];exact bo Om Om
  have w1':IntKind.i64.wrap ((L'.length:Int)+1)= (L'.length:Int)+1:=bo Om Om;refine Rs (A7 t0 t5 t6 @Yw hfr.aX.aL @w1 @w1') ?_;refine WF.res T.c99 (r99 T X Z (w.ext Xx) ln Om _) ?_;rintro _ g2 ⟨x,hx,rfl,fn,fv⟩;have hml: (L'.map EV.ev).length=L'.length:=Ya _;have Ro:lq s=if(fK ln ((L'.length:Int)+1)).2≠0 then(L'.map EV.ev,(a:Int),(fK ln ((L'.length:Int)+1)).2)else qZ (f'+1) rest (L'.map EV.ev++ [(fK ln ((L'.length:Int)+1)).1]) (a+ln.length+1):=by rw[Ro,hml];rfl
  rw[←hx]at Ro;generalize (fK ln ((L'.length:Int)+1)).2=er at Ro ⊢;have ox:bg (h++g++g1++g2) x:=⟨fn.aX,fv.aX⟩;have st:∀{b':Nat} {a0 a1 a2 a3 a4:AV},kV 5 0 (.agg x.row) b' (.b [a0,a1,a2,a3,a4])=some (aA,.set b' (.b x.row)):=fun {_ _ _ _ _ _}=>ox.st
  by_cases he:er=0
  case neg=>
   have d2:decide (er≠0)=true:=X7 he;rw[Yh he]at Ro;refine Rs (A5 t0 t5 t6 @st @d2) ?_;rw[Ro];exact⟨L',_,rfl,rfl,((hfr.app g1).app g2).app _,fun x hx=>(((hin x hx).app g1).app g2).app _⟩
  have d2:decide (er≠0)=false:=X3 (fun z=>z he);rw[Yd (fun z=>z he)]at Ro;have ox2:bg (h++g++g1++g2++ [ak.b x.row]) x:=ox.ext ⟨_,rfl⟩;have bs:=@bg.EK _ _ ox2;refine Rs (A7 t0 t5 t6 @st @d2 @cj @bs) ?_;refine WR.fL (h0:=h) (cs:=L'.map EV.row) (ys:=[x.row]) ((((hfr.app _).app _).app _).app _) (Fr.push (N:=0) (YB _) [x.row] (by intro y hy;rw[Yt]at hy;rw[hy];rfl)).aX De Si (by simp only[Ya,X8,X9];omega) Xx ?_;intro g' Q7 hff hkp;have hrow:L'.map EV.row++ [x.row]= (L'++ [x]).map EV.row:=by rw[Yc];rfl
  rw[hrow]at hff;rw[hrow];obtain⟨sn,RH⟩:∃sn,sn=AV.slice (h++g++g1++g2++ [ak.b x.row]++ [ak.cells x.row true true]).length 0 ((L'++ [x]).map EV.row).length 5:=⟨_,rfl⟩;rw[←RH]at hff ⊢;have Ty:∀i,sB sn=some i→(h++g++g1++g2).length+2=i:=fun i hi=>by rw[RH]at hi;cases hi;simp only[X2,Yv]<;>omega
  have hout:∀b,sB out=some b→b < (h++g).length:=fun b hb=>(hfr.bM hb).2
  have kp:∀i,i < (h++g++g1++g2).length→sB out≠some i→(h++g')[i]? = (h++g++g1++g2)[i]? :=fun i hi hne=>by
   rw[hkp i (by simp only[X2,Yv]at hi ⊢;omega) (fun b0 o n e he zz=>hne (by rw[he,zz];rfl)),X4 (h++g++g1++g2),X5 hi]
  have w2:IntKind.i64.wrap ((ln.length:Int)+1)= ((ln.length+1:Nat):Int):=wrapN Om;have w3:IntKind.i64.wrap ((a:Int)+ ((ln.length+1:Nat):Int))= ((a+ln.length+1:Nat):Int):=by rw[bo Om Om];omega
  refine Rs (A5 t0 t5 t6 @w2 @w3) ?_;refine⟨s.length - (a+ln.length+1),Om,a+ln.length+1,f',sn,L'++ [x],g',Om,rfl,rfl,by simp;omega,?_,Om,hff,fun y hy=>?_,rfl,rfl⟩
  ·rw[Ro,RY,Yc];rfl
  ·have lg:∀{i},i < (h++g).length→i < (h++g++g1++g2).length:=fun {i} hi=>by simp only[X2]at hi ⊢;omega
   rcases Yb.1 hy with hy| hy
   ·have oy:=hin y hy;have ln:=fun j (hj:sB y.sn=some j)=>(oy.n.bM hj).2
    have lv:=fun j (hj:sB y.sv=some j)=>(oy.v.bM hj).2
    refine⟨((oy.n.app g1).app g2).aB fun j hj=>kp j (lg (ln j hj)) (oy.dn j hj),((oy.v.app g1).app g2).aB fun j hj=>kp j (lg (lv j hj)) (oy.dv j hj),fun j hj e=>?_,fun j hj e=>?_⟩
    ·have h1:=lg (ln j hj);have h2:=Ty j e;omega
    ·have h1:=lg (lv j hj);have h2:=Ty j e;omega
   ·rw[Yt]at hy;subst hy;have ln:=fun j (hj:sB y.sn=some j)=>fn.bM hj
    have lv:=fun j (hj:sB y.sv=some j)=>fv.bM hj
    have en: (h++g++g1).length= (h++g).length+g1.length:=X2;exact P7
 ·have e3:decide ((a:Int)< s.length)=false:=X3 Om;have e4:a=s.length:=Om
  have hnil:s.drop a= []:=List.drop_eq_nil_of_le Om;rw[qZ,Yh hnil]at Ro;refine Rs (A4 t0 t5 t6 e3) ?_;rw[Ro];exact⟨L',_,rfl,rfl,hfr,hin⟩
end
def qF:Nat→Nat
 | 0=>198
 | 1=>126
 | 2=>200
 | 3=>201
 | 4=>202
 | 5=>203
 | _=>204
def jk(q:Nat×Bool×Nat):AV:=.agg [.bool q.2.1,.i (q.2.2:Nat),.func (.func (qF q.1)) [] []]
def BS:List (AV×AV):=[(.str [108,101,102,116],jk (0,true,4)),(.str [102,114,111,109],jk (1,true,5)),(.str [108,105,110,101,115],jk (2,true,3)),(.str [117,110,115,97,102,101],jk (3,false,2)),(.str [116,97,112,101,115],jk (4,true,2)),(.str [114,101,108,101,97,115,101,100],jk (5,false,5)),(.str [119,97,110,116],jk (6,true,0))]
def HY(k:By):jg .s (.str k) BS=some ((kO k).map jk):=by
 unfold kO BS;by_cases h0:k= [108,101,102,116]
 ·subst h0;rfl
 have b0: (k== [108,101,102,116])=false:=by simp[h0]
 by_cases h1:k= [102,114,111,109]
 ·subst h1;rfl
 have b1: (k== [102,114,111,109])=false:=by simp[h1]
 by_cases h2:k= [108,105,110,101,115]
 ·subst h2;rfl
 have b2: (k== [108,105,110,101,115])=false:=by simp[h2]
 by_cases h3:k= [117,110,115,97,102,101]
 ·subst h3;rfl
 have b3: (k== [117,110,115,97,102,101])=false:=by simp[h3]
 by_cases h4:k= [116,97,112,101,115]
 ·subst h4;rfl
 have b4: (k== [116,97,112,101,115])=false:=by simp[h4]
 by_cases h5:k= [114,101,108,101,97,115,101,100]
 ·subst h5;rfl
 have b5: (k== [114,101,108,101,97,115,101,100])=false:=by simp[h5]
 by_cases h6:k= [119,97,110,116]
 ·subst h6;rfl
 have b6: (k== [119,97,110,116])=false:=by simp[h6]
 simp only[jg,de,b0,b1,b2,b3,b4,b5,b6,Yd h0,Yd h1,Yd h2,Yd h3,Yd h4,Yd h5,Yd h6];rfl
def B6{h:ah}{r:Nat}(hb:h[r]? =some (.bn BS)){z:AV}{ok:Bool}{k:By}:gW .s z ok (.map r) (.str k) (fun b=>h[b]?)=lF z ok ((kO k).map jk):=rn hb (HY k)
theorem rq:∀{l} {i:Nat},∀y∈cS l i,(i:Int)≤y∧y < (i:Int)+l.length
 | [],i,y,h=>by simp[cS]at h
 | x::r,i,y,h=>by
  rw[cS]at h;have key:y∈cS r (i+1)→(i:Int)≤y∧y < (i:Int)+ (x::r).length:=fun h=>by
   have:=rq y h;rw[X8];omega
  split at h
  ·rcases YH.1 h with rfl| h
   ·rw[X8];omega
   ·exact key h
  ·exact key h
section
variable {P:Program} (T:fy P) {h:ah}
include T
theorem rr{h ks ts Q g es a l z ps k v es'}(ha:a+1≤ts.length)(h1: (a=1)=False)(t1:slot ts 1= .map h.length)
  (hv:rH (eF z (ps.map fun p=>(p.1,p.2.1,val ts p.2.2)))=some v) (hu:o7 .s (.str k) v es=some es')
  (K:∀ts',ts'.length=ts.length→slot ts' 1=slot ts 1→WP P bR l ks ts' (h++ [.bn es']++g) Q):
  WP P bR (.o a (.build z ps):: .x (.fj .s (.t 1) (.c (.str k)) (.t a))::l) ks ts (h++ [.bn es]++g) Q:=by
 have e1:tZ .s (.map h.length) (.str k) v (fun b=>(h++ [ak.bn es]++g)[b]?)=some (aA,.set h.length (.bn es')):=tY uq hu;unfold bJ.o bJ.x;rw[rO,hv,ux,uC];have e2:val (put ts (some a) v) (.t 1)= .map h.length:=by
  simp only[pP,uM,bE,h1,t1]
 have e3:val (put ts (some a) v) (.t a)=v:=by simp only[pP,uM,bE,ha]
 rw[jc,e2,e3,yv,e1,rN,BT,pP];have e4: (h++ [ak.bn es]++g).set h.length (.bn es')=h++ [.bn es']++g:=yK;rw[e4];exact K _ (by simp only[bE]) (by simp only[bE,h1])
def r109:ay P 109 [] h (fun v h'=>v= .map h.length∧h' =h++ [.bn BS]):=by
 refine .of T.mix T.c109 ?_;obtain⟨ts,QV⟩:∃ts,ts=aU 10 []:=⟨_,rfl⟩;have hlen:ts.length=10:=by rw[QV];rfl
 unfold fn109;show WC P bR _ [] (aU 10 []) h _;rw[←QV];clear QV;have m0:slot ((ts.set 0 AV.cQ).set 1 (.map h.length)) 1= .map h.length:=by simp only[bE,hlen,reduceAdd,reduceLeDiff]
 have l0: ((ts.set 0 AV.cQ).set 1 (.map h.length)).length=10:=by simp only[bE,hlen]
 dsimp only[ai.j,ai.s,ai.r];rw[rP,rQ,Lg T,uE,rP,rQ,Lh T];rw[←Yu (h++ [ak.bn []])];generalize (ts.set 0 AV.cQ).set 1 (.map h.length)=ts0 at *;clear hlen;refine rr T (v:=jk (0,true,4)) (es':=[(.str [108,101,102,116],jk (0,true,4))]) (by rw[l0];decide) (ZB De) m0 rfl rfl ?_;intro Sz lx mx;have l1:=lx.trans l0;have m1:=mx.trans m0;clear lx mx l0 m0;refine rr T (v:=jk (1,true,5)) (es':=[(.str [108,101,102,116],jk (0,true,4)),(.str [102,114,111,109],jk (1,true,5))]) (by rw[l1];decide) (ZB De) m1 rfl rfl ?_;intro Uf lx mx;have l2:=lx.trans l1;have m2:=mx.trans m1;clear lx mx l1 m1;refine rr T (v:=jk (2,true,3)) (es':=[(.str [108,101,102,116],jk (0,true,4)),(.str [102,114,111,109],jk (1,true,5)),(.str [108,105,110,101,115],jk (2,true,3))]) (by rw[l2];decide) (ZB De) m2 rfl rfl ?_
 intro ts3 lx mx;have l3:=lx.trans l2;have m3:=mx.trans m2;clear lx mx l2 m2;refine rr T (v:=jk (3,false,2)) (es':=[(.str [108,101,102,116],jk (0,true,4)),(.str [102,114,111,109],jk (1,true,5)),(.str [108,105,110,101,115],jk (2,true,3)),(.str [117,110,115,97,102,101],jk (3,false,2))]) (by rw[l3];decide) (ZB De) m3 rfl rfl ?_;intro ts4 lx mx;have l4:=lx.trans l3;have m4:=mx.trans m3;clear lx mx l3 m3;refine rr T (v:=jk (4,true,2)) (es':=[(.str [108,101,102,116],jk (0,true,4)),(.str [102,114,111,109],jk (1,true,5)),(.str [108,105,110,101,115],jk (2,true,3)),(.str [117,110,115,97,102,101],jk (3,false,2)),(.str [116,97,112,101,115],jk (4,true,2))]) (by rw[l4];decide) (ZB De) m4 rfl rfl ?_
 intro ts5 lx mx;have l5:=lx.trans l4;have m5:=mx.trans m4;clear lx mx l4 m4;refine rr T (v:=jk (5,false,5)) (es':=[(.str [108,101,102,116],jk (0,true,4)),(.str [102,114,111,109],jk (1,true,5)),(.str [108,105,110,101,115],jk (2,true,3)),(.str [117,110,115,97,102,101],jk (3,false,2)),(.str [116,97,112,101,115],jk (4,true,2)),(.str [114,101,108,101,97,115,101,100],jk (5,false,5))]) (by rw[l5];decide) (ZB De) m5 rfl rfl ?_;intro ts6 lx mx;have l6:=lx.trans l5;have m6:=mx.trans m5;clear lx mx l5 m5;refine rr T (v:=jk (6,true,0)) (es':=[(.str [108,101,102,116],jk (0,true,4)),(.str [102,114,111,109],jk (1,true,5)),(.str [108,105,110,101,115],jk (2,true,3)),(.str [117,110,115,97,102,101],jk (3,false,2)),(.str [116,97,112,101,115],jk (4,true,2)),(.str [114,101,108,101,97,115,101,100],jk (5,false,5)),(.str [119,97,110,116],jk (6,true,0))]) (by rw[l6];decide) (ZB De) m6 rfl rfl ?_
 intro ts7 lx mx;have l7:=lx.trans l6;have m7:=mx.trans m6;clear lx mx l6 m6;have hlen:=l7;rw[Yu];refine Rs @m7 ?_;rfl
section
variable {V:RV} (o:aC h V) (w:fk V.an)
include o w
def r198(Z:qj P)(pw:Pw h){n}(hn:n∈iE V.an):ay P 198 [.agg V.row,.str n] h (fun v k=>aK k v 1 ((kv V.an n 0).map ao)):=by
 refine .eD 10 T.mix T.c198 ?_;intro ts hlen t0 t1;unfold fn198;have QU:=@aC.box _ _ o;have l:=w.len;refine Rs (A4 t0 t1 @QU @aG) ?_;refine WF.res T.c124 (r124 T (o.ext Xx) l hn) ?_;rintro _ g1 ⟨x,hx,T0,rfl⟩;have hj:=w.jb x.1 (Yx hx);refine Rs (A2 t0 t1) ?_;refine WF.res T.c125 (r125 T ((o.e4 x hx).ext Xx) Om (fun s hs=>(hj.2.2.2 s hs).1)) ?_;intro v g2 hv;have Tc:=jR (l:=x.1.bz) (i:=0);refine Rs (A2 t0 t1) ?_;refine WF.res T.c199 (r199 T hv Om jw (fun y hy k ek=>by
  have:=rq y hy;exact yt T Z Om Om (pw.ext (Ext.trans Xx ek)))) ?_
 intro v3 g3 hv3;have hr:=hv3.aX;refine Rs t0 ?_;rw[T0]at hr;exact hr
def r200(n:By):ay P 200 [.agg V.row,.str n] h (fun v k=>aK k v 1 ((kv V.an n 2).map ao)):=by
 refine .eD 9 T.mix T.c200 ?_;intro ts hlen t0 t1;unfold fn200;have QU:=@aC.box _ _ o;have l:=w.len;have hin:∀x∈V.aD,x.1.bw.length < 2^30:=fun x hx=>by have:=(w.md x.1 (Yx hx)).2.1;omega
 refine Rs (A4 t0 t1 @QU @aG) ?_;refine WF.res T.c122 (r122 T (o.ext Xx) l hin _) ?_;rintro v3 g3 h3;have hsl: (iJ V.an n).length < 2^30:=by
  have h1: (iJ V.an n).length≤V.an.lines.length:=by unfold iJ;exact YK _ _
  have:=w.l0;omega
 refine Rs (A2 t0 t1) ?_;refine WF.res T.c121 (r121 T h3 Om (fun x=>x.name) (fun x _ k _=>bF.of (a:=[]) (c:=[]) T.c123 (r123 T x))) ?_;intro v4 g4 h4;have hr:=h4.aX;refine Rs t0 ?_;exact hr
def r201(n:By):ay P 201 [.agg V.row,.str n] h (fun v k=>aK k v 1 ((kv V.an n 3).map ao)):=by
 refine .eD 9 T.mix T.c201 ?_;intro ts hlen t0 t1;unfold fn201;have QU:=@aC.box _ _ o;have l:=w.len;refine Rs (A5 t0 t1 @QU @aG @sS) ?_;refine WF.res T.c80 (r80 T (o.ext Xx) l w.y3 _) ?_;intro v4 g4 h4;refine Rs t0 ?_;exact h4
def r202{n}(hn:n∈mN V.an):ay P 202 [.agg V.row,.str n] h (fun v k=>aK k v 1 ((kv V.an n 4).map ao)):=by
 refine .eD 9 T.mix T.c202 ?_;intro ts hlen t0 t1;unfold fn202;have QU:=@aC.box _ _ o;have l:=w.len;refine Rs (A4 t0 t1 @QU @aG) ?_;refine WF.res T.c77 (r77 T (o.ext Xx) l hn) ?_;rintro _ g1 ⟨x,hx,T0,rfl⟩;have hr:=(o.e2 x hx);unfold bj;refine Rs (A2 t0 t1) ?_;rw[T0]at hr;exact hr.ext Xx
end
end
def zL{l x}:sd (l++ [x])=sd l++ (if x.rel then [x.name,jw x.nf]else []):=by
 unfold sd;simp only[Yc,ZM,YY,ZV,Zi,List.flatten_nil,Yu]
theorem qX:∀{l},(sd l).length≤2 * l.length
 | []=>by simp[sd]
 | x::r=>by
  have:=qX (l:=r);unfold sd at this ⊢;rw[YY,Zi,X2,X8];split
  ·simp only[X8,X9];omega
  ·simp only[X9];omega
section
variable {P:Program} (T:fy P) {h:ah}
include T
section
variable {V:RV} (o:aC h V) (w:fk V.an)
include o w
def r203(Z:qj P)(pw:Pw h)(n:By):ay P 203 [.agg V.row,.str n] h (fun v k=>aK k v 1 ((kv V.an n 5).map ao)):=by
 refine .eD 27 T.mix T.c203 ?_;intro ts hlen t0 t1;unfold fn203;have QU:=@aC.box _ _ o;have l5:V.aQ.length≤16:=w.l5;refine Rs (A5 t0 t1 @QU @gT o.i5.aL) ?_;refine WL.inv T.mix (fun n ts h'=>∃ (k:Nat) (out:AV) (g:ah),k≤V.aQ.length∧n=V.aQ.length - k∧h' =h++g∧Fr h.length (h++g) out 1 ((sd (V.aQ.take k)).map ao)∧
   ts.length=27∧slot ts 5=out∧slot ts 9=V.s5∧slot ts 10= .i V.aQ.length∧slot ts 11= .i k) V.aQ.length
  ⟨0,.af,_,Om,rfl,rfl,.nil,Sn,(Sq t1),Sw,(Sq t0),hP⟩ ?_
 rintro _ ts _ ⟨k,out,g,hk,rfl,rfl,hfr,hlen,t5,t9,t10,t11⟩;by_cases hlt:k < V.aQ.length
 ·have e3:=eT hlt;have e5:=wrapN (n:=k) Om;have ix:=o.i5.dI (kk:=.i64) hlt;have ld:∀{k'},Ext (h++g) k'→aq (some 4) (cV V.s5 4 k) (fun b=>k'[b]?)=some (.agg (c9 V.aQ[k]),.au):=fun {k'} e=>o.i5.kR hlt (Ext.trans Xx e)
  obtain⟨x,hx⟩:∃x,x=V.aQ[k]:=⟨_,rfl⟩;have SF:x∈V.aQ:=by rw[hx];exact Yi _
  have hpc:=w.pc x SF;have Rh:V.aQ.take (k+1)=V.aQ.take k++ [x]:=by rw[hx,YM,X6 hlt];rfl
  have Sd:=qX (l:=V.aQ.take k);have htl: (V.aQ.take k).length≤16:=by rw[Y5];omega
  have RH:=zL (l:=V.aQ.take k) (x:=x);rw[←hx]at ld;unfold c9 at ld;cases hrel:x.rel with
  | false=>
   rw[hrel]at ld RH;rw[Yd Si,Yu,←Rh]at RH;rw[←RH]at hfr;refine Rs (A8 t5 t9 t10 t11 e3 e5 ix @ld) ?_;exact⟨V.aQ.length - (k+1),Om,k+1,out,_,Om,rfl,X4 _ _ _,by rw[←X4];exact hfr.app _,rfl,rfl⟩
  | true=>
   rw[hrel]at ld RH;rw[Yh rfl,←Rh]at RH;refine Rs (A7 t5 t9 t10 t11 e3 ix @ld) ?_;refine WF.ce T.c113 (Z.itoa Om Om (pw.ext Xx)) fun g1=>?_
   rw[gx hpc.2.1];refine Rs (A4 t5 t9 t10 t11) ?_;refine WR.Fc (h0:=h) (cs:=(sd (V.aQ.take k)).map ao) (ys:=([x.name,jw x.nf] :List (By)).map ao) (((hfr.app _).app _).app _) (Fr.push (N:=0) (YB _) (([x.name,jw x.nf] :List (By)).map ao) (by simp[ao])).aX De (by simp;omega) Xx ?_;intro s' g' hff hkp hle;rw[←Yc,←RH]at hff;refine Rs (A5 t5 t9 t10 t11 e5) ?_;exact⟨V.aQ.length - (k+1),Om,k+1,s',g',Om,rfl,rfl,hff,rfl,rfl⟩
 ·have e3:=fQ hlt;have e4:k=V.aQ.length:=Om
  refine Rs (A5 t5 t9 t10 t11 e3) ?_;rw[e4,YF]at hfr;exact hfr.aX
def r204(Z:qj P)(pw:Pw h){n}(hn:n∈gE V.an):ay P 204 [.agg V.row,.str n] h (fun v k=>aK k v 1 ((kv V.an n 6).map ao)):=by
 refine .eD 22 T.mix T.c204 ?_;intro ts hlen t0 t1;unfold fn204;have QU:=@aC.box _ _ o;have l:=w.len;have Uz:=w.ln _ (gY (f:=gM.name) (l:=V.an.lines) (n:=n) (d:=B1) hn);have Tc: (V.aj.filter fun x=>decide (x.1.line=n)).length≤V.aj.length:=YK _ _;have hl2:=l.l2;have hof: (zR V.an n).length= (V.aj.filter fun x=>decide (x.1.line=n)).length:=by
  unfold zR;simp only[RV.an,aaa,Ya];rfl
 refine Rs (A4 t0 t1 @QU @aG) ?_;refine WF.ce T.c205 (r205 T (o.ext Xx) l hn) fun g1=>?_
 have Uc:kv V.an n 6= [jw (zR V.an n).length,jw (dJ V.an n).want,if(dJ V.an n).acc then [97,99,99,101,112,116,101,100]else [111,112,101,110]]:=rfl;have Uz:1≤(dJ V.an n).want∧(dJ V.an n).want≤64:=Uz;generalize dJ V.an n=y at Uc Uz ⊢;unfold cp;rw[hof]at Uc;cases S0:y.acc with
 | true=>
  rw[S0]at Uc;refine Rs (A4 t0 t1 @aG @S0) ?_;refine WF.res T.c206 (r206 T (o.ext Xx) l n) ?_;intro v2 g2 h2;refine Rs (A3 t0 t1 h2.aL) ?_;refine WF.ce T.c113 (Z.itoa Om Om (pw.ext Xx)) fun g3=>?_
  rw[gx Om];refine Rs (A2 t0 t1) ?_;refine WF.ce T.c113 (Z.itoa Om Om (pw.ext Xx)) fun g4=>?_
  rw[gx Om];refine Rs (A2 t0 t1) ?_;rw[Uc];exact(Fr.push (es:=1) (N:=0) (YB _) (([jw ((V.aj.filter fun x=>decide (x.1.line=n)).length:Nat),jw y.want,[97,99,99,101,112,116,101,100]] :List (By)).map ao) (by simp[ao])).aX
 | false=>
  rw[S0]at Uc;refine Rs (A4 t0 t1 @aG @S0) ?_;refine WF.res T.c206 (r206 T (o.ext Xx) l n) ?_;intro v2 g2 h2;refine Rs (A3 t0 t1 h2.aL) ?_;refine WF.ce T.c113 (Z.itoa Om Om (pw.ext Xx)) fun g3=>?_
  rw[gx Om];refine Rs (A2 t0 t1) ?_;refine WF.ce T.c113 (Z.itoa Om Om (pw.ext Xx)) fun g4=>?_
  rw[gx Om];refine Rs (A2 t0 t1) ?_;rw[Uc];exact(Fr.push (es:=1) (N:=0) (YB _) (([jw ((V.aj.filter fun x=>decide (x.1.line=n)).length:Nat),jw y.want,[111,112,101,110]] :List (By)).map ao) (by simp[ao])).aX
end
end
def vz{n}(h:dW n=true):n.length≤24:=by
 cases n with
 | nil=>cases h
 | cons c r=>
  unfold dW at h;simp only[YD,YO]at h;rw[X8];omega
def tX{l}(h:pI l){n}(hn:n∈l):n.length≤24:=vz (h.nm n hn)
theorem pq{c}:∀{l},(∀x∈l,x.length≤64)→(jf c l).length≤65 * l.length
 | [],_=>YB _
 | x::r,h=>by
  have ih:=pq (c:=c) (l:=r) fun y hy=>h y (YI _ hy)
  have hx:=h x Si;by_cases hr:r= []
  ·subst hr;simp only[jf,X8,X9];omega
  ·rw[mY hr,X2,X8,X8];omega
theorem td:∀{l m:List (By)},l.Nodup→(∀x∈l,x∈m)→l.length≤m.length
 | [],_,_,_=>YB _
 | x::r,m,hd,hs=>by
  rw[aaB]at hd;have hm:=hs x Si;have:=td (l:=r) (m:=m.erase x) hd.2 fun y hy=>(List.mem_erase_of_ne (fun e=>hd.1 (by rw[←e];exact hy))).2 (hs y (YI _ hy))
  rw[List.length_erase_of_mem hm]at this;have:=List.length_pos_of_mem hm;rw[X8];omega
def IC{R:eX}(w:fk R){n k:By}{q:Nat×Bool×Nat}(hq:kO k=some q)(hn:q.2.1=true→dG R q.2.2 n=true): (∀x∈kv R n q.1,x.length≤64)∧(kv R n q.1).length≤64:=by
 have dl:∀{y:Int},0≤y→y < 99999999→(jw y).length≤64:=fun {y} h0 h1=>by have:=l9 (k:=7) (u:=y.toNat) Om;rw[kr];omega
 unfold kO at hq
 repeat' split at hq
 all_goals cases hq
 ·have hm:n∈iE R:=Zq (hn rfl);have hj:=w.jb _ (gY (f:=kU.name) (l:=R.aH) (n:=n) (d:=zS) hm);have Tc:=jR (l:=(gu R n).bz) (i:=0);have hj: (gu R n).bz.length≤32:=hj.2.2.1;refine⟨fun x hx=>?_,?_⟩
  ·obtain⟨y,hy,rfl⟩:=YA.1 hx;have:=rq y hy;exact z175
  ·show((cS _ _).map jw).length≤64;rw[Ya];omega
 ·refine⟨fun x hx=>?_,?_⟩
  ·exact JY
  ·show(sX R n).length≤64;unfold sX;exact JC
 ·refine⟨fun x hx=>?_,?_⟩
  ·obtain⟨y,hy,rfl⟩:=YA.1 hx;have:=tX w.n0 (Yx (f:=gM.name) (Zk.1 hy).1);omega
  ·show((iJ R n).map gM.name).length≤64;unfold iJ;rw[Ya];have:=YK (fun l:gM=>decide (l.name∈(mC R n).map gS.line)) R.lines;have:=w.l0;omega
 ·refine⟨fun x hx=>?_,?_⟩
  ·exact JY
  ·show(j6 R R.tick).length≤64;unfold j6;exact JC
 ·have hm:n∈mN R:=Zq (hn rfl);have hs:=w.sh _ (gY (f:=jI.name) (l:=R.aj) (n:=n) (d:=D2) hm);refine⟨fun x hx=>?_,?_⟩
  ·have:=tX w.n1 (hs.2.2.2 x hx);omega
  ·have:=td hs.2.2.1 hs.2.2.2;have h1: (jB R).length≤16:=by unfold jB;rw[Ya];exact w.l1
   exact YQ this Om
 ·refine⟨fun x hx=>?_,?_⟩
  ·obtain⟨l,hl,hx⟩:=List.mem_flatten.1 hx;obtain⟨p,hp,rfl⟩:=YA.1 hl;have hpc:=w.pc p hp;split at hx
   ·simp only[YH,Y7,ZI]at hx;rcases hx with rfl| rfl
    ·have:=tX w.n5 (Yx (f:=qk.name) hp);omega
    ·exact dl hpc.2.1 Om
   ·cases hx
  ·have:=qX (l:=R.aQ);have:=w.l5;show(sd R.aQ).length≤64;omega
 ·have hm:n∈gE R:=Zq (hn rfl);have hw:=w.ln _ (gY (f:=gM.name) (l:=R.lines) (n:=n) (d:=B1) hm);have hw:1≤(dJ R n).want∧(dJ R n).want≤64:=hw;have ho: (zR R n).length≤64:=YQ (YK _ _) w.l2;refine⟨fun x hx=>?_,by show(3:Nat)≤64;omega⟩;have hx:x∈[jw (zR R n).length,jw (dJ R n).want,if(dJ R n).acc then [97,99,99,101,112,116,101,100]else [111,112,101,110]]:=hx;simp only[YH,Y7,ZI]at hx;rcases hx with rfl| rfl| rfl
  ·exact z175
  ·exact z175
  ·split<;>decide
section
variable {P:Program} (T:fy P) {h:ah}
include T
def Qu{V}(o:aC h V)(w:fk V.an)(Z:qj P)(pw:Pw h){n k q}(hq:kO k=some q)(hn:q.2.1=true→dG V.an q.2.2 n=true):
  bF P (.func (.func (qF q.1)) [] []) [.agg V.row,.str n] h (fun v k'=>aK k' v 1 ((kv V.an n q.1).map ao)):=by
 unfold kO at hq
 repeat' split at hq
 all_goals cases hq
 ·exact bF.of (a:=[]) (c:=[]) T.c198 (r198 T o w Z pw (Zq (hn rfl)))
 ·exact bF.of (a:=[]) (c:=[]) T.c126 (r126 T o w (Zq (hn rfl)))
 ·exact bF.of (a:=[]) (c:=[]) T.c200 (r200 T o w n)
 ·exact bF.of (a:=[]) (c:=[]) T.c201 (r201 T o w n)
 ·exact bF.of (a:=[]) (c:=[]) T.c202 (r202 T o w (Zq (hn rfl)))
 ·exact bF.of (a:=[]) (c:=[]) T.c203 (r203 T o w Z pw n)
 ·exact bF.of (a:=[]) (c:=[]) T.c204 (r204 T o w Z pw (Zq (hn rfl)))
end
def CX(k:Nat):ai:=(fn110).body.dr k
def Ff(k:Nat):ai:=(CX k).hd
def Pn:fn110= ⟨69,2,[(4,none),(5,none)],.seq (Ff 0) (.seq (Ff 1) (.seq (Ff 2) (.seq (Ff 3) (.seq (Ff 4) (CX 5)))))⟩:=rfl
def Pm:CX 5= .seq (Ff 5) (.seq (Ff 6) (CX 7)):=rfl
def Nx{k q}(hq:kO k=some q):q.2.2 < 6:=by
 unfold kO at hq
 repeat' split at hq
 all_goals cases hq
 all_goals decide
section
variable {P:Program} (T:fy P) {h W:ah} {ts:TS}
include T
def Gy{VN n k i wt b6 b8 nm}(oV:aC W VN)(wV:fk VN.an)(Z:qj P)(pw:Pw W)(hq:kO k=some (i,nm,wt))(hn:nm=true→dG VN.an wt n=true)
  (m6:W[b6]? =some (.b [.bool nm,.i (wt:Nat),.func (.func (qF i)) [] []])) (m8:W[b8]? =some (.b VN.row)) (hlen:ts.length=69) (t6:slot ts 6= .ptr b6 0) (t7:slot ts 7= .str n) (t8:slot ts 8= .ptr b8 0) (he:Ext h W):
  WC P bR (CX 7) [] ts W (FQ [(4,none),(5,none)] fun v k=>Ext h k∧v= .dL [.str (yl (kv VN.an n i)),.i 0]):=by
 have l6:∀{k:ah} {n':Option Nat} {a:Nat},Ext W k→aq n' (.ptr b6 a) (fun z=>k[z]?)=dE n' a (.b [.bool nm,.i (wt:Nat),.func (.func (qF i)) [] []]):=fun e=>az (e.some m6)
 have l8:∀{k:ah} {n':Option Nat} {a:Nat},Ext W k→aq n' (.ptr b8 a) (fun z=>k[z]?)=dE n' a (.b VN.row):=fun e=>az (e.some m8)
 have Vq:=IC wV hq hn;have hv0:=Qu T oV wV Z pw hq hn;unfold CX fn110;simp only[ai.j,ai.s,ai.r,ai.dr,ai.tl,ai.hd];refine Rs (A6 t6 t7 t8 @l6 @l8 @aG) ?_;refine WF.val hv0 ?_;intro v g hv;have Vq: (∀x∈kv VN.an n i,x.length≤64)∧(kv VN.an n i).length≤64:=Vq;have hv:aK (W++g) v 1 ((kv VN.an n i).map ao):=hv;generalize kv VN.an n i=L at Vq hv ⊢;by_cases hL:L= []
 ·have d0:decide ((L.length:Int)=0)=true:=X7 (by rw[hL];rfl);refine Rs (A5 t6 t7 t8 hv.aL @d0) ?_;exact⟨he.trans Xx,by rw[yl,Yh hL]⟩
 ·have VZ:0 < L.length:=Z0.2 hL;have d0:decide ((L.length:Int)=0)=false:=X3 Om;have hj:=pq (c:=32) Vq.1;refine Rs (A5 t6 t7 t8 hv.aL @d0) ?_;refine WF.ce T.c114 (Z.join hv ⟨by rw[ru];omega,Om⟩) fun g2=>?_
  refine Rs t6 ?_;exact⟨he.trans Xx,by rw[yl,Yd hL,ru]⟩
def Gx{V b n k i wt b6 nm}(o:zt h b V)(w:kC V.bS)(hl:V.cM.length≤1000)(Z:qj P)(pw:Pw h)(hq:kO k=some (i,nm,wt))(he:Ext h W)
  (m6:W[b6]? =some (.b [.bool nm,.i (wt:Nat),.func (.func (qF i)) [] []])) (hlen:ts.length=69) (t0:slot ts 0= .ptr b 0) (t6:slot ts 6= .ptr b6 0) (t7:slot ts 7= .str n) {R}
  (hR:R=if nm=true∧dG V.bS.now wt n=false then([],10)else(yl (kv V.bS.now n i),0)):
  WC P bR (CX 5) [] ts W (FQ [(4,none),(5,none)] fun v k=>Ext h k∧v= .dL [.str R.1,.i R.2]):=by
 have l6:∀{k:ah} {n':Option Nat} {a:Nat},Ext W k→aq n' (.ptr b6 a) (fun z=>k[z]?)=dE n' a (.b [.bool nm,.i (wt:Nat),.func (.func (qF i)) [] []]):=fun e=>az (e.some m6)
 have hwt:wt < 6:=Nx hq;obtain⟨RR,RT⟩:∃RR,RR=CX 7:=⟨_,rfl⟩;have o2:=o.ext he;have oV:=o2.now;have wV:fk V.now.an:=by rw[V.jr];exact w.now
 rw[←V.jr]at hR;have st:=fun {b':Nat} {a0 a1 a2 a3 a4 a5 a6:AV}=>@aC.st _ _ oV b' a0 a1 a2 a3 a4 a5 a6 false
 rw[Pm,←RT];unfold Ff CX fn110;simp only[ai.j,ai.s,ai.r,ai.dr,ai.tl,ai.hd];refine Rs (A3 t0 t6 t7) ?_;refine WF.ce T.c79 (r79 T o2 hl) fun g1=>?_
 cases nm with
 | false=>
  rw[Yd Si]at hR;refine Rs (A6 t0 t6 t7 @st @l6 @aG) ?_;rw[hR,RT];exact Gy T (VN:=V.now) (b6:=b6) (b8:=(W++g1).length) (oV.ext Xx) wV Z (pw.ext (he.trans Xx)) hq (fun e=>by cases e) (Ext.some Xx m6) (by rw[Ye (Yg _),Zb];rfl) (Sq t0) (Sq t6) (Sq t7) (Sq t0) (he.trans Xx)
 | true=>
  refine Rs (A6 t0 t6 t7 @st @l6 @aG) ?_;refine WF.ce T.c86 (r86 T (oV.ext Xx) wV.len hwt n) fun g2=>?_
  cases hhs:dG V.now.an wt n with
  | false=>
   rw[Yh ⟨rfl,hhs⟩]at hR;refine Rs (A5 t0 t6 t7 @hhs @Yz) ?_;exact⟨he.trans Xx,by rw[hR]⟩
  | true=>
   rw[Yd (by rw[hhs];simp)]at hR;refine Rs (A5 t0 t6 t7 @hhs @Yw) ?_;rw[hR,RT];exact Gy T (VN:=V.now) (b6:=b6) (b8:=(W++g1).length) (oV.ext Xx) wV Z (pw.ext (he.trans Xx)) hq (fun _=>hhs) (Ext.some Xx m6) (Ext.some (h:=W++g1++ [ak.b V.now.row]) Xx (by rw[Ye (Yg _),Zb];rfl)) (Sq t0) (Sq t6) (Sq t7) (Sq t0) (he.trans Xx)
end
def Aq: ((false:Bool)==false)=true:=rfl
def An: ((true:Bool)==true)=true:=rfl
def Ao: ((true:Bool)==false)=false:=rfl
def Ap: ((false:Bool)==true)=false:=rfl
section
variable {P:Program} (T:fy P) {h:ah}
include T
def r110{V b}(o:zt h b V)(w:kC V.bS)(hl:V.cM.length≤1000)(Z:qj P)(pw:Pw h){s ws}(hs:aK h s 1 (ws.map ao))(hne:0 < ws.length)(hwl:ws.length < 2^62){q}(hq:kO (ws.headD [])=some q):
  ay P 110 [.ptr b 0,s] h (fun v _=>v= .dL [.str (nj V.bS.now ws q).1,.i (nj V.bS.now ws q).2]):=by
 refine .of T.mix (aaE T.c110 (YC some Pn)) ?_;obtain⟨ts,QV⟩:∃ts,ts=aU 69 [.ptr b 0,s]:=⟨_,rfl⟩;have hlen:ts.length=69:=by rw[QV];rfl
 have t0:slot ts 0= .ptr b 0:=by rw[QV];rfl
 have t1:slot ts 1=s:=by rw[QV];rfl
 obtain⟨RR,RT⟩:∃RR,RR=CX 5:=⟨_,rfl⟩;obtain⟨i,nm,wt⟩:=q;show WC P bR _ [] (aU 69 [.ptr b 0,s]) h (FQ _ (fun v k=>Ext h k∧v= .dL [.str (nj V.bS.now ws (i,nm,wt)).1,.i (nj V.bS.now ws (i,nm,wt)).2]));rw[←QV,←RT];clear QV;have Xr:ws[0]=ws.headD []:=by cases ws with| nil=>simp at hne| cons a r=>rfl
 have qp:=hs.qp (kk:=.i64) hne;have ld0:∀{k:ah},Ext h k→aq none (cV s 1 0) (fun b=>k[b]?)=some (.str (ws.headD []),.au):=fun {k} e=>by rw[←Xr];exact hs.ki (i:=0) hne rfl e
 unfold Ff CX fn110;simp only[ai.j,ai.s,ai.r,ai.dr,ai.tl,ai.hd];refine Rs (A2 t0 t1) ?_;refine WF.res T.c109 (r109 T) ?_;rintro _ g1 ⟨rfl,hg⟩;have hg:g1= [.bn BS]:=ZU hg;subst hg;have lk:∀{z:AV},gW .s z false (.map h.length) (.str (ws.headD [])) (fun b=>(h++ [ak.bn BS])[b]?)=lF z false ((kO (ws.headD [])).map jk):=B6 (by rw[Ye (Yg _),Zb];rfl);rw[hq]at lk;have Rw:∀{z:AV},_=some (AV.agg [.bool nm,.i (wt:Nat),.func (.func (qF i)) [] []],iA.au):=@lk;have m6:∀{k:ah},Ext (h++ [ak.bn BS]++ [ak.b [.bool nm,.i (wt:Nat),.func (.func (qF i)) [] []]]) k→k[(h++ [ak.bn BS]).length]? =some (ak.b [.bool nm,.i (wt:Nat),.func (.func (qF i)) [] []]):=fun e=>e.some (by rw[Ye (Yg _),Zb];rfl)
 have hsyn:∀{x:By×Int},x= ([],25)→nj V.bS.now ws (i,nm,wt)= ([],25)→∀{k:ah},Ext h k→(Ext h k∧AV.dL [.str [],.i 25]= .dL [.str (nj V.bS.now ws (i,nm,wt)).1,.i (nj V.bS.now ws (i,nm,wt)).2]):=fun _ he k e=>⟨e,by rw[he]⟩
 cases nm with
 | false=>
  have Sh:nj V.bS.now ws (i,false,wt)=if ws.length≠1 then([],25)else(yl (kv V.bS.now [] i),0):=by
   unfold nj;simp
  by_cases e1:ws.length=1
  ·have d1:decide ((ws.length:Int)≠1)=false:=X3 (fun z=>z Om);have d2:decide ((ws.length:Int)=2)=false:=X3 Om;refine Rs (FN t0 t1 @qp @ld0 @bT @Rw @iw @Aq @An @Ao @Ap hs.aL @d1 @d2 @Yz @Yw) ?_;rw[RT];exact Gx T (n:=[]) o w hl Z pw hq Xx (m6 Xx) (Sq t0) (Sq t0) (Sq t0) (Sq t0) (by rw[Sh,Yd (by simpa using e1),Yd Si])
  ·have d1:decide ((ws.length:Int)≠1)=true:=X7 Om;rw[Yh e1]at Sh;by_cases e2:ws.length=2
   ·have d2:decide ((ws.length:Int)=2)=true:=X7 Om;have d3:decide (([] :By)≠[])=false:=rfl;refine Rs (Jg t0 t1 @qp @ld0 @bT @Rw @iw @Aq @An @Ao @Ap hs.aL @d1 @d2 @d3 @Yz @Yw) ?_;rw[Sh]
   ·have d2:decide ((ws.length:Int)=2)=false:=X3 Om;refine Rs (FN t0 t1 @qp @ld0 @bT @Rw @iw @Aq @An @Ao @Ap hs.aL @d1 @d2 @Yz @Yw) ?_;rw[Sh]
 | true=>
  by_cases e2:ws.length=2
  ·have d2:decide ((ws.length:Int)=2)=true:=X7 Om;have hw1:ws[1]=ws.getD 1 []:=by rw[YJ,X6 Om];rfl
   have ix1:aZ 1 s (.i 1)=some (cV s 1 1,.au):=hs.dI (kk:=.i64) (i:=1) Om;have Vw:∀{k:ah},Ext h k→aq none (cV s 1 1) (fun b=>k[b]?)=some (.str (ws.getD 1 []),.au):=fun {k} e=>by rw[←hw1];exact hs.ki (i:=1) Om rfl e
   have Sh:nj V.bS.now ws (i,true,wt)=if ws.getD 1 []= []then([],25)else if dG V.bS.now wt (ws.getD 1 [])=false then([],10)else(yl (kv V.bS.now (ws.getD 1 []) i),0):=by
    unfold nj;simp only[e2,and_true,Ys,aaD,ne_eq,Bool.true_eq_false,false_and,ZI,ZN]
   generalize ws.getD 1 []=n at Vw Sh;by_cases hn:n= []
   ·have d3:decide (n≠[])=false:=X3 (fun z=>z hn);rw[Yh hn]at Sh;refine Rs (GG t0 t1 @qp @ld0 @ix1 @Vw @bT @Rw @iw @Aq @An @Ao @Ap hs.aL @d2 @d3 @Yz @Yw) ?_;rw[Sh]
   ·have d3:decide (n≠[])=true:=X7 hn;rw[Yd hn]at Sh;refine Rs (GG t0 t1 @qp @ld0 @ix1 @Vw @bT @Rw @iw @Aq @An @Ao @Ap hs.aL @d2 @d3 @Yz @Yw) ?_;rw[RT];exact Gx T (n:=n) o w hl Z pw hq Xx (m6 Xx) (Sq t0) (Sq t0) (Sq t0) (Sq t0) (by rw[Sh];simp)
  ·have d2:decide ((ws.length:Int)=2)=false:=X3 Om;have Sh:nj V.bS.now ws (i,true,wt)= ([],25):=by
    unfold nj;simp[e2]
   refine Rs (Db t0 t1 @qp @ld0 @bT @Rw @iw @Aq @An @Ao @Ap hs.aL @d2 @Yz @Yw) ?_;rw[Sh]
end
def my(B h0:ah)(b:Nat)(V:HV)(R:jj×By×Int)(v:AV)(k:ah):Prop:=∃g' V',k=B++g'∧v= .dL [.str R.2.1,.i R.2.2]∧cF B.length (B++g') b V'∧V'.bS=R.1∧
 (∀i,i < h0.length→some i∉V.ex b→(B++g')[i]? =h0[i]?)∧∀j,some j∈V'.ex b→some j∈V.ex b∨h0.length≤j
def my.same{B W k b V m c}(o:cF B.length W b V)(e:Ext B W)(e2:Ext W k){R}(hR:R= (V.bS,m,c)):my B W b V R (.dL [.str m,.i c]) k:=by
 obtain⟨z,rfl⟩:=e;obtain⟨y,rfl⟩:=e2;exact⟨z++y,V,by rw[X4],by rw[hR],by rw[←X4];exact o.app y,by rw[hR],fun i hi _=>by rw[←X4,X5 hi],fun j hj=>.inl hj⟩
def my.low{B h0 W k b V R v}(s:my B W b V R v k)(e:Ext h0 W):my B h0 b V R v k:=by
 obtain⟨g',V',h1,h2,h3,h4,h5,h6⟩:=s;obtain⟨z,rfl⟩:=e;refine⟨g',V',h1,h2,h3,h4,fun i hi hn=>?_,fun j hj=>?_⟩
 ·rw[h5 i (by rw[X2];omega) hn,X5 hi]
 ·rcases h6 j hj with h| h
  ·exact .inl h
  ·exact .inr (by rw[X2]at h;omega)
def qW(H:jj)(ws:List (By)):jj×By×Int:=
 if(ep ws).2=false then(H,[],25)else
 if 1000≤H.db.length then(H,[],5)else
 if fD H { (ep ws).1 with num:=(H.db.length:Int)+1 }≠0 then(H,[],fD H { (ep ws).1 with num:=(H.db.length:Int)+1 })
 else(lM H { (ep ws).1 with num:=(H.db.length:Int)+1 },[100,111,110,101,32]++jw ((H.db.length:Int)+1),0)
def Cw{H s}:Ae H s=if 4096 < s.length then(H,[],26)else if s= []then(H,[],25)else
  match kO ((bK 32 s).headD [])with
  | some q=>(H,nj H.now (bK 32 s) q)
  | none=>
   match gJ ((bK 32 s).headD [])with
   | none=>(H,[],13)
   | some _=>qW H (bK 32 s):=by
 unfold Ae;by_cases h1:4096 < s.length
 ·rw[Yh h1,Yh h1]
 rw[Yd h1,Yd h1];by_cases h2:s= []
 ·rw[Yh h2,Yh h2]
 rw[Yd h2,Yd h2];cases kO ((bK 32 s).headD [])with
 | some q=>rfl
 | none=>
  cases gJ ((bK 32 s).headD [])with
  | none=>rfl
  | some d=>
   simp only;unfold qW;cases (ep (bK 32 s)).2<;>rfl
def I7(k:Nat):ai:=(fn43).body.dr k
def Il(k:Nat):ai:=(I7 k).hd
def O5:fn43= ⟨97,2,[(4,none),(5,none)],.seq (Il 0) (.seq (Il 1) (.seq (Il 2) (.seq (Il 3) (.seq (Il 4) (.seq (Il 5) (I7 6))))))⟩:=rfl
section
variable {P:Program} (T:fy P) {B W:ah} {ts:TS}
include T
def Mc{V b x}(he:Ext B W)(o:cF B.length W b V)(w:kC V.bS)(hl:V.db.length < 1000)(ox:bg W x)(hxl:x.ev.names.length≤2^40∧x.ev.b9.length≤2^40)(gl:Gl B):
  da P 112 [.ptr b 0,.agg x.row] W (fun v k=>Je B W b V x.ev v k):=by
 obtain⟨g,rfl⟩:=he;exact Lz T o w hl ox hxl gl
def O4{V b}(he:Ext B W)(o:cF B.length W b V)(w:kC V.bS)(hl:V.db.length≤1000)(gl:Gl B)(pw:Pw B)(Z:qj P){sv ws}(hs:aK W sv 1 (ws.map ao))(hwl:∀x∈ws,x.length≤2^40)
  (hlen:ts.length=97) (t0:slot ts 0= .ptr b 0) (t7:slot ts 7=sv):WC P bR (I7 6) [] ts W (FQ [(4,none),(5,none)] fun v k=>my B W b V (qW V.bS ws) v k):=by
 have Sd:=vk ws;have Ur:V.bS.db.length=V.db.length:=by simp[HV.bS]
 have lb:=@fH _ _ _ o.hb;have TB:=o.rd.ie.aL;unfold I7 fn43;simp only[ai.j,ai.s,ai.r,ai.dr,ai.tl,ai.hd];refine Rs (A2 t0 t7) ?_;refine WF.res T.c111 (r111 T Z hs hwl) ?_;rintro _ g1 ⟨x,hx,rfl,fn,fv⟩;have ox:bg (W++g1) x:=⟨fn.aX,fv.aX⟩;obtain⟨x',Q2⟩:∃x':EV,x' = ⟨{ x.ev with num:=(V.db.length:Int)+1 },x.sn,x.sv⟩:=⟨_,rfl⟩;have hrow:x'.row=x.row.set 0 (.i ((V.db.length:Int)+1)):=by rw[Q2];rfl
 have SE:x'.ev.num= (V.db.length:Int)+1:=by rw[Q2]
 have hev: ({ (ep ws).1 with num:=(V.bS.db.length:Int)+1 }:ed)=x'.ev:=by rw[Q2,hx,Ur]
 have Wa:bg (W++g1) x':=by rw[Q2];exact⟨ox.n,ox.v⟩
 have Q1:qW V.bS ws=if(ep ws).2=false then(V.bS,[],25)else if 1000≤V.db.length then(V.bS,[],5)else if fD V.bS x'.ev≠0 then(V.bS,[],fD V.bS x'.ev)else(lM V.bS x'.ev,[100,111,110,101,32]++jw ((V.db.length:Int)+1),0):=by
  unfold qW;rw[hev,Ur]
 have st:∀{b':Nat} {a0 a1 a2 a3 a4:AV},kV 5 0 (.agg x.row) b' (.b [a0,a1,a2,a3,a4])=some (aA,.set b' (.b x.row)):=fun {_ _ _ _ _ _}=>ox.st
 have kM:∀{b':Nat},kV 1 0 (.i ((V.db.length:Int)+1)) b' (.b x.row)=some (aA,.set b' (.b x'.row)):=fun {b'}=>by
  rw[hrow];exact bW rfl (by show 0+1≤5;omega)
 have hpost:qW V.bS ws=qW V.bS ws:=rfl;generalize hfm: (ep ws).2=fm at Q1 ⊢;cases fm with
 | false=>
  refine Rs (A4 t0 t7 @st @Yz) ?_;refine WF.ce T.c85 (r85 T _ _) fun g2=>?_
  refine Rs (A4 t0 t7 @lb @TB) ?_;refine WF.ce T.c85 (r85 T _ _) fun g3=>?_
  refine Rs (A2 t0 t7) ?_;refine WF.ce T.c74 (r74 T (cw [_,_]) Si) fun g4=>?_
  have e0:∀c,bf [bV true 25,bV c 5]=25:=fun c=>by cases c<;>rfl
  have d0:decide ((25:Int)≠0)=true:=rfl;refine Rs (A3 t0 e0 @d0) ?_;exact my.same o he Xx (by rw[Q1];rfl)
 | true=>
  rw[Yd Si]at Q1;refine Rs (A4 t0 t7 @st @Yw) ?_;refine WF.ce T.c85 (r85 T _ _) fun g2=>?_
  refine Rs (A4 t0 t7 @lb @TB) ?_;refine WF.ce T.c85 (r85 T _ _) fun g3=>?_
  refine Rs (A2 t0 t7) ?_;refine WF.ce T.c74 (r74 T (cw [_,_]) Si) fun g4=>?_
  by_cases hk:1000≤V.db.length
  ·have dk:decide ((1000:Int)≤(V.db.length:Int))=true:=X7 Om;have e0:bf [bV false 25,bV true 5]=5:=rfl;have d0:decide ((5:Int)≠0)=true:=rfl;rw[Yh hk]at Q1;refine Rs (A4 t0 @dk e0 @d0) ?_;exact my.same o he Xx Q1
  ·have dk:decide ((1000:Int)≤(V.db.length:Int))=false:=X3 Om;have e0:bf [bV false 25,bV false 5]=0:=rfl;have d0:decide ((0:Int)≠0)=false:=rfl;rw[Yd hk]at Q1;have w1:IntKind.i64.wrap ((V.db.length:Int)+1)= (V.db.length:Int)+1:=bo Om Om;refine Rs (A9 t0 @dk e0 @d0 @lb @TB @w1 @kM @cj) ?_;obtain⟨Y,hY⟩:∃Y,Y=W++g1++ [ak.b x'.row]++g2++g3++ [ak.cells [.i (bV false 25),.i (bV false 5)] true true]++g4:=⟨_,rfl⟩;rw[←hY];have Vo:Ext W Y:=by rw[hY];exact Xx
   have oY:cF B.length Y b V:=by obtain⟨z,hz⟩:=Vo;rw[hz];exact o.app z
   have oxY:bg Y x':=by rw[hY];exact Wa.ext Xx
   have m12:Y[(W++g1).length]? =some (.b x'.row):=by rw[hY];exact Ext.some (h:=W++g1++ [ak.b x'.row]) Xx (by rw[Ye (Yg _),Zb];rfl)
   refine WF.gen T.c112 (Mc T (he.trans Vo) oY w Om oxY ⟨by rw[Q2];show x.ev.names.length≤_;rw[hx];omega,by rw[Q2];show x.ev.b9.length≤_;rw[hx];omega⟩ gl) ?_;rintro _ _ ⟨g',V',rfl,rfl,Xj,VX,hkp,hexn⟩;have hYl:W.length≤Y.length:=by obtain⟨z,hz⟩:=Vo;rw[hz,X2];omega
   have hkW:∀i,i < W.length→some i∉V.ex b→(B++g')[i]? =W[i]? :=fun i hi hn=>by
    rw[hkp i Om hn];obtain⟨z,hz⟩:=Vo;rw[hz,X5 hi]
   have hexW:∀j,some j∈V'.ex b→some j∈V.ex b∨W.length≤j:=fun j hj=>(hexn j hj).imp id fun h=>by omega
   by_cases SZ:fD V.bS x'.ev=0
   ·have d:decide (fD V.bS x'.ev≠0)=false:=X3 (fun z=>z SZ);rw[Yh SZ]at VX;rw[Yd (fun z=>z SZ)]at Q1;have m12': (B++g')[(W++g1).length]? =some (.b x'.row):=by
     rw[hkp _ (X1.1 m12).1 (fun hj=>by have:=o.Cr hj;simp only[X2]at this;omega)];exact m12
    have l12:aq none (.ptr (W++g1).length 0) (fun z=>(B++g')[z]?)=some (.i ((V.db.length:Int)+1),.au):=by rw[az m12',←SE];rfl
    refine Rs (A3 t0 @d @l12) ?_;refine WF.ce T.c113 (Z.itoa Om Om (pw.ext ⟨_,rfl⟩)) fun g5=>?_
    have hdl:=l9 (k:=7) (u:=((V.db.length:Int)+1).toNat) Om;rw[gx Om];have hdl: (jw ((V.db.length:Int)+1)).length≤8:=by rw[kr];exact hdl
    have hbc: ([100,111,110,101,32] :By).length+ (jw ((V.db.length:Int)+1)).length < 2^62:=by
     simp only[X8,X9];omega
    have bc:=jz hbc;refine Rs (A2 t0 @bc) ?_;exact⟨g'++g5,V',by rw[X4],by rw[Q1],by rw[←X4];exact Xj.app g5,by rw[Q1,VX],fun i hi hn=>by
     rw[←X4,←hkW i hi hn];have hil:i < (B++g').length:=by
      have e:=hkW i hi hn;rw[X6 hi]at e;exact(X1.1 e).1
     exact X5 hil,hexW⟩
   ·have d:decide (fD V.bS x'.ev≠0)=true:=X7 SZ;rw[Yd SZ]at VX;rw[Yh SZ]at Q1;refine Rs (A2 t0 @d) ?_;exact⟨g',V',rfl,by rw[Q1],Xj,by rw[Q1,VX],hkW,hexW⟩
end
def cF.ext{N h k b V}(o:cF N h b V)(e:Ext h k):cF N k b V:=by obtain⟨z,rfl⟩:=e;exact o.app z
def uh{b o}:pr PE.xZ (.ptr b o) .nilPtr=some false:=rfl
section
variable {P:Program} (T:fy P) {B g:ah}
include T
def QE{V b}(o:cF B.length (B++g) b V)(w:kC V.bS)(hl:V.db.length≤1000)(gl:Gl B)(pw:Pw B)(X:C1 P)(Z:qj P)(s:By)(hs:s.length≤2^36):
  da P 43 [.ptr b 0,.str s] (B++g) (fun v k=>my B (B++g) b V (Ae V.bS s) v k):=by
 refine .of T.mix (aaE T.c43 (YC some O5)) ?_;obtain⟨ts,QV⟩:∃ts,ts=aU 97 [.ptr b 0,.str s]:=⟨_,rfl⟩;have hlen:ts.length=97:=by rw[QV];rfl
 have t0:slot ts 0= .ptr b 0:=by rw[QV];rfl
 have t1:slot ts 1= .str s:=by rw[QV];rfl
 obtain⟨RR,RT⟩:∃RR,RR=I7 6:=⟨_,rfl⟩;show WC P bR _ [] (aU 97 [.ptr b 0,.str s]) (B++g) (FQ _ (fun v k=>my B (B++g) b V (Ae V.bS s) v k));rw[←QV,←RT];clear QV;have he:Ext B (B++g):=⟨g,rfl⟩;obtain⟨W,hW⟩:∃W,W=B++g:=⟨_,rfl⟩;rw[←hW]at o he ⊢;have eW:Ext W W:=Ext.refl W;have hregs:V.cM.length≤1000:=by
  have e1:=w.ln;have e2:=w.le;exact z116
 have SG:=Cw (H:=V.bS) (s:=s);unfold Il I7 fn43;simp only[ai.j,ai.s,ai.r,ai.dr,ai.tl,ai.hd];refine Rs (A3 t0 t1 @uh) ?_;refine WF.ce T.c85 (r85 T _ _) fun g1=>?_
 refine Rs (A2 t0 t1) ?_;refine WF.ce T.c85 (r85 T _ _) fun g2=>?_
 refine Rs (A2 t0 t1) ?_;refine WF.ce T.c74 (r74 T (cw [_,_]) Si) fun g3=>?_
 by_cases h1:4096 < s.length
 ·have d1:decide ((4096:Int)< (s.length:Int))=true:=X7 Om;have e0:∀c,bf [bV true 26,bV c 25]=26:=fun c=>by cases c<;>rfl
  have d0:decide ((26:Int)≠0)=true:=rfl;rw[Yh h1]at SG;refine Rs (A5 t0 t1 @d1 e0 @d0) ?_;exact my.same o he Xx SG
 have d1:decide ((4096:Int)< (s.length:Int))=false:=X3 Om;rw[Yd h1]at SG;by_cases h2:s= []
 ·have d2:decide (s= [])=true:=X7 h2;have e0:bf [bV false 26,bV true 25]=25:=rfl;have d0:decide ((25:Int)≠0)=true:=rfl;rw[Yh h2]at SG;refine Rs (A6 t0 t1 @d1 @d2 e0 @d0) ?_;exact my.same o he Xx SG
 have d2:decide (s= [])=false:=X3 h2;rw[Yd h2]at SG;have e0:bf [bV false 26,bV false 25]=0:=rfl;have d0:decide ((0:Int)≠0)=false:=rfl;refine Rs (A6 t0 t1 @d1 @d2 e0 @d0) ?_;refine WF.res T.c64 (r64 T X s 32 Om) ?_;intro sv g4 hv;have hwl:=sO (c:=32) (s:=s) (n:=2^40) Om;have hwn: (bK 32 s).length≤s.length+1:=by
  rw[qO];have:=List.count_le_length (a:=(32:UInt8)) (l:=s);omega
 have hne:0 < (bK 32 s).length:=Z0.2 jL;obtain⟨ws,Ux⟩:∃ws,ws=bK 32 s:=⟨_,rfl⟩;rw[←Ux]at hv hwl hwn hne SG;have Xr:ws[0]=ws.headD []:=by
  clear hv hwl hwn SG Ux;cases ws with| nil=>simp at hne| cons a r=>rfl
 obtain⟨Y,hY⟩:∃Y,Y=W++g1++g2++ [ak.cells [.i (bV false 26),.i (bV false 25)] true true]++g3++g4:=⟨_,rfl⟩;rw[←hY]at hv ⊢;have Vo:Ext W Y:=by rw[hY];exact Xx
 have oY:cF B.length Y b V:=o.ext Vo;have eB:=he.trans Vo;have qp:=hv.qp (kk:=.i64) hne;have ld0:∀{k:ah},Ext Y k→aq none (cV sv 1 0) (fun b=>k[b]?)=some (.str (ws.headD []),.au):=fun {k} e=>by rw[←Xr];exact hv.ki (i:=0) hne rfl e
 clear o he;refine Rs (A2 t0 t1) ?_;refine WF.res T.c109 (r109 T) ?_;rintro _ g5 ⟨rfl,hg⟩;have hg:g5= [.bn BS]:=ZU hg;subst hg;have lk:∀{z:AV},gW .s z true (.map Y.length) (.str (ws.headD [])) (fun b=>(Y++ [ak.bn BS])[b]?)=lF z true ((kO (ws.headD [])).map jk):=B6 (by rw[Ye (Yg _),Zb];rfl);cases hq:kO (ws.headD [])with
 | some q=>
  obtain⟨i,nm,wt⟩:=q;rw[hq]at lk SG;have Rw:∀{z:AV},_=some (AV.dL [.agg [.bool nm,.i (wt:Nat),.func (.func (qF i)) [] []],.bool true],iA.au):=@lk;refine Rs (A7 t0 t1 @qp @ld0 @bT @Rw @iw) ?_;refine WF.ce T.c110 (r110 T (oY.rd.ext Xx) w hregs Z (pw.ext (eB.trans Xx)) (hv.ext Xx) hne Om hq) fun g6=>?_
  refine Rs t0 ?_;exact(my.same oY eB Xx SG).low Vo
 | none=>
  rw[hq]at lk SG;have Rw:∀{z:AV},_=some (AV.dL [z,.bool false],iA.au):=@lk;refine Rs (A7 t0 t1 @qp @ld0 @bT @Rw @iw) ?_;clear lk Rw;refine WF.res T.c90 (r90 T) ?_;rintro _ g6 ⟨vf,rfl,hk⟩;obtain⟨Y2,Tq⟩:∃Y2,Y2=Y++ [ak.bn BS]++ [ak.b [.bool false,.i 0,.nilFunc]]:=⟨_,rfl⟩;rw[←Tq]at hk ⊢;have TP:Ext Y Y2:=by rw[Tq];exact Xx
  have ld2:∀{k:ah},Ext Y2 k→aq none (cV sv 1 0) (fun b=>k[b]?)=some (.str (ws.headD []),.au):=fun {k} e=>ld0 (TP.trans e)
  have lk:∀{z:AV},gW .s z true (.map Y2.length) (.str (ws.headD [])) (fun b=>(Y2++g6)[b]?)=lF z true ((gJ (ws.headD [])).map vf):=hk.look;cases hd:gJ (ws.headD [])with
  | none=>
   rw[hd]at lk SG;have Rw:∀{z:AV},_=some (AV.dL [z,.bool false],iA.au):=@lk;refine Rs (A8 t0 t1 @qp @ld2 @bT @Rw @iw @Yz) ?_;exact(my.same oY eB (TP.trans Xx) SG).low Vo
  | some d=>
   rw[hd]at lk SG;have Rw:∀{z:AV},_=some (AV.dL [vf d,.bool true],iA.au):=@lk;obtain⟨rs,a,hvf,hr,ha,hab⟩:=(hk.k d).ex;rw[hvf]at Rw;have c1:=lX d;have c2:=lI d;have c3:=hr.one;refine Rs (nw t0 t1 @qp @ld2 @bT @Rw @Yw @c1 @c2 @c3 @ha) ?_;have SG:Ae V.bS s=qW V.bS ws:=SG;rw[RT,SG];refine WC.F7 (O4 T (eB.trans (TP.trans Xx)) (oY.ext (TP.trans Xx)) w hl gl pw Z (hv.ext (TP.trans Xx)) hwl (Sq t0) (Sq t0) (Sq t0)) ?_;rintro e ts' h' ⟨q1,v,q2,q3⟩;exact⟨q1,v,q2,my.low q3 (Vo.trans (TP.trans Xx))⟩
end
def V0:HV:=⟨[],[],[],.af,.af,.af⟩
def Mk{h}:cF h.length (h++ [.b [.af,.af,.af]]) h.length V0:=
 ⟨Yg _,by rw[Ye (Yg _),Zb];rfl,.nil,.nil,.nil,rE.2 ⟨fun _ _=>⟨by simp[sB,V0],by simp[sB,V0],by simp[sB,V0]⟩,fun _ z=>by simp[sB,V0]at z,fun _ z=>by simp[sB,V0]at z⟩,
  fun x hx=>(by cases hx),fun x hx=>(by cases hx),fun x hx=>(by cases hx),fun x hx=>(by cases hx)⟩
def Ml{b}:∀j,some j∈V0.ex b→j=b:=fun j hj=>by
 simp only[HV.ex,V0,sB,YH,Y7,ZI,Yy,reduceCtorEq]at hj;exact hj
def GS{H ws}(w:kC H):kC (qW H ws).1∧(qW H ws).1.db.length≤H.db.length+1:=by
 unfold qW;split
 ·exact⟨w,aaC _⟩
 split
 ·exact⟨w,aaC _⟩
 split
 ·exact⟨w,aaC _⟩
 ·rename_i h;exact⟨w.add (ZN.1 h),by rw[wA];omega⟩
def J7{H s}(w:kC H):kC (Ae H s).1∧(Ae H s).1.db.length≤H.db.length+1:=by
 rw[Cw];split
 ·exact⟨w,aaC _⟩
 split
 ·exact⟨w,aaC _⟩
 split
 ·exact⟨w,aaC _⟩
 split
 ·exact⟨w,aaC _⟩
 exact GS w
def sW(x:By×By×Int):List AV:=[.str x.1,.str x.2.1,.i x.2.2]
def mH:jj→List (By×By×Int)→Option jj
 | H,[]=>some H
 | H,x::r=>if(Ae H x.1).2.1=x.2.1∧(Ae H x.1).2.2=x.2.2 then mH (Ae H x.1).1 r else none
section
variable {P:Program} (T:fy P) {h:ah}
include T
def r70:ay P 70 [] h (fun v h'=>v= .ptr h.length 0∧h' =h++ [.b [.af,.af,.af]]):=by
 refine .of T.mix T.c70 ?_;unfold fn70;exact Wn Tv
def r44{V b}(o:zt h b V)(w:kC V.bS)(hl:V.db.length≤1000):
  ay P 44 [.ptr b 0] h (fun v h'=>∃L':List EV,L'.map EV.ev=V.bS.db∧dB h' L' v):=by
 refine .kM 11 T.mix T.c44 ?_;intro ts hlen t0;unfold fn44;have lb:=@fH _ _ _ o.hb;refine Rs (A3 t0 @uh @lb) ?_;refine WF.res T.c87 (r87 T ⟨o.ie,o.ae⟩ Om (fun x hx=>by
  obtain⟨d,we⟩:=w.ev x.ev (Yx hx);have h3: (bL d).length≤3∧cB d≤3:=by cases d<;>decide
  have:=we.nl;have:=we.vl;exact⟨Om,Om⟩)) ?_
 rintro v g ⟨L',hL,hf,hx⟩;refine Rs t0 ?_;exact⟨L',hL,hf.aX,fun x Q2=>(hx x Q2).ok⟩
end
def HQ(d:Kd): (bu d).length≤16:=by cases d<;>decide
def Cs{e d}(we:jG e d):PD e∧(iG e).length≤520:=by
 have h3: (bL d).length≤3∧cB d≤3:=by cases d<;>decide
 have h1:=we.nl;have h2:=we.vl;have h4:=we.nu;have dl:∀{y:Int},0≤y→y≤999999999→(jw y).length≤64:=fun {y} h0 h1=>by have:=l9 (k:=9) (u:=y.toNat) Om;rw[kr];omega
 have hb: (iG e).length≤520:=by
  have hj:=pq (c:=32) (l:=wo e) fun x hx=>by
   unfold wo at hx;simp only[Yb,YH,Y7,ZI,YA]at hx;rcases hx with((rfl| rfl)| hx)| ⟨y,hy,rfl⟩
   ·exact z175
   ·have:=HQ d;rw[cg we.kd];omega
   ·have:=vz (we.nm x hx);omega
   ·have:=we.vr y hy;exact dl Om Om
  have hl: (wo e).length≤8:=by
   unfold wo;simp only[X2,X8,X9,Ya];omega
  unfold iG;omega
 exact⟨⟨Om,fun x hx=>by have:=we.vr x hx;omega,Om,Om,Om⟩,hb⟩
section
variable {P:Program} (T:fy P) {h:ah}
include T
def r45(Z:qj P)(pw:Pw h){V b}(o:zt h b V)(w:kC V.bS)(hl:V.db.length≤1000):
  ay P 45 [.ptr b 0] h (fun v _=>v= .str (vE V.bS.db)):=by
 refine .kM 12 T.mix T.c45 ?_;intro ts hlen t0;unfold fn45;have lb:=@fH _ _ _ o.hb;refine Rs (A3 t0 @uh @lb) ?_;refine WF.res T.c115 (r115 T o.ie (fun x hx=>⟨(o.ae x hx).n.one,(o.ae x hx).v.one⟩) Om (fun x=>vj x.ev) (fun x hx k e=>by
  obtain⟨d,we⟩:=w.ev x.ev (Yx hx);exact bF.of (a:=[]) (c:=[]) T.c97 (r97 T Z ((o.ae x hx).ext e) (Cs we).1 (pw.ext e)))) ?_
 rintro v g hf;refine Rs t0 ?_;have Ru: (V.db.map fun x=>vj x.ev).flatten.length≤V.db.length * 529:=by
  have:∀L:List EV,(∀x∈L,(vj x.ev).length≤529)→(L.map fun x=>vj x.ev).flatten.length≤L.length * 529:=by
   intro L
   induction L with
   | nil=>intro _;simp
   | cons x r ih=>
    intro hx;have h1:=ih fun y hy=>hx y (YI _ hy)
    have h2:=hx x Si;rw[YY,Zi,X2,X8,Zo];omega
  refine this _ fun x hx=>?_
  obtain⟨d,we⟩:=w.ev x.ev (Yx hx);have:=(Cs we).2;rw[BO T Z];omega
 refine WF.ce T.c114 (Z.join hf.aX ⟨by rw[Cd];omega,by rw[Ya];omega⟩) fun g2=>?_
 refine Rs t0 ?_;rw[Cd,vE,HV.bS,ZK];rfl
end
section
variable {P:Program} (T:fy P) {B:ah}
include T
def O3{W V b}(he:Ext B W)(o:cF B.length W b V)(w:kC V.bS)(hl:V.db.length≤1000)(gl:Gl B)(pw:Pw B)(X:C1 P)(Z:qj P)(s:By)(hs:s.length≤2^36):
  da P 43 [.ptr b 0,.str s] W (fun v k=>my B W b V (Ae V.bS s) v k):=by
 obtain⟨g,rfl⟩:=he;exact QE T o w hl gl pw X Z s hs
omit T in
theorem Dz{h k s es cs}(hs:aK h s es cs)(hk:∀j,sB s=some j→j < h.length→k[j]? =h[j]?):aK k s es cs:=by
 cases hs with
 | nil=>exact .nil
 | mk hb hf ho he=>
  have:=hk _ rfl (X1.1 hb).1;exact .mk (this.trans hb) hf ho he
omit T in
theorem Km{h s es cs}(hs:aK h s es cs){j}(hj:sB s=some j):j < h.length:=by
 cases hs with
 | nil=>cases hj
 | mk hb _ _ _=>cases hj;exact(X1.1 hb).1
def QD{g V b}(o:cF B.length (B++g) b V)(w:kC V.bS)(gl:Gl B)(pw:Pw B)(X:C1 P)(Z:qj P){s L}(hs:aK (B++g) s 3 (L.map sW))(hns:∀j,sB s=some j→some j∉V.ex b)
  (hlL:V.db.length+L.length≤1000) (bS:∀x∈L,x.1.length≤2^36) {H'} (ha:mH V.bS L=some H'):
  da P 71 [.ptr b 0,s] (B++g) (fun v k=>v= .bool true∧∃g' V',k=B++g'∧cF B.length (B++g') b V'∧V'.bS=H'∧kC V'.bS∧V'.db.length≤1000):=by
 refine .eD 35 T.mix T.c71 ?_;intro ts hlen t0 t1;unfold fn71;refine Rs (A4 t0 t1 @uh hs.aL) ?_;refine WL.inv T.mix (fun n ts h'=>∃ (k:Nat) (V':HV) (g':ah),k≤L.length∧n=L.length - k∧h' =B++g'∧cF B.length (B++g') b V'∧kC V'.bS∧V'.db.length≤V.db.length+k∧mH V'.bS (L.drop k)=some H'∧aK (B++g') s 3 (L.map sW)∧(∀j,sB s=some j→some j∉V'.ex b)∧
   ts.length=35∧slot ts 0= .ptr b 0∧slot ts 11=s∧slot ts 12= .i L.length∧slot ts 13= .i k) L.length
  ⟨0,V,g,Om,rfl,rfl,o,w,Om,ha,hs,hns,Sn,(Sq t0),(Sq t1),(Sq t0),hP⟩ ?_
 clear t0 t1 hlen o w hs hns ha;clear ts;rintro _ ts _ ⟨k,V',g',hk,rfl,rfl,o,w,hVl,ha,hs,hns,hlen,t0,t11,t12,t13⟩;by_cases hlt:k < L.length
 ·have e3:=eT hlt;have e5:=wrapN (n:=k) Om;have ix:=hs.dI (kk:=.i64) hlt;have ld:∀{k'},Ext (B++g') k'→aq (some 3) (cV s 3 k) (fun b=>k'[b]?)=some (.agg (sW L[k]),.au):=fun {k'} e=>hs.kR hlt e
  obtain⟨⟨a,m,c⟩,hx⟩:∃x,x=L[k]:=⟨_,rfl⟩;have hm: (a,m,c)∈L:=by rw[hx];exact Yi _
  have hd:L.drop k= (a,m,c)::L.drop (k+1):=by rw[hx];simp
  rw[←hx]at ld;unfold sW at ld;rw[hd,mH]at ha;split at ha
  case isFalse=>cases ha
  case isTrue hc=>
  have hc1: (Ae V'.bS a).2.1=m:=hc.1;have XU: (Ae V'.bS a).2.2=c:=hc.2;have hwd:=J7 (s:=a) w;obtain⟨W,hW⟩:∃W,W=B++g'++ [ak.b [.str a,.str m,.i c]]:=⟨_,rfl⟩;have eW:Ext (B++g') W:=by rw[hW];exact Xx
  have mW:W[(B++g').length]? =some (.b [.str a,.str m,.i c]):=by rw[hW,Ye (Yg _),Zb];rfl
  have lW:∀{kk:ah} {n':Option Nat} {q:Nat},kk[(B++g').length]? =some (.b [.str a,.str m,.i c])→aq n' (.ptr (B++g').length q) (fun z=>kk[z]?)=dE n' q (.b [.str a,.str m,.i c]):=fun e=>az e
  refine Rs (A7 t0 t11 t12 t13 e3 ix @ld) ?_;rw[←hW];have lW1:=fun {n':Option Nat} {q:Nat}=>@lW W n' q mW
  refine Rs (A5 t0 t11 t12 t13 @lW1) ?_;refine WF.gen T.c43 (O3 T ((Ext.app _ (Ext.refl _):Ext B (B++g')).trans eW) (o.ext eW) w Om gl pw X Z a (bS _ hm)) ?_;rintro _ _ ⟨g2,V2,rfl,rfl,o2,hV2,hkp,hex⟩;have hWl:W.length= (B++g').length+1:=by rw[hW,X2];rfl
  have m2: (B++g2)[(B++g').length]? =some (.b [.str a,.str m,.i c]):=by
   rw[hkp _ Om (fun hj=>by have:=o.Cr hj;omega)];exact mW
  have lW2:=fun {n':Option Nat} {q:Nat}=>@lW (B++g2) n' q m2
  have d1:decide (m≠m)=false:=X3 (fun z=>z rfl);have d2:decide (c≠c)=false:=X3 (fun z=>z rfl);rw[hc1,XU];refine Rs (A8 t0 t11 t12 t13 @lW2 @d1 @d2 e5) ?_;have hsW:=hs.ext eW;refine⟨L.length - (k+1),Om,k+1,V2,g2,Om,rfl,rfl,o2,by rw[hV2];exact hwd.1,?_,by rw[hV2];exact ha,Dz hsW fun j hj hl=>hkp j hl (hns j hj),fun j hj hx=>?_,rfl⟩
  ·have e1:V2.db.length=V2.bS.db.length:=by simp[HV.bS]
   have e2:V'.db.length=V'.bS.db.length:=by simp[HV.bS]
   have:=hwd.2;rw[←hV2]at this;omega
  ·rcases hex j hx with hx| hx
   ·exact hns j hj hx
   ·have:=Km hs hj;omega
 ·have e3:=fQ hlt;have e4:k=L.length:=Om
  rw[e4,YZ,mH]at ha;cases ha;refine Rs (A5 t0 t11 t12 t13 e3) ?_;exact⟨g',V',rfl,o,rfl,w,Om⟩
end
def Ja:List (By×By×Int):=[
 ([116,97,112,101,32,97,32,49,32,49,48],[100,111,110,101,32,49],0),
 ([116,97,112,101,32,98,32,53,32,49,48,48],[100,111,110,101,32,50],0),
 ([108,105,110,101,32,108,49,32,53,32,50],[100,111,110,101,32,51],0),
 ([115,104,111,116,32,115,49,32,108,49,32,97,32,54],[100,111,110,101,32,52],0),
 ([115,104,111,116,32,115,50,32,108,49,32,98,32,55],[100,111,110,101,32,53],0),
 ([99,111,112,121,32,97,32,98,32,56],[100,111,110,101,32,54],0),
 ([116,97,112,101,115,32,115,49],[97,32,98],0),
 ([99,111,112,121,32,97,32,98,32,49,50],[],30),
 ([119,97,110,116,32,108,49],[50,32,50,32,111,112,101,110],0),
 ([97,99,99,101,112,116,32,108,49,32,57],[100,111,110,101,32,55],0),
 ([115,104,111,116,32,115,51,32,108,49,32,98,32,57],[],23),
 ([115,111,117,114,99,101,32,109,49,32,108,49,32,57],[100,111,110,101,32,56],0),
 ([109,111,100,117,108,101,32,109,50,32,109,49,32,57,32,50],[100,111,110,101,32,57],0),
 ([109,111,100,117,108,101,32,109,51,32,109,50,32,57,32,51],[100,111,110,101,32,49,48],0),
 ([109,111,100,117,108,101,32,109,52,32,109,49,32,57,32,51],[],2),
 ([109,101,114,103,101,32,109,52,32,109,49,32,109,50,32,57],[],2),
 ([114,117,110,32,106,49,32,109,51,32,49,48,32,51],[100,111,110,101,32,49,49],0),
 ([116,105,108,101,32,106,49,32,49,48,32,50,32,55],[100,111,110,101,32,49,50],0),
 ([116,105,108,101,32,106,49,32,49,48,32,48,32,53],[100,111,110,101,32,49,51],0),
 ([108,101,102,116,32,106,49],[49],0),
 ([102,97,105,108,32,106,49,32,49,49,32,50],[100,111,110,101,32,49,52],0),
 ([108,101,102,116,32,106,49],[49,32,50],0),
 ([112,105,99,116,117,114,101,32,112,49,32,106,49,32,49,49],[],32),
 ([116,105,108,101,32,106,49,32,49,49,32,49,32,54],[100,111,110,101,32,49,53],0),
 ([116,105,108,101,32,106,49,32,49,49,32,50,32,55],[100,111,110,101,32,49,54],0),
 ([112,105,99,116,117,114,101,32,112,49,32,106,49,32,49,50],[100,111,110,101,32,49,55],0),
 ([102,114,111,109,32,112,49],[115,49,32,115,50],0),
 ([108,105,110,101,115,32,109,51],[108,49],0),
 ([117,110,115,97,102,101],[110,111,110,101],0),
 ([114,101,108,101,97,115,101,32,112,49,32,49,50],[100,111,110,101,32,49,56],0),
 ([117,110,100,111],[],21),
 ([114,101,108,101,97,115,101,100],[112,49,32,53,50,57,49,55,52],0)]
def uI:jj:=(mH jj.zero Ja).getD jj.zero
set_option maxRecDepth 100000 in
def LZ: (mH jj.zero Ja).isSome=true:=by decide+kernel
set_option maxRecDepth 100000 in
def Ix:uI.db.length=18:=by decide+kernel
set_option maxRecDepth 100000 in
def CO:vd (uI.db.take 5) [115,49] 12= (false,0):=by decide+kernel
set_option maxRecDepth 100000 in
def CN:vd uI.db [115,49] 105= (true,0):=by decide+kernel
set_option maxRecDepth 100000 in
def It:qm uI.db 106= ([[115,49],[115,50]],0):=by decide+kernel
set_option maxRecDepth 100000 in
def E4:yT uI.db [109,51]= ([[109,49],[109,50],[109,51]],0):=by decide+kernel
set_option maxRecDepth 100000 in
def Iy:n9 [5,6,7]= (529174,0):=by decide+kernel
set_option maxRecDepth 100000 in
def wu: (e8 uI.db [108,49]).1.length=8∧(e8 uI.db [108,49]).2=0:=by decide+kernel
set_option maxRecDepth 100000 in
def Iw: (vE uI.db).length≤100000:=by decide+kernel
set_option maxRecDepth 100000 in
def Iv: (lq (vE uI.db++ [49])).2.2=28∧(lq (vE uI.db++ [49])).1.length=18∧(lq (vE uI.db++ [49])).2.1= (vE uI.db).length:=by decide+kernel
set_option maxRecDepth 100000 in
def Iu:nC [49,49]= [48,49,51,49,53,56,49]:=by decide+kernel
def zd{h c N}:mG .I8 (.slice h.length 0 1 1) (fun b=>(h++ [ak.cells [.int .u8 c] true true])[b]?) N=some (.str [UInt8.ofNat c.toNat],.au):=by
 simp only[mG,ff,Ys,ba];rfl
def y9{n}(h0:0≤n)(h1:n < 10):UInt8.ofNat (IntKind.u8.wrap (IntKind.i64.wrap (48+n))).toNat=UInt8.ofNat (48+n.toNat):=by
 rw[bo Om Om,GR Om Om];congr 1;omega
section
variable {P:Program} (T:fy P)
include T
set_option maxRecDepth 10000 in
def r197:∀{k} {n} {h},0≤n→n < 10^ (k+1)→k≤15→ay P 197 [.i n] h (fun v _=>v= .str (jw n)):=by
 intro k
 induction k with
 | zero=>
  intro n h h0 h1 _;refine .of T.mix T.c197 ?_;unfold fn197;have h10:n < 10:=by simpa using h1
  have d0:decide (n < 0)=false:=X3 Om;exact PG
 | succ k ih=>
  intro n h h0 h1 hk;refine .of T.mix T.c197 ?_;unfold fn197;have d0:decide (n < 0)=false:=X3 Om;by_cases h10:n < 10
  ·exact PG
  ·have d1:decide (n < 10)=false:=X3 h10;have hb:n≤10^17:=by
    have: (10:Int)^ (k+1+1)≤10^17:=by
     have:=Nat.pow_le_pow_right (n:=10) De (show k+1+1≤17 by omega)
     exact_mod_cast this
    omega
   have eq:n.tdiv 10=n / 10:=Int.tdiv_eq_ediv_of_nonneg h0;have em:n.tmod 10=n % 10:=Int.tmod_eq_emod_of_nonneg h0;have w1:IntKind.i64.wrap (n / 10)=n / 10:=bo Om Om;have bq:dY .quo (.i n) (.i 10)=some (.i (n / 10)):=by rw[EP De,eq,w1]
   have bm:dY .rem (.i n) (.i 10)=some (.i (n % 10)):=by rw[oh De,em]
   refine Ws (A4 @d0 @d1 @bq @bm) ?_;refine WF.ce T.c197 (ih Om (by rw[Int.pow_succ]at h1;omega) Om) fun g1=>?_
   have hd:=l9 (k:=k) (u:=(n / 10).toNat) (by
    have h2:n / 10 < 10^ (k+1):=by rw[Int.pow_succ]at h1;omega
    have h3: (((n / 10).toNat:Nat):Int)< ((10^ (k+1):Nat):Int):=by rw[Int.toNat_of_nonneg Om];exact_mod_cast h2
    exact_mod_cast h3)
   have bc:∀{c:UInt8},dY .add (.str (jw (n / 10))) (.str [c])=some (.str (jw (n / 10)++ [c])):=jz (by rw[kr];simp;omega);refine Ws (A5 @bq @bm @uD @zd @bc) ?_;rw[y9 Om Om,kr,kr,Lib.decDigits.eq_def n.toNat,dif_neg Om];congr 3
   ·omega
   ·congr 2;omega
def r108{k n h}(h0:0≤n)(h1:n < 10^ (k+1))(hk:k≤15):ay P 108 [.i n] h (fun v _=>v= .str (jw n)):=by
 refine .of T.mix T.c108 ?_;unfold fn108 Bc;refine Wn ?_;refine WF.ce T.c197 (r197 T h0 h1 hk) fun g=>?_
 exact Wn Tv
set_option maxRecDepth 10000 in
def r72{h}(s:By)(hs:s.length≤2^40):ay P 72 [.str s] h (fun v _=>v= .str (nC s)):=by
 refine .kM 28 T.mix T.c72 ?_;intro ts hlen t0;unfold fn72;refine Rs t0 ?_;refine WL.inv T.mix (fun n ts' h'=>∃k:Nat,k≤s.length∧n=s.length - k∧h' =h∧ts'.length=28∧slot ts' 0= .str s∧slot ts' 3= .i (ia (s.take k))∧slot ts' 4= .i k) s.length
  ⟨0,Om,rfl,rfl,(Sq t0),(Sq t0),hP,hP⟩ ?_
 rintro _ ts' hz ⟨k,hk,rfl,hh,Sa,u0,u3,u4⟩;rw[hh];clear hh hz;clear hlen t0;have hlen:=Sa;clear Sa;by_cases hlt:k < s.length
 ·have e3:=eT hlt;have hb:=nD (s.take k);have hcn:=UInt8.toNat_lt s[k];have w1:IntKind.i64.wrap (339 * ia (s.take k))=339 * ia (s.take k):=bo Om Om;have w2:IntKind.i64.wrap (s[k].toNat:Int)= (s[k].toNat:Int):=bo Om Om;have w3:IntKind.i64.wrap (339 * ia (s.take k)+ (s[k].toNat:Int))=339 * ia (s.take k)+ (s[k].toNat:Int):=bo Om Om;have er:=oh (k:=.i64) (a:=339 * ia (s.take k)+ (s[k].toNat:Int)) (b:=9999749) De;rw[←uQ,←mM hlt]at er
  repeat (first| simp (config:={ maxSteps:=1000000 }) only[aW,bd,bC,bD,reduceAdd,reduceMul,reduceLeDiff,reduceEqDiff,bE,hlen,Yo,Ys,u0,u3,u4,e3,jC hlt,w1,w2,w3,er,wrapN (show k+1 < 2^63 by omega)]| simp (config:={ maxSteps:=1000000 }) (disch:=first| (simp only[X2,X8,X9]<;>omega)| rfl| omega| fail) only[fU,aW,bd,bC,bD,reduceAdd,reduceMul,reduceLeDiff,reduceEqDiff,bE,hlen,Yo,Ys,u0,u3,u4,e3,jC hlt,w1,w2,w3,er,wrapN (show k+1 < 2^63 by omega)])
  exact JB
 ·have e3:=fQ hlt;have ek:k=s.length:=Om
  rw[ek,YF]at u3;have hb:=nD s;have hl:=tN s;refine Rs (A4 @u0 @u3 @u4 e3) ?_;refine WF.ce T.c108 (r108 T (k:=7) hb.1 Om Om) fun g=>?_
  refine Rs @u0 ?_;generalize hd:jw (ia s)=d at hl;have hT:nC s=List.replicate (7 - d.length) 48++d:=by unfold nC;rw[hd]
  refine WL.inv T.mix (fun n ts' h'=>∃j:Nat,d.length+j≤7∧n=7 - (d.length+j)∧Ext h h'∧ts'.length=28∧slot ts' 5= .str (List.replicate j 48++d)) (7 - d.length)
   ⟨0,Om,rfl,Xx,(Sq @u0),hP⟩ ?_
  rintro _ Uf _ ⟨j,hj,rfl,⟨g2,rfl⟩,UP,v5⟩;clear hlen;have hlen:=UP;by_cases h7:d.length+j < 7
  ·have e7:decide (((List.replicate j (48:UInt8)++d).length:Int)< 7)=true:=X7 (by rw[X2,Ze];omega);have hbc: ([48] :By).length+ (List.replicate j (48:UInt8)++d).length < 2^62:=by rw[X2,Ze];simp only[X8,X9];omega
   have bc:=jz hbc;refine Rs (A3 @v5 e7 @bc) ?_;exact⟨7 - (d.length+ (j+1)),Om,j+1,Om,rfl,rfl⟩
  ·have e7:decide (((List.replicate j (48:UInt8)++d).length:Int)< 7)=false:=X3 (by rw[X2,Ze];omega);have ej:j=7 - d.length:=Om
   refine Rs (A2 @v5 e7) ?_;rw[hT,ej]
end
def I9(k:Nat):ai:=(fn15).body.dr k
def E2(k:Nat):ai:=(I9 k).hd
def LY:fn15= ⟨158,0,[(0,none)],.seq (E2 0) (.seq (E2 1) (.seq (E2 2) (I9 3)))⟩:=rfl
def vO{h:ah}{M:List (By)}:aK (h++ [ak.cells (M.map ao).flatten true true]) (.slice h.length 0 (M.map ao).length 1) 1 (M.map ao):=(Fr.push (es:=1) (N:=0) (YB _) (M.map ao) (by simp[ao])).aX
section
variable {P:Program} (T:fy P) {h:ah}
include T
omit T in
theorem E3:mH jj.zero Ja=some uI:=by
 have:=LZ;unfold uI;generalize mH jj.zero Ja=o at this ⊢;cases o with
 | none=>cases this
 | some x=>rfl
def L7{B W V b}(he:Ext B W)(o:cF B.length W b V)(w:kC V.bS)(gl:Gl B)(pw:Pw B)(X:C1 P)(Z:qj P){s L}(hs:aK W s 3 (L.map sW))(hns:∀j,sB s=some j→some j∉V.ex b)
  (hlL:V.db.length+L.length≤1000) (bS:∀x∈L,x.1.length≤2^36) {H'} (ha:mH V.bS L=some H'):
  da P 71 [.ptr b 0,s] W (fun v k=>v= .bool true∧∃g' V',k=B++g'∧cF B.length (B++g') b V'∧V'.bS=H'∧kC V'.bS∧V'.db.length≤1000):=by
 obtain⟨g,rfl⟩:=he;exact QD T o w gl pw X Z hs hns hlL bS ha
def Pj(X:C1 P)(Z:qj P){W:ah}(gl:Gl W)(pw:Pw W){V:HV}{b:Nat}(o:zt W b V)(w:kC V.bS)(hl:V.db.length≤1000)(hV:V.bS=uI){ts:TS}(hlen:ts.length=158)(t1:slot ts 1= .ptr b 0)(he:Ext h W):
  WC P bR (I9 3) [] ts W (FQ [(0,none)] fun v k=>Ext h k∧v= .bool true):=by
 unfold I9 fn15;simp only[ai.j,ai.s,ai.r,ai.dr,ai.tl,ai.hd];refine Rs t1 ?_;refine WF.res T.c44 (r44 T o w hl) ?_;rintro sv g1 ⟨L,hL,oL⟩;rw[hV]at hL;have VZ:L.length=18:=by have:=YC List.length hL;rw[Ya,Ix]at this;exact this
 have hsh:∀x∈L,x.ev.names.length≤2^30∧x.ev.b9.length≤2^30:=fun x hx=>by
  obtain⟨d,we⟩:=w.ev x.ev (by rw[hV,←hL];exact Yx hx);have h3: (bL d).length≤3∧cB d≤3:=by cases d<;>decide
  have:=we.nl;have:=we.vl;exact⟨Om,Om⟩
 have sh:zp L:=⟨Om,hsh⟩;have d18:decide ((L.length:Int)≠18)=false:=X3 (fun z=>z Om);obtain⟨s5,e5,h5⟩:=oL.sl.FT (lo:=none) (hi:=some (.i 5)) (l:=0) (u:=5) (jy (k:=5) Om);have h5':aK (W++g1) s5 5 ((L.take 5).map EV.row):=h5;have o5:dB (W++g1) (L.take 5) s5:=⟨h5',fun x hx=>oL.all x (Zd hx)⟩;have sh5:zp (L.take 5):=⟨by rw[Y5];omega,fun x hx=>hsh x (Zd hx)⟩;have m5: (L.take 5).map EV.ev=uI.db.take 5:=by rw[List.map_take,hL]
 refine Rs (A4 t1 oL.sl.aL @d18 e5) ?_;refine WF.ce T.c16 (r16 T o5 sh5 (gl.ext Xx) [115,49] 12) fun g2=>?_
 rw[m5,CO];refine Rs t1 ?_;refine WF.ce T.c16 (r16 T (oL.ext Xx) sh (gl.ext Xx) [115,49] 105) fun g3=>?_
 rw[hL,CN];refine Rs t1 ?_;refine WF.res T.c17 (r17 T (oL.ext Xx) sh (gl.ext Xx) 106) ?_;rintro _ g4 ⟨su,rfl,hu⟩;rw[hL,It]at hu ⊢;refine Rs t1 ?_;refine WF.res T.c51 (r51 T (oL.ext Xx) sh (gl.ext Xx) [109,51]) ?_;rintro _ g5 ⟨sn,rfl,hn⟩;rw[hL,E4]at hn ⊢;refine Rs t1 ?_;refine WF.ce T.c27 (r27 T (cw [5,6,7]) De) fun g6=>?_
 rw[Iy];refine Rs t1 ?_;refine WF.res T.c26 (r26 T (oL.ext Xx) sh (gl.ext Xx) [108,49]) ?_;rintro _ g7 ⟨ss,Ls,rfl,os,hLs⟩;rw[hL]at hLs ⊢;have hLsl:Ls.length=8:=by have:=YC List.length hLs;rw[Ya,wu.1]at this;exact this
 rw[wu.2];refine Rs t1 ?_;refine WF.ce T.c45 (r45 T Z (pw.ext Xx) (o.ext Xx) w hl) fun g8=>?_
 rw[hV];have hlg:=Iw;have hrc:=Iv;generalize vE uI.db=lg at hlg hrc ⊢;have bc:=jz (show lg.length+ ([49] :By).length < 2^62 by simp only[X8,X9];omega);refine Rs (A2 t1 @bc) ?_;refine WF.res T.c37 (r37 T X Z (pw.ext Xx) (lg++ [49]) (by rw[X2];simp only[X8,X9];omega)) ?_;rintro _ g9 ⟨Lr,sr,hLr,rfl,fr,-⟩;have hLrl:Lr.length=18:=by have:=YC List.length hLr;rw[Ya,hrc.2.1]at this;exact this
 rw[hrc.1,hrc.2.2];have d8:decide ((Ls.length:Int)=8)=true:=X7 Om;have d19:decide ((Lr.length:Int)=18)=true:=X7 Om;have wz:IntKind.i64.wrap ((0:Int)+0)=0:=rfl;have z0:decide ((0:Int)=0)=true:=rfl;refine Rs (A5 t1 @wz @z0 @Yz @Yk) ?_;refine WF.res T.c25 (r25 T (L:=[[115,49],[115,50]]) (M:=[[115,49],[115,50]]) ?hu (vO (M:=[[115,49],[115,50]])) De De) ?_
 case hu=>exact hu.ext Xx
 rintro _ k1 rfl;have q1:decide (([[115,49],[115,50]] :List (By))= [[115,49],[115,50]])=true:=rfl;have q2:decide (([[109,49],[109,50],[109,51]] :List (By))= [[109,49],[109,50],[109,51]])=true:=rfl;rw[q1];refine Rs (A2 t1 @Yk) ?_;refine WF.res T.c25 (r25 T (L:=[[109,49],[109,50],[109,51]]) (M:=[[109,49],[109,50],[109,51]]) ?hn (vO (M:=[[109,49],[109,50],[109,51]])) De De) ?_
 case hn=>exact hn.ext Xx
 rintro _ k2 rfl;rw[q2];have q3:decide ((529174:Int)=529174)=true:=rfl;have q4:decide ((28:Int)=28)=true:=rfl;have q5:decide ((lg.length:Int)= (lg.length:Int))=true:=X7 rfl;refine Rs (A9 t1 q3 q4 q5 @d8 @d19 os.sl.aL fr.aX.aL @Yk) ?_;refine WF.ce T.c72 (r72 T [49,49] De) fun k3=>?_
 have q6:decide (([48,49,51,49,53,56,49] :By)= [48,49,51,49,53,56,49])=true:=X7 rfl;rw[Iu];refine Rs (A3 t1 q6 @Yk) ?_;exact⟨he.trans Xx,trivial⟩
def r15(X:C1 P)(Z:qj P)(gl:Gl h)(pw:Pw h):ay P 15 [] h (fun v _=>v= .bool true):=by
 refine .of T.mix (aaE T.c15 (YC some LY)) ?_;obtain⟨ts,QV⟩:∃ts,ts=aU 158 []:=⟨_,rfl⟩;have hlen:ts.length=158:=by rw[QV];rfl
 obtain⟨RR,RT⟩:∃RR,RR=I9 3:=⟨_,rfl⟩;show WC P bR _ [] (aU 158 []) h (FQ _ _);rw[←QV,←RT];clear QV;unfold E2 I9 fn15;simp only[ai.j,ai.s,ai.r,ai.dr,ai.tl,ai.hd];refine Rs @hlen ?_;refine WF.res T.c70 (r70 T) ?_;rintro _ g0 ⟨rfl,hg⟩;have hg:g0= [.b [.af,.af,.af]]:=ZU hg;subst hg;refine Rs @hlen ?_;refine WF.gen T.c71 (L7 T (B:=h) (V:=V0) (b:=h.length) (L:=Ja) (H':=uI) Xx (Mk.app _) kC.zero gl pw X Z (Fr.push (N:=0) (h:=h++ [ak.b [.af,.af,.af]]) (es:=3) (YB _) (Ja.map sW) (fun x hx=>by obtain⟨y,_,rfl⟩:=YA.1 hx;rfl)).aX (fun j hj hx=>by
  have:=Ml j hx;have e: (h++ [ak.b [.af,.af,.af]]).length=j:=Y6 hj;rw[X2]at e;simp at e;omega) De De E3) ?_
 rintro _ _ ⟨rfl,g',V',rfl,oV,hV,wV,hVl⟩;refine Rs (A2 @hlen @Yw) ?_;rw[RT];exact Pj T X Z (gl.ext ⟨_,rfl⟩) (pw.ext ⟨_,rfl⟩) oV.rd wV hVl hV (Sq @hlen) (Sq @hlen) ⟨_,rfl⟩
end
def xX:Go.Proofs.Tryz.prog.globals.size=9:=by kernel_rfl
def Ep:Er Go.Proofs.Tryz.prog 2=20:=by kernel_rfl
open Go.RowKit in
def Ej{h:ah}{n:Int}(h0:-9223372036854775808≤n)(h1:n≤9223372036854775807){mu tl:Bool}(hb:h[2]? =some (.cells (Lib.pow10Tab.map (AV.int .u64)) mu tl)):
  lO Go.Proofs.Tryz.prog 113 [.int .i64 n] h (.str (Lib.itoa n)) h:=by
 intro m w vs hr ha;obtain⟨v,vs1,rfl,hv,hr1⟩:=aR.1 ha;rw[bB]at hr1;subst hr1;rw[VR]at hv;subst hv;obtain⟨e,he,hcb,hd,-,dZ⟩:=hr.fV 2 (by rw[xX];omega);obtain⟨cc,el,fz,hw,⟨hle,TC,hsz2⟩,Q4,-,-⟩:=hr.dP 2 e _ he hb;have htab:Lib.TabIs Go.Proofs.Tryz.prog w "internal/strconv.uint64pow10" .u64 Lib.pow10Tab:=by
  unfold Lib.TabIs World.var?;rw[Go.Proofs.Tryz.yV.m17];show(match w.heap[2]? with| some (.cells cs _ _)=>some cs| _=>none)=_;rw[hcb]at hw;rw[hw];have h20:cc.size=20:=by rw[hsz2,dZ,Ep]
  refine YC some (Array.ext_getElem? fun i=>?_);by_cases hi:i < 20
  ·have hl:i < Lib.pow10Tab.length:=by rw[Lib.pow10Tab_length];exact hi
   obtain⟨_,cv,SW,QZ⟩:=Q4 i (.int .u64 Lib.pow10Tab[i]) (by rw[Zp,X6 hl];rfl);rw[VR]at QZ;rw[hd,YR]at SW;rw[SW,QZ,Zz,Zp,X6 hl];rfl
  ·rw[ZC Om,ZC (by rw[List.size_toArray,Ya,Lib.pow10Tab_length];omega)]
 refine(Go.Proofs.Any.strconv_Itoa Go.Proofs.Tryz.yV n h0 h1 w htab).mono ?_;rintro e' w' ⟨rfl,k,os,rfl⟩;have hh:∀i,i < w.heap.size→(Go.Sort.grow (w.drewN k) os).heap[i]? =w.heap[i]? :=fun i hi=>by
  show(w.heap++os)[i]? =_;rw[Array.getElem?_append_left hi]
 have hs:w.heap.size≤(Go.Sort.grow (w.drewN k) os).heap.size:=by
  show w.heap.size≤(w.heap++os).size;simp
 exact⟨_,m,rfl,rfl,⟨hr.cI,fun b' e' k' a1 a2=>(hr.dP b' e' k' a1 a2).heap (hh _ (hr.lt b' e' a1)),hr.sep,hr.fV,fun b' e' a1=>YU (hr.lt b' e' a1) hs⟩,
  ⟨fun _ _=>rfl,Yg _,fun b' e' a1 a2=>absurd (hr.cI b' e' a2) Om,fun _ _ x=>x,hs,rfl,rfl,rfl,fun i hi _=>hh i hi⟩⟩
theorem sL:∀xs:List (By),(xs.map fun x=>[AV.str x]).flatten=xs.map AV.str
 | []=>rfl
 | x::xs=>by rw[YY,Zi,sL xs];rfl
def aK.inv{h:ah}{b o n e es:Nat}{cs:List (List AV)}(hs:aK h (.slice b o n e) es cs):n=cs.length∧∃c mu tl,h[b]? =some (.cells c mu tl)∧(c.drop o).take (cs.length * es)=cs.flatten:=by
 generalize hx:AV.slice b o n e=x at hs;cases hs with
 | nil=>cases hx
 | mk hb hf ho he=>cases hx;exact⟨rfl,_,_,_,hb,hf⟩
open Go.RowKit in
def Ei{h:ah}{s:AV}{sep:By}{xs:List (By)}(hs:aK h s 1 (xs.map fun x=>[AV.str x]))(hl: (Lib.join xs sep).length≤140737488355328∧xs.length≤140737488355328):lO Go.Proofs.Tryz.prog 114 [s,.str sep] h (.str (Lib.join xs sep)) h:=by
 intro m w vs hr hargs;obtain⟨v1,vs1,rfl,Vg,hr1⟩:=aR.1 hargs;obtain⟨v2,vs2,rfl,UA,R7⟩:=aR.1 hr1;rw[bB]at R7;subst R7;rw[VR]at UA;subst UA;have fin:∀e w',(e= .returned (.string ⟨(Lib.join xs sep).toArray⟩)∧Below w.heap.size w w')→Rel Go.Proofs.Tryz.prog m h w (.str (Lib.join xs sep)) h e w':=by
  rintro e w' ⟨rfl,hb⟩;exact⟨_,m,rfl,rfl,⟨hr.cI,fun b e k h1 h2=>(hr.dP b e k h1 h2).heap (hb.block _ (hr.lt b e h1)),hr.sep,hr.fV,fun b e h1=>YU (hr.lt b e h1) hb.size⟩,
   ⟨fun _ _=>rfl,Yg _,fun b e h1 h2=>absurd (hr.cI b e h2) Om,fun _ _ h=>h,hb.size,hb.os,hb.output,hb.tape,fun i hi _=>hb.block i hi⟩⟩
 have zero:xs= []→∀ (a:Option Addr) (c:Nat),Calls Go.Proofs.Tryz.prog 114 #[.slice a 0 c,.string ⟨⟨sep⟩⟩] w (Rel Go.Proofs.Tryz.prog m h w (.str (Lib.join xs sep)) h):=fun hx a c=>by
  refine(Go.Proofs.Tryz.strings_Join_none a c ⟨⟨sep⟩⟩ w).mono fun e w' ⟨he,hw⟩=>fin e w' ⟨?_,hw▸Below.refl _ _⟩
  rw[he,hx];rfl
 have hlen:=hs.aL (fun _=>none);cases s with
 | af=>
  rw[VR]at Vg;subst Vg;simp only[Go.Abs.iO,Ys,Yy]at hlen;exact zero (Y9.1 hlen.symm) none 0
 | slice b o n es=>
  simp only[Go.Abs.iO,Ys,Yy]at hlen;subst hlen;rw[VR]at Vg;obtain⟨ent,ca,cap,he,rfl,hcap,RD,dZ⟩:=Vg;by_cases hz:xs.length=0
  ·have SN:=Y9.1 hz;have:=zero SN (some ca) cap;rw[hz];exact this
  ·have hca':=RD Om;subst hca';generalize Tp:xs.map (fun x=>[AV.str x])=cs at hs;have hcl:cs.length=xs.length:=by rw[←Tp];simp
   obtain⟨_,c,mu,tl,hb,hf⟩:=hs.inv
   ·obtain⟨cc,el,fz,hheap,_,RN,_⟩:=hr.dP b ent _ he hb;have key:=Go.Proofs.Tryz.strings_Join ent.cb (o+ent.d) cap (xs.map fun l=>⟨⟨l⟩⟩) ⟨⟨sep⟩⟩ w ?_ (hr.lt b ent he) (by rw[Ya];exact hl.2) (by rw[Ya];omega) ?_
    ·rw[Ya]at key;refine key.mono fun e w' ⟨he,hw⟩=>fin e w' ⟨?_,hw⟩
     rw[he,ZK];simp[aas]
    ·intro j x hx;rw[Zp,Yr]at hx;obtain⟨l,Q7,rfl⟩:=hx;have hj:j < xs.length:=(X1.1 Q7).1;have Wu:cs.flatten[j]? =some (.str l):=by
      rw[←Tp];have:=sL xs;rw[this,Zp,Q7];rfl
     rw[←hf,List.getElem?_take,Yh Om,aan]at Wu;obtain⟨_,cv,SW,QZ⟩:=RN _ _ Wu;rw[VR]at QZ;subst QZ;simp only[World.cell?,hheap,Option.isSome_none,YS,Yo];rw[show o+ent.d+j=ent.d+ (o+j) by omega];exact SW
    ·rw[ZK]
     simpa [aas]using hl.1
 | _=>cases hs
open Go.RowKit in
def sU{P:Program}{m:bY}{h:ah}{w:World}(hr:HR P m h w){a:AV}{v:Value}{e:Ending}{w':World}(hv:VR m a v)(he:e= .returned v)(hb:Below w.heap.size w w'):Rel P m h w a h e w':=
 ⟨v,m,he,hv,⟨hr.cI,fun b e k h1 h2=>(hr.dP b e k h1 h2).heap (hb.block _ (hr.lt b e h1)),hr.sep,hr.fV,fun b e h1=>YU (hr.lt b e h1) hb.size⟩,
  ⟨fun _ _=>rfl,Yg _,fun b e h1 h2=>absurd (hr.cI b e h2) Om,fun _ _ h=>h,hb.size,hb.os,hb.output,hb.tape,fun i hi _=>hb.block i hi⟩⟩
theorem qa:∀{s:By} {a:Nat},s.all fc=true→∃n,Lib.decFrom a s=some n∧(n:Int)=s.foldl (fun n c=>10 * n+ ((c.toNat:Int) - 48)) (a:Int)
 | [],a,_=>⟨a,rfl,rfl⟩
 | c::s,a,h=>by
  simp only[ZF,YD]at h;have hc:=ko.1 h.1;have hd:Lib.digitVal c=some (c.toNat - 48):=by unfold Lib.digitVal;rw[Yh hc]
  obtain⟨n,h1,h2⟩:=qa (s:=s) (a:=a * 10+ (c.toNat - 48)) h.2;refine⟨n,by rw[Lib.decFrom,hd];exact h1,?_⟩;rw[h2,Z9];congr 1;omega
def CQ{s:By}(h:s.all fc=true)(hn:s≠[]):Lib.atoi s=some (Cy s):=by
 obtain⟨n,h1,h2⟩:=qa (a:=0) h;cases s with
 | nil=>exact absurd rfl hn
 | cons c r=>
  have hc:=ko.1 (by simp only[ZF,YD]at h;exact h.1);have n1: (c==45)=false:=by
   exact Ju
  have n2: (c==43)=false:=by
   exact Ju
  rw[Lib.atoi,n1,n2,Yd De,Yd De,Lib.decNat,Yd Si,h1,ZY,h2];rfl
open Go.RowKit in
def E5{h:ah}{s:By}(hd:s.all fc=true)(hn:s≠[])(hl:s.length≤9):lO Go.Proofs.Tryz.prog 254 [.str s] h (.dL [.int .i64 (Cy s),.kf]) h:=by
 intro m w vs hr ha;obtain⟨v,vs1,rfl,hv,hr1⟩:=aR.1 ha;rw[bB]at hr1;subst hr1;rw[VR]at hv;subst hv;refine(Go.Proofs.Any.strconv_Atoi Go.Proofs.Tryz.D9 ⟨⟨s⟩⟩ (Cy s) (by show s.length≤18;omega) (CQ hd hn) w).mono ?_;rintro e' w' ⟨rfl,t,rfl⟩;exact sU hr ⟨_,rfl,aR.2 ⟨_,_,rfl,rfl,aR.2 ⟨_,_,rfl,rfl,rfl⟩⟩⟩ rfl (Lib.bytesWorld_below _ _ _)
open Go.RowKit in
def Hg{h:ah}{n:Nat}(hn:n≤7):lO Go.Proofs.Tryz.prog 252 [.str [48],.int .i64 (n:Nat)] h (.str (List.replicate n 48)) h:=by
 intro m w vs hr ha;obtain⟨v1,vs1,rfl,Vg,hr1⟩:=aR.1 ha;obtain⟨v2,vs2,rfl,UA,R7⟩:=aR.1 hr1;rw[bB]at R7;subst R7;have Vg:v1= .string ⟨⟨[48]⟩⟩:=Vg;have UA:v2= .int .i64 (n:Int):=UA;subst Vg;subst UA;have hs: (⟨⟨[48]⟩⟩:ByteArray).size=1:=rfl;refine(Go.Proofs.Any.strings_Repeat Go.Proofs.Tryz.Ea Go.Proofs.Tryz.o6 ⟨⟨[48]⟩⟩ n w Om (by rw[hs];omega)).mono ?_;rintro e' w' ⟨rfl,hb⟩;have er:Lib.repeatL [48] n=List.replicate n 48:=by
  have:=Lib.repeatL_replicate 48 1 n;rw[aaf]at this;exact this
 refine sU (v:=.string ⟨(Lib.repeatL [48] n).toArray⟩) hr ?_ rfl hb;show Value.string ⟨(Lib.repeatL [48] n).toArray⟩= .string ⟨⟨List.replicate n 48⟩⟩;rw[er]
def QB:qj Go.Proofs.Tryz.prog:=by
 refine⟨fun h0 h1 w=>?_,fun hs hl=>⟨_,[],by rw[Yu];exact Ei hs hl,rfl⟩,fun h1 h2 h3=>⟨_,[],by rw[Yu];exact E5 h1 h2 h3,rfl⟩,fun h1=>⟨_,[],by rw[Yu];exact Hg h1,rfl⟩⟩;obtain⟨mu,tl,hb⟩:=w;exact⟨_,[],by rw[Yu];exact Ej h0 h1 hb,rfl⟩
def Qt:C1 Go.Proofs.Tryz.prog:=
 ⟨run_callFunc_extern Go.Proofs.Tryz.func288 (by kernel_rfl) (by kernel_rfl) (by kernel_rfl) (by kernel_rfl),run_callFunc_extern Go.Proofs.Tryz.func262 (by kernel_rfl) (by kernel_rfl) (by kernel_rfl) (by kernel_rfl)⟩
open Go.ChangeShapes Go.WideShapes Go.Deep
inductive CT where
 | int (k:IntKind)
 | bool
 | str
 | sl (row:List CT)
def lK(P:Program)(f:TypeId→Option (List CT)):List Field→Nat→Option (List CT)
 | [],_=>some []
 | x::r,o=>
  match f x.type with
  | some a=>
   if x.offset=o∧a.length=P.cellsOf x.type then
    match lK P f r (o+a.length)with
    | some b=>some (a++b)
    | none=>none
   else none
  | none=>none
def Ah(P:Program):Nat→TypeId→Option (List CT)
 | 0,_=>none
 | n+1,t=>
  match P.underlying t with
  | some (.int k)=>some [.int k]
  | some .bool=>some [.bool]
  | some .string=>some [.str]
  | some (.slice e)=>
   match Ah P n e with
   | some r=>if r.length=P.cellsOf e∧0 < r.length then some [.sl r]else none
   | none=>none
  | some (.struct fs)=>
   match lK P (Ah P n) fs.toList 0 with
   | some r=>if r.length=P.cellsOf t then some r else none
   | none=>none
  | _=>none
mutual
def TY(h:ah):CT→AV→Prop
 | .int k,a=>∃z,a= .int k z∧(Lit.int k z).wf=true
 | .bool,a=>∃b,a= .bool b
 | .str,a=>∃s:By,a= .str s∧s.length≤maxLen
 | .sl r,a=>∃cs:List (List AV),aK h a r.length cs∧cs.length≤maxLen∧∀c∈cs,iU h r c
def iU(h:ah):List CT→List AV→Prop
 | [],l=>l= []
 | t::ts,l=>∃a l',l=a::l'∧TY h t a∧iU h ts l'
end
mutual
theorem TY.ext{h k}(e:Ext h k):∀{t} {a},TY h t a→TY k t a
 | .int _,a,x=>x
 | .bool,a,x=>x
 | .str,a,x=>x
 | .sl r,a,x=>by
  rw[TY]at x ⊢;obtain⟨cs,h1,h2,h3⟩:=x;exact⟨cs,h1.ext e,h2,fun c hc=>iU.ext e (h3 c hc)⟩
theorem iU.ext{h k}(e:Ext h k):∀{ts} {l},iU h ts l→iU k ts l
 | [],l,x=>x
 | t::ts,l,x=>by
  rw[iU]at x ⊢;obtain⟨a,l',h1,h2,h3⟩:=x;exact⟨a,l',h1,TY.ext e h2,iU.ext e h3⟩
end
theorem TY.one{h}:∀{t} {a},TY h t a→a.one=true
 | .int _,a,x=>by rw[TY]at x;obtain⟨z,rfl,_⟩:=x;rfl
 | .bool,a,x=>by rw[TY]at x;obtain⟨z,rfl⟩:=x;rfl
 | .str,a,x=>by rw[TY]at x;obtain⟨z,rfl,_⟩:=x;rfl
 | .sl r,a,x=>by rw[TY]at x;obtain⟨z,h1,_⟩:=x;exact h1.one
theorem iU.one{h}:∀{ts} {l},iU h ts l→l.all AV.one=true
 | [],l,x=>by rw[iU]at x;subst x;rfl
 | t::ts,l,x=>by
  rw[iU]at x;obtain⟨a,l',rfl,h1,h2⟩:=x;rw[ZF,h1.one,iU.one h2];rfl
theorem iU.length{h}:∀{ts} {l},iU h ts l→l.length=ts.length
 | [],l,x=>by rw[iU]at x;subst x;rfl
 | t::ts,l,x=>by
  rw[iU]at x;obtain⟨a,l',rfl,h1,h2⟩:=x;rw[X8,X8,iU.length h2]
theorem iU.append{h}:∀{ts us} {l m},iU h ts l→iU h us m→iU h (ts++us) (l++m)
 | [],us,l,m,x,y=>by rw[iU]at x;subst x;exact y
 | t::ts,us,l,m,x,y=>by
  rw[iU]at x;obtain⟨a,l',rfl,h1,h2⟩:=x;show iU h (t:: (ts++us)) (a:: (l'++m));rw[iU];exact⟨a,_,rfl,h1,iU.append h2 y⟩
def gA(E:List sI):bY:=fun b=>E[b]?
def jV(E F:List sI): (gA E).le (gA (E++F)):=fun b e hb=>by
 unfold gA at hb ⊢;rw[X5 (X1.1 hb).1];exact hb
structure AW(P:Program)(w:World)(E:List sI)(B:ah):Prop where
 len:E.length=B.length
 own:∀ (b:Nat) e,E[b]? =some e→e.own=false∧e.cb < w.heap.size
 dP:∀ (b:Nat) e k,E[b]? =some e→B[b]? =some k→BR P (gA E) w e k∧(k= .dead∨∃c,k= .cells c false false)
 fV:∀g,g < P.globals.size→∃e,E[g]? =some e∧e.cb=g∧e.d=0∧e.own=false∧e.sz=Er P g
variable {P:Program} {w:World} {E:List sI} {B:ah}
def AW.hr(a:AW P w E B):HR P (gA E) B w where
 cI:=fun b e hb=>by rw[←a.len];exact(X1.1 hb).1
 dP:=fun b e k hb hk=>(a.dP b e k hb hk).1
 sep:=fun b1 b2 e1 e2 k1 k2 _ h1 h2 hk1 QY _=>by
  rcases(a.dP b1 e1 k1 h1 hk1).2 with rfl| ⟨c1,rfl⟩
  ·cases k2<;>trivial
  ·rcases(a.dP b2 e2 k2 h2 QY).2 with rfl| ⟨c2,rfl⟩
   ·trivial
   ·exact⟨rfl,rfl,fun x=>by cases x⟩
 fV:=a.fV
 lt:=fun b e hb=>(a.own b e hb).2
def AW.push(a:AW P w E B){e k}(ho:e.own=false)(hlt:e.cb < w.heap.size)(hb:BR P (gA E) w e k)(hk:k= .dead∨∃c,k= .cells c false false):AW P w (E++ [e]) (B++ [k]) where
 len:=by simp[a.len]
 own:=fun b e' h=>by
  by_cases hlb:b < E.length
  ·rw[X5 hlb]at h;exact a.own b e' h
  ·have:=(X1.1 h).1;simp at this;have:b=E.length:=Om
   subst this;simp at h;subst h;exact⟨ho,hlt⟩
 dP:=fun b e' k' h h'=>by
  by_cases hlb:b < E.length
  ·rw[X5 hlb]at h;rw[X5 (by rw[←a.len];exact hlb)]at h';exact⟨(a.dP b e' k' h h').1.mono (jV E [e]),(a.dP b e' k' h h').2⟩
  ·have:=(X1.1 h).1;simp at this;have Sl:b=E.length:=Om
   have hbb:b=B.length:=by rw[Sl,a.len]
   rw[Sl]at h;rw[hbb]at h';simp at h h';subst h;subst h';exact⟨hb.mono (jV E [e]),hk⟩
 fV:=fun g hg=>by
  obtain⟨e',h1,h2⟩:=a.fV g hg;exact⟨e',jV E [e] g e' h1,h2⟩
def Laid(P:Program)(w:World)(E:List sI)(B:ah)(row:List CT)(cs:List Value):Prop:=
 ∃F C ax,AW P w (E++F) (B++C)∧cH (gA (E++F)) ax cs∧iU (B++C) row ax
def Laid.app{row row2 cs TX}(h1:Laid P w E B row cs)(h2:∀F C,AW P w (E++F) (B++C)→Laid P w (E++F) (B++C) row2 TX):Laid P w E B (row++row2) (cs++TX):=by
 obtain⟨F,C,ax,a1,a2,a3⟩:=h1;obtain⟨F',C',ax',b1,b2,b3⟩:=h2 F C a1;refine⟨F++F',C++C',ax++ax',by rw[←X4,←X4];exact b1,?_,?_⟩
 ·rw[←X4];exact(cH.mono (jV _ _) _ _ a2).append b2
 ·rw[←X4];exact iU.append (a3.ext ⟨C',rfl⟩) b3
def Ca(a:AW P w E B):Laid P w E B [] []:=⟨[],[],[],by simpa using a,by rw[bB],rfl⟩
def nW(a:AW P w E B){t x v}(hv:VR (gA E) x v)(ht:TY B t x):Laid P w E B [t] [v]:=
 ⟨[],[],[x],by simpa using a,by simpa using aR.2 ⟨v,[],rfl,hv,by rw[bB]⟩,by
  rw[Yu,iU];exact⟨x,[],rfl,ht,rfl⟩⟩
section
variable {H:Type} {enc:TypeId×Value→H} {base:Nat} {held:Bool}
theorem tj{es:Nat}{r:List CT}{a:Addr}{m:Nat}(row:∀i,i < m→∃cs,w.cells? base (a.add (i * es)) es=some cs∧∀E B,AW P w E B→Laid P w E B r cs):∀ (k:Nat) {E:List sI} {B:ah},k≤m→AW P w E B→
  ∃ (F:List sI) (C:ah) (rows:List (List AV)) (VL:List Value),AW P w (E++F) (B++C)∧rows.length=k∧cH (gA (E++F)) rows.flatten VL∧(∀c∈rows,iU (B++C) r c)∧VL.length=k * es∧∀i,i < k * es→w.cell? (a.add i)=VL[i]?
 | 0,E,B,_,aw=>⟨[],[],[],[],by rw[Yu,Yu];exact aw,rfl,rfl,fun c hc=>by(cases hc),by rw[aab];rfl,fun i hi=>by rw[aab]at hi;exact absurd hi (Nat.not_lt_zero _)⟩
 | k+1,E,B,hkm,aw=>by
  obtain⟨F,C,rows,VL,h1,h2,h3,h4,h5,h6⟩:=tj row k Om aw;obtain⟨cs,Tp,hl⟩:=row k Om;obtain⟨F',C',ax,a1,a2,a3⟩:=hl _ _ h1;obtain⟨_,hlen,RN⟩:=World.cells?_some Tp;refine⟨F++F',C++C',rows++ [ax],VL++cs,by rw[←X4,←X4];exact a1,by rw[X2,h2];rfl,?_,?_,by rw[X2,h5,hlen,Zo],?_⟩
  ·rw[←X4,ZM];refine(cH.mono (jV _ _) _ _ h3).append ?_;have: [ax].flatten=ax:=Si
   rw[this];exact a2
  ·intro c Vp;rw[←X4];rcases Yb.1 Vp with hm| hm
   ·exact(h4 c hm).ext ⟨C',rfl⟩
   ·rw[Yt]at hm;subst hm;exact a3
  ·intro i hi;rw[Zo]at hi;by_cases hlt:i < k * es
   ·rw[h6 i hlt,X5 Om]
   ·rw[Ye Om,h5,←RN (i - k * es) Om,add_add,show k * es+ (i - k * es)=i by omega]
theorem pY{f:TypeId→Option (List CT)}{cs:List Value}:∀ (l:List Field) (o:Nat) {row:List CT},lK P f l o=some row→
  (∀x∈l,∀a,f x.type=some a→∀E B,AW P w E B→Laid P w E B a ((cs.drop x.offset).take (P.cellsOf x.type)))→∀E B,AW P w E B→Laid P w E B row ((cs.drop o).take row.length)
 | [],o,row,h,_,E,B,aw=>by
  unfold lK at h;cases h;rw[X9,List.take_zero];exact Ca aw
 | x::l,o,row,h,hf,E,B,aw=>by
  unfold lK at h;split at h
  case h_2=>cases h
  rename_i a ha;split at h
  case isFalse=>cases h
  rename_i hc;split at h
  case h_2=>cases h
  rename_i b hb;cases h;have h1:=hf x (YV ..) a ha E B aw;rw[hc.1,←hc.2]at h1;rw[X2,List.take_add,ZD];exact h1.app fun F C aw'=>pY l _ hb (fun y hy=>hf y (YI _ hy)) _ _ aw'
theorem iP(hz:∃ (z:Nat) (cc:Array Value) (el:TypeId) (fz:Nat×Nat),w.heap[z]? =some (Obj.cells cc el fz)):∀ (n:Nat) (t:TypeId) (row:List CT),Ah P n t=some row→∀ (fuel:Nat) (cs:List Value) (x:DataW H×List MemPlace),
  DataW.trod enc P w base (fun _=>true) held fuel t cs=some x→∀E B,AW P w E B→Laid P w E B row cs
 | 0,t,row,h,_,_,_,_,_,_,_=>by cases h
 | n+1,t,row,h,fuel,cs,x,ht,E,B,aw=>by
  unfold Ah at h;split at h
  ·rename_i k hu;cases h;obtain⟨z,rfl,_,hwf⟩:=DataW.trod_int hu ht;exact nW aw (x:=.int k z) (by rw[VR]) (by rw[TY];exact⟨z,rfl,hwf⟩)
  ·rename_i hu;cases h;obtain⟨b,rfl,_⟩:=DataW.trod_bool hu ht;exact nW aw (x:=.bool b) (by rw[VR]) (by rw[TY];exact⟨b,rfl⟩)
  ·rename_i hu;cases h;obtain⟨s,rfl,_,hs⟩:=DataW.trod_string hu ht;refine nW aw (x:=.str s.data.toList) (by rw[VR]) (by rw[TY];exact⟨_,rfl,by simpa using hs⟩)
  ·rename_i e hu;split at h
   case h_2=>cases h
   rename_i r hr;split at h
   case isFalse=>cases h
   rename_i hc;cases h;obtain⟨Sd,hpos⟩:=hc;rcases open_slice hu ht with⟨rfl,_⟩| ⟨a,len,cap,m,n',D,Pl,rfl,hb,hl,hm,VF,_,hx⟩
   ·exact nW aw (x:=.af) (by rw[VR]) (by rw[TY];exact⟨[],.nil,YB _,fun c hc=>by cases hc⟩)
   simp only[Ys]at VF;subst VF;rw[←Sd]at hx;by_cases hcap:m=0
   ·have Re:len=0:=Om
    subst Re;subst hcap;obtain⟨z,cc,el,fz,Xn⟩:=hz;have h0lt:z < w.heap.size:=(Ym.1 Xn).1;have hbr:BR P (gA E) w ⟨z,0,cc.size,false⟩ (.cells [] false false):=
     ⟨cc,el,fz,Xn,⟨YB _,YB _,rfl⟩,fun i x hx=>by(rw[List.getElem?_nil]at hx;cases hx),⟨fun x=>absurd x Z3,fun x=>by rcases x with x| x<;>exact absurd x Z3⟩⟩
    have aw2:=aw.push (e:=⟨z,0,cc.size,false⟩) (k:=.cells [] false false) rfl h0lt hbr (.inr ⟨[],rfl⟩);refine⟨[⟨z,0,cc.size,false⟩],[.cells [] false false],[.slice B.length 0 0 r.length],aw2,?_,?_⟩
    ·refine aR.2 ⟨_,[],rfl,?_,by rw[bB]⟩;rw[VR];exact⟨⟨z,0,cc.size,false⟩,a,0,by unfold gA;rw[←aw.len];simp,rfl,Yg _,fun x=>absurd x Om,by rw[aab];exact YB _⟩
    ·rw[iU];refine⟨_,[],rfl,?_,by rw[iU]⟩;rw[TY];refine⟨[],?_,YB _,fun c hc=>by cases hc⟩;exact aK.mk (cs:=[]) (b:=B.length) (o:=0) (c:=[]) (mu:=false) (tl:=false) Si Si Si (fun x hx=>by cases hx)
   ·obtain⟨cs0,h00,_⟩:=hx 0 Om;obtain⟨csl,Tc,_⟩:=hx (m - 1) Om;obtain⟨_,Re,hc0⟩:=World.cells?_some h00;obtain⟨_,hlenl,hcl⟩:=World.cells?_some Tc;have RS:=hc0 0 hpos;have hlast:=hcl (r.length - 1) Om;rw[add_add]at hlast;rw[add_add,aab,aay]at RS;have ha0:a.add 0=a:=by unfold Addr.add;simp
    rw[ha0,X6 Om]at RS;unfold World.cell? at RS;split at RS
    case h_2=>cases RS
    rename_i cc el fz Tm;split at RS
    ·cases RS
    rename_i hspot;have U1:a= ⟨a.block,a.off,none⟩:=by
     cases a with
     | mk b o s=>cases s with
      | none=>rfl
      | some s=>exact absurd rfl hspot
    have TK:∀i,a.add i= ⟨a.block,a.off+i,none⟩:=fun i=>by
     unfold Addr.add;by_cases hi:i=0
     ·subst hi;rw[Yh rfl];exact U1
     ·rw[Yd hi]
    have TW:∀i,w.cell? (a.add i)=cc[a.off+i]? :=fun i=>by
     rw[TK];unfold World.cell?;simp only[Tm,Option.isSome_none,YS,Yo]
    have hmr: (m - 1) * r.length+ (r.length - 1)+1=m * r.length:=by
     obtain⟨m',rfl⟩:∃m',m=m'+1:=⟨m - 1,Om⟩;rw[Zo];simp only[Nat.add_sub_cancel];omega
    have dZ:a.off+m * r.length≤cc.size:=by
     rw[TW,X6 Om]at hlast;have:=(Ym.1 hlast).1;omega
    obtain⟨F,C,rows,VL,h1,h2,h3,h4,h5,h6⟩:=tj (P:=P) (w:=w) (base:=base) (es:=r.length) (r:=r) (a:=a) (m:=m)
     (fun i hi=>by
      obtain⟨cs',q1,q2⟩:=hx i hi;exact⟨cs',q1,fun E B aw=>iP hz n e r hr _ _ _ q2 E B aw⟩) len hl aw
    have Ru:rows.flatten.length=len * r.length:=by rw[←h5,h3.length]
    have hmul:len * r.length≤m * r.length:=Zc _ hl;have SK:∀c∈rows,c.length=r.length:=fun c hc=>(h4 c hc).length
    have hone:∀x∈rows.flatten,x.one=true:=fun x hx=>by
     obtain⟨c,hc,Vf⟩:=List.mem_flatten.1 hx;exact YE.1 (h4 c hc).one x Vf
    have hlt:a.block < w.heap.size:=(Ym.1 Tm).1;have hbr:BR P (gA (E++F)) w ⟨a.block,a.off,cc.size,false⟩ (.cells rows.flatten false false):=
     ⟨cc,el,fz,Tm,⟨by rw[Ru];show a.off+_≤_;omega,by rw[Ru];show a.off+_≤cc.size;omega,rfl⟩,fun i x hx=>by
       refine⟨hone x (YW hx),?_⟩;obtain⟨v,hv,QZ⟩:=h3.get hx;have hi:i < len * r.length:=by rw[←Ru];exact(X1.1 hx).1
       refine⟨v,?_,QZ⟩;show cc[a.off+i]? =some v;rw[←TW,h6 i hi,hv],⟨fun x=>absurd x Z3,fun x=>by rcases x with x| x<;>exact absurd x Z3⟩⟩
    have aw2:=h1.push (e:=⟨a.block,a.off,cc.size,false⟩) (k:=.cells rows.flatten false false) rfl hlt hbr (.inr ⟨_,rfl⟩);rw[X4,X4]at aw2;refine⟨F++ [⟨a.block,a.off,cc.size,false⟩],C++ [.cells rows.flatten false false],[.slice (B++C).length 0 len r.length],aw2,?_,?_⟩
    ·refine aR.2 ⟨_,[],rfl,?_,by rw[bB]⟩;rw[VR];refine⟨⟨a.block,a.off,cc.size,false⟩,a,m,?_,rfl,hl,fun _=>?_,?_⟩
     ·unfold gA;rw[←h1.len,←X4,Ye (Yg _),Zb];rfl
     ·show a= ⟨a.block,0+a.off,none⟩;rw[YR];exact U1
     ·show 0+a.off+m * r.length≤cc.size;omega
    ·rw[iU];refine⟨_,[],rfl,?_,by rw[iU]⟩;rw[TY];refine⟨rows,?_,Om,fun c hc=>?_⟩
     ·rw[←h2];refine aK.mk (c:=rows.flatten) (mu:=false) (tl:=false) ?_ ?_ ?_ SK
      ·rw[←X4,Ye (Yg _),Zb];rfl
      ·rw[Zu,h2,←Ru,YF]
      ·rw[h2,Ru];omega
     ·rw[←X4];exact(h4 c hc).ext ⟨_,rfl⟩
  ·rename_i fs hu;split at h
   case h_2=>cases h
   rename_i r hr;split at h
   case isFalse=>cases h
   rename_i hc;cases h;obtain⟨xs,n',rfl,rfl,hlen,hxl,hf⟩:=DataW.trod_struct hu ht;have:=pY (P:=P) (w:=w) (cs:=cs) fs.toList 0 hr (fun x hx a ha E B aw=>by
    obtain⟨i,hi⟩:=List.getElem?_of_mem hx;have hi':fs[i]? =some x:=by rw[←Zy];exact hi
    have hlt:i < xs.length:=by rw[hxl];exact(Ym.1 hi').1
    have h1:=hf i x hi';rw[X6 hlt]at h1;exact iP hz n x.type a ha _ _ _ h1 E B aw) E B aw
   rw[Zu,hc,←hlen,YF]at this;exact this
  ·cases h
inductive AT where
 | one (t:CT)
 | agg (r:List CT)
def Gv(P:Program)(e:TypeId):Option CT:=
 match P.underlying e with
 | some (.int k)=>some (.int k)
 | some .string=>some .str
 | _=>none
def IA(P:Program)(n:Nat)(t:TypeId):Option AT:=
 match P.underlying t with
 | some (.struct _)=>
  match Ah P n t with
  | some r=>some (.agg r)
  | none=>none
 | some (.int k)=>some (.one (.int k))
 | some .bool=>some (.one .bool)
 | some .string=>some (.one .str)
 | some (.slice _)=>
  match Ah P n t with
  | some [c]=>some (.one c)
  | _=>none
 | some (.array m e)=>
  match Gv P e with
  | some c=>if P.cellsOf e=1∧P.cellsOf t=m then some (.agg (List.replicate m c))else none
  | none=>none
 | _=>none
def tW{w r b0}{t e:TypeId}{m v}(ht:P.underlying t=some (.array m e))(h:Value.okWide P w r b0 t v):∃cs,v= .agg cs∧cs.size=P.cellsOf t:=by
 simp only[Value.okWide,ht]at h;obtain⟨cs,h1,h2,_⟩:=h;exact⟨cs,h1,h2⟩
theorem s9{M B c}:∀ (L:List Value),(∀i (hi:i < L.length),∃a,VR M a L[i]∧TY B c a)→∃l:List AV,cH M l L∧iU B (List.replicate L.length c) l
 | [],_=>⟨[],by rw[bB],by rw[X9,aav,iU]⟩
 | v::L,h=>by
  obtain⟨a,e,hz⟩:=h 0 Si;obtain⟨l,h1,h2⟩:=s9 L fun i hi=>h (i+1) (by simpa using hi)
  simp only[List.getElem_cons_zero]at e;refine⟨a::l,aR.2 ⟨_,_,rfl,e,h1⟩,?_⟩;rw[X8,ZG,iU];exact⟨_,_,rfl,hz,h2⟩
def tF(P:Program)(n:Nat):List TypeId→Option (List AT)
 | []=>some []
 | t::ts=>
  match IA P n t,tF P n ts with
  | some a,some l=>some (a::l)
  | _,_=>none
def FJ(h:ah):AT→AV→Prop
 | .one t,a=>TY h t a
 | .agg r,a=>∃l,a= .agg l∧iU h r l
theorem FJ.ext{h k}(e:Ext h k):∀{t} {a},FJ h t a→FJ k t a
 | .one _,_,x=>TY.ext e x
 | .agg _,_,⟨l,e1,x⟩=>⟨l,e1,iU.ext e x⟩
def sF(h:ah):List AT→List AV→Prop
 | [],l=>l= []
 | t::ts,l=>∃a l',l=a::l'∧FJ h t a∧sF h ts l'
def Cb(hz:∃ (z:Nat) (cc:Array Value) (el:TypeId) (fz:Nat×Nat),w.heap[z]? =some (Obj.cells cc el fz)){n}{t:TypeId}{at'}(h:IA P n t=some at'){v d ps}(ht:DataW.Trod enc P w base (fun _=>true) held t v d ps)
  {r} {b0} (ho:Value.okWide P w r b0 t v) (aw:AW P w E B):∃ (F:List sI) (C:ah) (a:AV),AW P w (E++F) (B++C)∧VR (gA (E++F)) a v∧FJ (B++C) at' a:=by
 obtain⟨fuel,ht⟩:=ht;unfold IA at h;split at h
 ·rename_i fs hu;split at h
  case h_2=>cases h
  rename_i r hr;cases h;obtain⟨cs,rfl,_⟩:=okWide_struct hu ho;obtain⟨F,C,ax,h1,h2,h3⟩:=iP hz n t r hr fuel _ _ ht E B aw;refine⟨F,C,.agg ax,h1,?_,ax,rfl,h3⟩;rw[VR];exact⟨_,rfl,h2⟩
 ·rename_i k hu;cases h;obtain⟨z,rfl⟩:=okWide_int hu ho;obtain⟨z',e,_,hwf⟩:=DataW.trod_int hu ht;cases e;exact⟨[],[],.int k z,by rw[Yu,Yu];exact aw,by rw[VR],by show TY _ _ _;rw[TY];exact⟨z,rfl,hwf⟩⟩
 ·rename_i hu;cases h;obtain⟨z,rfl⟩:=okWide_bool hu ho;exact⟨[],[],.bool z,by rw[Yu,Yu];exact aw,by rw[VR],by show TY _ _ _;rw[TY];exact⟨z,rfl⟩⟩
 ·rename_i hu;cases h;obtain⟨s,rfl⟩:=okWide_string hu ho;obtain⟨s',e,_,hs⟩:=DataW.trod_string hu ht;cases e;exact⟨[],[],.str s.data.toList,by rw[Yu,Yu];exact aw,by rw[VR],by show TY _ _ _;rw[TY];exact⟨_,rfl,by simpa using hs⟩⟩
 ·rename_i e hu;split at h
  case h_2=>cases h
  rename_i c hc;cases h;obtain⟨a,len,cap,rfl⟩:=okWide_slice hu ho;obtain⟨F,C,ax,h1,h2,h3⟩:=iP hz n t _ hc fuel _ _ ht E B aw;rw[iU]at h3;obtain⟨x,l',rfl,h4,h5⟩:=h3;rw[iU]at h5;subst h5;obtain⟨y,ys,e,h6,_⟩:=aR.1 h2;cases e;exact⟨F,C,x,h1,h6,h4⟩
 ·rename_i m e hu;split at h
  case h_2=>cases h
  rename_i c hk;split at h
  case isFalse=>cases h
  rename_i hc;cases h;obtain⟨cs,rfl,Tp⟩:=tW hu ho;obtain⟨xs,n',rfl,_,hlen,hxl,hf⟩:=DataW.trod_array hu ht;have hcl: (Value.agg cs).cells.toList=cs.toList:=rfl;rw[hcl]at hlen hf;rw[hc.2]at hlen;obtain⟨l,h1,h2⟩:=s9 (M:=gA E) (B:=B) (c:=c) cs.toList fun i hi=>by
   have hi':i < xs.length:=Om
   have h3:=hf i Om;rw[hc.1,aaf,X6 hi',Z4 hi,ZX,List.take_zero]at h3;unfold Gv at hk;split at hk
   ·rename_i k hk';cases hk;obtain⟨z,e1,_,hwf⟩:=DataW.trod_int hk' h3;exact⟨.int k z,by rw[(List.cons.inj e1).1,VR],by rw[TY];exact⟨z,rfl,hwf⟩⟩
   ·rename_i hk';cases hk;obtain⟨s',e1,_,hs⟩:=DataW.trod_string hk' h3;exact⟨.str s'.data.toList,by rw[(List.cons.inj e1).1,VR],by rw[TY];exact⟨_,rfl,by simpa using hs⟩⟩
   ·cases hk
  rw[hlen]at h2;exact⟨[],[],.agg l,by rw[Yu,Yu];exact aw,by rw[VR,Yu];exact⟨_,rfl,h1⟩,l,rfl,by rw[Yu];exact h2⟩
 ·cases h
theorem tn(hz:∃ (z:Nat) (cc:Array Value) (el:TypeId) (fz:Nat×Nat),w.heap[z]? =some (Obj.cells cc el fz)){n r b0}:∀ (tys:List TypeId) {ats},tF P n tys=some ats→∀ (vs:List Value) (ds:List (DataW H)) (ps:List MemPlace),
  DataW.TrodAll enc P w base (fun _=>true) held tys vs ds ps→(∀ (j:Nat) t v,tys[j]? =some t→vs[j]? =some v→Value.okWide P w r b0 t v)→∀{E} {B},AW P w E B→
  ∃ (F:List sI) (C:ah) (ax:List AV),AW P w (E++F) (B++C)∧cH (gA (E++F)) ax vs∧sF (B++C) ats ax
 | [],ats,h,vs,ds,ps,ht,_,E,B,aw=>by
  unfold tF at h;cases h;cases vs with
  | cons v vs=>cases ds<;>exact ht.elim
  | nil=>exact⟨[],[],[],by rw[Yu,Yu];exact aw,by rw[bB],by rw[sF]⟩
 | t::tys,ats,h,vs,ds,ps,ht,ho,E,B,aw=>by
  unfold tF at h;split at h
  case h_2=>cases h
  rename_i a l ha hl;cases h;cases vs with
  | nil=>cases ds<;>exact ht.elim
  | cons v vs=>
   cases ds with
   | nil=>exact ht.elim
   | cons d ds=>
    obtain⟨p,q,h1,h2,_⟩:=ht;obtain⟨F,C,x,a1,a2,a3⟩:=Cb hz ha h1 (ho 0 t v rfl rfl) aw;obtain⟨F',C',xs,b1,b2,b3⟩:=tn hz tys hl vs ds q h2 (fun j t v h h'=>ho (j+1) t v h h') a1;refine⟨F++F',C++C',x::xs,by rw[←X4,←X4];exact b1,?_,?_⟩
    ·rw[←X4];exact aR.2 ⟨v,vs,rfl,VR.mono (jV _ _) _ _ a2,b2⟩
    ·rw[←X4,sF];exact⟨x,xs,rfl,a3.ext ⟨C',rfl⟩,b3⟩
end
open Go.ChangeShapes Go.WideShapes Go.RowKit
def CP(f:DataW Unit→Option (List AV)):List (DataW Unit)→Option (List AV)
 | []=>some []
 | d::r=>
  match f d,CP f r with
  | some a,some b=>some (a++b)
  | _,_=>none
def ze(P:Program):Nat→TypeId→DataW Unit→Option (List AV)
 | 0,_,_=>none
 | n+1,t,d=>
  match P.underlying t with
  | some (.int k)=>
   match d with
   | .lit (.int _ z)=>some [.int k z]
   | _=>none
  | some .string=>
   match d with
   | .lit (.string s)=>some [.str s]
   | _=>none
  | some (.array m e)=>
   match d with
   | .agg l=>
    match CP (ze P n e) l with
    | some r=>if P.cellsOf t=m * P.cellsOf e then some r else none
    | none=>none
   | _=>none
  | _=>none
section
variable {P:Program} {w:World} {base:Nat} {sp:Nat→Bool} {held:Bool}
theorem zf{f:DataW Unit→Option (List AV)}{m:bY}{ce:Nat}{cs:List Value}{g:List Value→Option (DataW Unit×List MemPlace)}(hf:∀c d p ax,g c=some (d,p)→f d=some ax→cH m ax c∧ax.all AV.one=true):
  ∀ (l:List (DataW Unit×List MemPlace)) (o:Nat) {ax:List AV},CP f (l.map (·.1))=some ax→(∀i (hi:i < l.length),g ((cs.drop ((o+i) * ce)).take ce)=some l[i])→cH m ax ((cs.drop (o * ce)).take (l.length * ce))∧ax.all AV.one=true
 | [],o,ax,h,_=>by
  unfold CP at h;cases h;rw[X9,aab,List.take_zero];exact⟨by rw[bB],rfl⟩
 | x::l,o,ax,h,hx=>by
  rw[YY]at h;unfold CP at h;split at h
  case h_2=>cases h
  rename_i a b ha hb;cases h;have h0:=hx 0 (by rw[X8];omega);rw[aay,List.getElem_cons_zero]at h0;obtain⟨p1,p2⟩:=hf _ x.1 x.2 a h0 ha;obtain⟨q1,q2⟩:=zf hf l (o+1) hb (fun i hi=>by
   have:=hx (i+1) (by rw[X8];omega);rw[List.getElem_cons_succ]at this;rw[show o+1+i=o+ (i+1) by omega];exact this)
  refine⟨?_,by rw[List.all_append,p2,q2];rfl⟩;rw[X8,Zo,Nat.add_comm (l.length * ce) ce,List.take_add,ZD];refine p1.append ?_;rw[←Zo];exact q1
theorem wv{m:bY}:∀ (n:Nat) (t:TypeId) (fuel:Nat) (cs:List Value) (d:DataW Unit) (p:List MemPlace) (ax:List AV),
  DataW.trod (fun _=>()) P w base sp held fuel t cs=some (d,p)→ze P n t d=some ax→cH m ax cs∧ax.all AV.one=true
 | 0,_,_,_,_,_,_,_,h=>by cases h
 | n+1,t,fuel,cs,d,p,ax,ht,h=>by
  unfold ze at h;split at h
  ·rename_i k hu;obtain⟨z,rfl,e,_⟩:=DataW.trod_int hu ht;cases e;cases h;exact⟨aR.2 ⟨_,[],rfl,by rw[VR],by rw[bB]⟩,rfl⟩
  ·rename_i hu;obtain⟨s,rfl,e,_⟩:=DataW.trod_string hu ht;cases e;cases h;exact⟨aR.2 ⟨_,[],rfl,rfl,by rw[bB]⟩,rfl⟩
  ·rename_i mm e hu;obtain⟨xs,m',_,ex,hlen,hxl,hf⟩:=DataW.trod_array hu ht;cases ex;simp only at h;split at h
   case h_2=>cases h
   rename_i r hr;split at h
   case isFalse=>cases h
   rename_i hc;cases h;have:=zf (m:=m) (ce:=P.cellsOf e) (cs:=cs) (g:=DataW.trod (fun _=>()) P w base sp held m' e) (fun c d p ax h1 h2=>wv n e m' c d p ax h1 h2) xs 0 hr (fun i hi=>by
    have:=hf i Om;rw[X6 hi]at this;rw[YR];exact this)
   rw[aab,Zu,hxl,←hc,←hlen,YF]at this;exact this
  ·cases h
def Gg(P:Program)(laid:List (String×DataW Unit))(n:Nat)(g:Nat):ak:=
 match laid.find? (fun x=>P.globalNamed x.1==some g)with
 | some x=>
  match (P.globals[g]?).map (·.type)with
  | some t=>
   match ze P n t x.2 with
   | some ax=>if ax.length=Er P g then .cells ax false false else .dead
   | none=>.dead
  | none=>.dead
 | none=>.dead
def tt(P:Program):List sI:=(List.range P.globals.size).map fun g=>⟨g,0,Er P g,false⟩
def vU(P:Program)(laid:List (String×DataW Unit))(n:Nat):ah:=(List.range P.globals.size).map (Gg P laid n)
theorem kh:∀{laid} {ps},DataW.LaidVars P w laid ps→∀x∈laid,∃g t cs fuel p,P.globalNamed x.1=some g∧(P.globals[g]?).map (·.type)=some t∧w.var? P x.1=some cs∧
  DataW.trod (fun _=>()) P w 0 (fun _=>true) false fuel t cs.toList=some (x.2,p)
 | [],_,_,x,hx=>by cases hx
 | (n,d)::r,ps,h,x,hx=>by
  obtain⟨g,t,cs,fuel,p,q,h1,h2,h3,h4,h5,_⟩:=h;rcases YH.1 hx with rfl| hx
  ·exact⟨g,t,cs,fuel,p,h1,h2,h3,h4⟩
  ·exact kh h5 x hx
def yu{n g cs}(hg:P.globalNamed n=some g)(h:w.var? P n=some cs):∃el fz,w.heap[g]? =some (.cells cs el fz):=by
 unfold World.var? at h;rw[hg]at h;simp only[Option.bind_some]at h;split at h
 ·rename_i c el fz hb;cases h;exact⟨el,fz,hb⟩
 ·cases h
theorem AW.globals{Wb laid}(hl:laidMet P Wb w)(hsub:∀x∈laid,x∈Wb)(n:Nat){nm d}(hlast: (nm,d)∈laid)(hg:P.globalNamed nm=some (P.globals.size - 1)):
  AW P w (tt P) (vU P laid n)∧∃ (z:Nat) (cc:Array Value) (el:TypeId) (fz:Nat×Nat),w.heap[z]? =some (Obj.cells cc el fz):=by
 obtain⟨ps,hv,_,_⟩:=hl;obtain⟨g0,t0,cs0,_,_,a1,_,a3,_⟩:=kh hv _ (hsub _ hlast);obtain⟨el0,fz0,R9⟩:=yu a1 a3;have dZ:P.globals.size - 1 < w.heap.size:=by
  have e:g0=P.globals.size - 1:=Y6 (a1.symm.trans hg);rw[←e];exact(Ym.1 R9).1
 have hE:∀ (b:Nat) e,(tt P)[b]? =some e→b < P.globals.size∧e= ⟨b,0,Er P b,false⟩:=fun b e h=>by
  unfold tt at h;rw[Zp]at h;have hb:b < P.globals.size:=by
   cases hr: (List.range P.globals.size)[b]? with
   | none=>rw[hr]at h;cases h
   | some y=>have:=(X1.1 hr).1;simpa using this
  rw[List.getElem?_range hb]at h;exact⟨hb,(Y6 h).symm⟩
 refine⟨⟨by simp[tt,vU],fun b e h=>?_,fun b e k h h'=>?_,fun g hg=>⟨⟨g,0,Er P g,false⟩,?_,rfl,rfl,rfl,rfl⟩⟩,⟨g0,cs0,el0,fz0,R9⟩⟩
 ·obtain⟨hb,rfl⟩:=hE b e h;exact⟨rfl,by show b < _;omega⟩
 ·obtain⟨hb,rfl⟩:=hE b e h;unfold vU at h';rw[Zp,List.getElem?_range hb]at h';have h':=(Y6 h').symm;subst h';unfold Gg;split
  case h_2=>exact⟨trivial,.inl rfl⟩
  rename_i x hx;split
  case h_2=>exact⟨trivial,.inl rfl⟩
  rename_i t ht;split
  case h_2=>exact⟨trivial,.inl rfl⟩
  rename_i ax has;split
  case isFalse=>exact⟨trivial,.inl rfl⟩
  rename_i hlen;refine⟨?_,.inr ⟨ax,rfl⟩⟩;obtain⟨g,t',cs,fuel,p,b1,b2,b3,b4⟩:=kh hv x (hsub _ (List.mem_of_find?_eq_some hx));have hgb:P.globalNamed x.1=some b:=by have:=aaz hx;simpa using this
  have e1:g=b:=Y6 (b1.symm.trans hgb);subst e1;have e2:t' =t:=Y6 (b2.symm.trans ht);subst e2;obtain⟨el,fz,Tm⟩:=yu b1 b3;obtain⟨c1,c2⟩:=wv (m:=gA (tt P)) n t' fuel _ _ _ _ b4 has;have hcl:cs.size=ax.length:=by have:=c1.length;simpa using this
  refine⟨cs,el,fz,Tm,⟨by show 0+_≤_;omega,by show 0+_≤Er P g;omega,by show cs.size=Er P g;omega⟩,fun i x hx=>?_,⟨fun x=>absurd x Z3,fun x=>by rcases x with x| x<;>exact absurd x Z3⟩⟩;refine⟨YE.1 c2 x (YW hx),?_⟩;obtain⟨v,Vg,UA⟩:=c1.get hx;refine⟨v,?_,UA⟩;show cs[0+i]? =some v;rw[YR,←Zy];exact Vg
 ·unfold tt;rw[Zp,List.getElem?_range hg];rfl
end
section
variable {P:Program} {W W':World} {E:List sI} {B h':ah} {m':bY}
def AW.below(aw:AW P W E B)(g:Grow (gA E) B W m' h' W'):Below W.heap.size W W':=
 ⟨g.os,g.tape,g.out,g.size,fun k hk=>g.frame k hk fun b e hb ho=>by rw[(aw.own b e hb).1]at ho;cases ho⟩
def yj(b:Below W.heap.size W W')(may:MemPlace→Prop):W.keptBut W' may:=by
 refine⟨b.os,b.output,fun i hi=>?_⟩;rw[b.block i hi];split
 ·rename_i h1 h2;rw[h1]at h2;simp only[Yy,Obj.cells.injEq]at h2;obtain⟨rfl,rfl,rfl⟩:=h2;exact⟨rfl,rfl,rfl,fun _ _=>rfl⟩
 ·rename_i h1 h2;rw[h1]at h2;simp only[Yy,Obj.map.injEq]at h2;obtain⟨rfl,rfl⟩:=h2;exact .inr ⟨rfl,rfl⟩
 ·rfl
variable {H:Type} {enc:TypeId×Value→H}
theorem mA(hlo:laidOutB P=true)(hb:Below W.heap.size W W'){sp}:∀{tys} {vs} {ds} {ps},(∀t∈tys,P.readableRec t=true∧t < P.types.size)→
  DataW.TrodAll enc P W 0 (fun _=>true) true tys vs ds ps→(∀p∈ps,p.block < W.heap.size)→(∀p∈ps,sp p.block=true)→DataW.TrodAll enc P W' 0 sp true tys vs ds ps
 | [],[],[],ps,_,h,_,_=>h
 | [],[],_::_,_,_,h,_,_=>h.elim
 | [],_::_,_,_,_,h,_,_=>h.elim
 | _::_,[],_,_,_,h,_,_=>h.elim
 | _::_,_::_,[],_,_,h,_,_=>h.elim
 | t::tys,v::vs,d::ds,ps,hr,h,hl,hs=>by
  obtain⟨p,q,h1,h2,rfl⟩:=h;exact⟨p,q,WideElems.Trod_stays hlo (hr t (YV ..)).1 (hr t (YV ..)).2 h1 (fun x hx=>hb.same (hl x (List.mem_append_left _ hx))) (fun x hx=>hs x (List.mem_append_left _ hx)),
   mA hlo hb (fun t ht=>hr t (YI _ ht)) h2 (fun x hx=>hl x (List.mem_append_right _ hx)) (fun x hx=>hs x (List.mem_append_right _ hx)),rfl⟩
def zQ{f:Func}{s:ChangeSpec}{apart fresh handsOn again:Bool}{args:Array Value}{ds gs:List (DataW H)}{before:List MemPlace}{tb:TypeId}
  (hlo:laidOutB P=true) (hpar:∀t∈f.params.toList,P.readableRec t=true∧t < P.types.size) (hrt:f.resultTypes=#[tb]) (htb:P.underlying tb=some .bool) (hvars:s.vars= [])
  (hfn: (s.fn H (ds++gs))={ results:=[.lit (.bool true)],args:=ds }) (hW:DataW.Whole enc P f.params.toList s.vars apart W args.toList ds gs before) (hb:Below W.heap.size W W'):
  s.post enc P f apart fresh handsOn again W args (.bool true) W':=by
 have hlt:=hW.lt;have hW':=hW;obtain⟨p,q,hA,hV,rfl,hz,hn⟩:=hW';rw[hvars]at hV;obtain⟨rfl,rfl⟩:=trodVars_none hV;rw[Yu]at hlt;have hres:∀ (b:Nat) (sp:Nat→Bool) (hd:Bool),DataW.TrodAll enc P W' b sp hd f.resultTypes.toList ((Value.bool true).resultList f.resultTypes.size) (s.fn H (ds++ [])).results []:=fun b sp hd=>by
  rw[hfn,hrt];exact trodAll_mk1 (shut_bool htb _)
 have hargs:∀sp:Nat→Bool,(∀x∈p,sp x.block=true)→DataW.TrodAll enc P W' 0 sp true f.params.toList args.toList (s.fn H (ds++ [])).args p:=fun sp hs=>by
  rw[hfn];exact mA hlo hb hpar hA hlt hs
 have RQ:∀sp:Nat→Bool,DataW.TrodVars enc P W' sp s.vars (s.fn H (ds++ [])).vars []:=fun sp=>by
  rw[hfn,hvars];rfl
 refine⟨ds,[],p++ [],[],p,[],hW,hres _ _ _,hargs _ (fun x hx=>by simpa using hlt x hx),RQ _,yj hb _,fun _=>?_⟩;refine⟨?_,_,_,([]++p)++ [],⟨[]++p,[],trodAll_append (hargs _ (fun _ _=>rfl)) (hres _ _ _),RQ _,rfl,?_,?_⟩,?_⟩
 ·exact ok_one hrt rfl (okWide_bool_mk htb _)
 ·intro b off hp;have hp:MemPlace.cell b off∈p:=by simpa using hp
  have:=hz b off (by simpa using hp);unfold World.frozen? at this ⊢;rw[hb.block b (hlt _ hp)];exact this
 ·intro ha;have:=hn ha
  simpa using this
 ·intro x hx _
  simpa using hx
def BF{f:Func}{fid:FuncId}{s:ChangeSpec}{apart fresh handsOn again:Bool}{args:Array Value}{ds gs:List (DataW H)}{before:List MemPlace}{tb:TypeId}{n:Nat}{ats:List AT}{r:Reach}{b0:Nat}
  (hlo:laidOutB P=true) (hpar:∀t∈f.params.toList,P.readableRec t=true∧t < P.types.size) (hrt:f.resultTypes=#[tb]) (htb:P.underlying tb=some .bool) (hvars:s.vars= [])
  (hfn: (s.fn H (ds++gs))={ results:=[.lit (.bool true)],args:=ds }) (hats:tF P n f.params.toList=some ats)
  (hval:∀ (j:Nat) t v,f.params[j]? =some t→args[j]? =some v→Value.okWide P W r b0 t v)
  (hW:DataW.Whole enc P f.params.toList s.vars apart W args.toList ds gs before) (aw:AW P W E B) (hz:∃ (z:Nat) (cc:Array Value) (el:TypeId) (fz:Nat×Nat),W.heap[z]? =some (Obj.cells cc el fz))
  (call:∀k ax,Ext B k→sF k ats ax→ay P fid ax k fun v _=>v= .bool true):
  Calls P fid args W fun e W'=>∃v,e= .returned v∧s.post enc P f apart fresh handsOn again W args v W':=by
 obtain⟨p,q,hA,_⟩:=id hW;obtain⟨F,C,ax,h1,h2,h3⟩:=tn hz f.params.toList hats args.toList ds p hA (fun j t v h h'=>hval j t v (by rw[←Zy];exact h) (by rw[←Zy];exact h')) aw;obtain⟨v,g,hs,rfl⟩:=call (B++C) ax ⟨C,rfl⟩ h3;refine(hs (gA (E++F)) W args.toList h1.hr h2).mono fun e W' ⟨cv,m',he,hv,_,hg⟩=>?_
 rw[VR]at hv;subst hv;exact⟨_,he,zQ hlo hpar hrt htb hvars hfn hW (h1.below hg)⟩
end
end Go.Abs
namespace Go.Proofs.YtgplmdgpmbegiaaGreatDoor
open Go.Abs
noncomputable def vV:ah:=vU Tryz.prog Rows.houseSafeRow.laid 6
def Et:vV[0]? =some (.cells Qo false false):=by kernel_rfl
def Es:vV[2]? =some (.cells (Lib.pow10Tab.map (AV.int .u64)) false false):=by kernel_rfl
def Qq{k:ah}(e:Ext vV k):Gl k:=⟨_,_,e.some Et⟩
def QA{k:ah}(e:Ext vV k):Pw k:=⟨_,_,e.some Es⟩
end Go.Proofs.YtgplmdgpmbegiaaGreatDoor
namespace Go.Proofs.YtgplmdgpmbegiaaGreatDoor
open Go.ChangeShapes Go.WideShapes Go.RowKit Go.Abs
def fW{a b:Bool}(h:a=true)(h':b=true): (a && b)=true:=by rw[h,h'];rfl
def own:ownKnob Tryz.prog.godebug=none:=by kernel_rfl
def laidOut:laidOutB Tryz.prog=true:=by kernel_rfl
def DC:mapsRowed Tryz.prog=true:=by kernel_rfl
def Bt: (Tryz.prog.stops== [])=true:=by kernel_rfl
def Bw: (Tryz.prog.stopKnobs== [])=true:=by kernel_rfl
def Bx:Tryz.prog.stopsHeard=true:=by kernel_rfl
def Bz:Tryz.prog.mayEnter=true:=by kernel_rfl
def Bv: (Rows.houseSafeRow.lifted==Tryz.prog.liftsFinal)=true:=by kernel_rfl
def DD: (Tryz.prog.make==some Rows.houseSafeRow.make)=true:=by kernel_rfl
def DG: (Rows.houseSafeRow.plainKeys==Tryz.prog.plainKeys)=true:=by kernel_rfl
def DE:Tryz.prog.mainIs=some (true, "99e684478f8cae51b056da3a355f6848a653f6e5f09f29bc4422acb306b2dd43".toList):=by kernel_rfl
def Bu:true=Tryz.prog.looks []:=by kernel_rfl
def zF(os:Os)(args:Array Value): ((World.laidAll Tryz.prog os Rows.houseSafeRow.laid).forCall (fun _ _=>0) ⟨#[],args,[]⟩).Shaped Tryz.prog:=World.shaped_of_ZipB (by kernel_rfl) (by kernel_rfl)
def DF(os:Os)(args:Array Value):laidMetH Tryz.prog Rows.houseSafeRow.laid ((World.laidAll Tryz.prog os Rows.houseSafeRow.laid).forCall (fun _ _=>0) ⟨#[],args,[]⟩).memory:=by
 rw[MakeChecks.laidMetH_plain _ _ _ (by kernel_rfl)];exact laidMet_laidAll _ (by kernel_rfl) (by kernel_rfl)
end Go.Proofs.YtgplmdgpmbegiaaGreatDoor
namespace Go.Abs
def WR.BU{P:Program}{ro:Option Nat→Prop}{ks:List Kt}{ts:TS}{Q:Ex→TS→ah→Prop}{α:Type}{row:α→List AV}{L:List α}{B Y:ah}{s v:AV}{es i off:Nat}{x':α}{d:Option Nat}{l:List bJ}
  (hs:Fr B.length Y s es (L.map row)) (he:Ext B Y) (hi:i < L.length) (ho:off < es) (hv:v.one=true) (hx:row x' = (row L[i]).set off v)
  (K:∀W5:ah,Ext B W5→W5.length=Y.length→Fr B.length W5 s es ((L.set i x').map row)→(∀b,sB s≠some b→W5[b]? =Y[b]?)→WP P ro l ks (put ts d aA) W5 Q):
  WR P ro (aT 1 (jv s es i off) v (fun b=>Y[b]?)) false d l ks ts Y Q:=by
 obtain⟨g,rfl⟩:=he;refine WR.vm (h0:=B) hs hi ho hv hx ?_;intro g' Q7 hff hkp;exact K _ ⟨_,rfl⟩ (by simp[Q7]) hff fun b hb=>hkp b fun b0 o n e he z=>hb (by rw[he,z];rfl)
set_option maxRecDepth 10000
attribute [local irreducible] WP WC WE WB WR WF WL WG fT WM
section
variable {P:Program} (T:fy P) {B X W:ah} {ts:TS} {V:RV} {x:EV}
include T
def zM(w:fk V.an)(ox:bg B x)(we:jG x.ev .accept)(nk:sG V.an x.ev .accept)(s:cD B X x V W V)(hlen:ts.length=250)(t2:slot ts 2= .ptr X.length 0)(t3:slot ts 3= .ptr (X.length+1) 0)(t4:slot ts 4= .ptr (X.length+2) 0):
  WC P bR zN [] ts W (FQ [(4,some (some 7)),(5,none)] (rR B X V (bA V.an x.ev .accept) (dq V.an x.ev .accept))):=by
 have ow:=ox.ext s.ex;have oV:=s.bk.o.ok;have Q0:x.ev.kind=bu .accept:=cg we.kd;obtain⟨lr,le,sb,gm⟩:=cD.fa s;obtain⟨i0,d0⟩:=bI ow we 0 0 rfl De;obtain⟨j0,f0,q0⟩:=cR ow we 0 0 rfl De;unfold zN fn225;simp only[ai.tl];have k0:aO x.ev 0∈gE V.an:=nk.kn 0 0 rfl;have UH:x.ev.names= [aO x.ev 0]:=by
  have h1:=we.nl;obtain⟨n,hn⟩:∃n,x.ev.names= [n]:=List.length_eq_one_iff.1 h1;rw[aO,hn];rfl
 have hlt:bp (gE V.an) (aO x.ev 0)< V.lines.length:=by have:=cY k0;simpa [gE,RV.an]using this
 have ei:cU (fun y:gM=>decide (y.name=aO x.ev 0)) V.lines= (bp (gE V.an) (aO x.ev 0):Int):=e9 (f:=gM.name) k0;have sp:dJ V.an (aO x.ev 0)=V.lines[bp (gE V.an) (aO x.ev 0)]:=dh k0;obtain⟨p,hp⟩:∃p,p=bp (gE V.an) (aO x.ev 0):=⟨_,rfl⟩;rw[←hp]at ei;have hlt:p < V.lines.length:=by rw[hp];exact hlt
 have sp:dJ V.an (aO x.ev 0)=V.lines[p]:=by rw[sp];congr 1;exact hp.symm
 refine kE (Jg @t2 @t3 @t4 @le @lr @a8 @aM @aY @aG @Q0 @eO @Yp @Yk @j0 @f0 @i0 @d0) ?_;refine WF.ce T.c28 (r28 T (oV.ext Xx) w.len _) fun g1=>?_
 rw[ei];obtain⟨W2,Rz⟩:∃Z,Z=W++g1:=⟨_,rfl⟩;rw[←Rz];have Ri:cD B X x V W2 V:=by rw[Rz];exact eQ.grow s ⟨g1,rfl⟩
 have ow:=ox.ext Ri.ex;have oV:=Ri.bk.o.ok;obtain⟨lr,le,sb,gm⟩:=cD.fa Ri;have on:=ow.n;rw[UH]at on;have on1:=ow.n.one;refine Rs (A7 t2 t3 t4 @le @lr @aG @aM) ?_;refine WF.res T.c127 (r127 T (oV.ext Xx) w.len on Si) ?_;rintro ns g2 hns;obtain⟨W3,Rg⟩:∃Z,Z=W2++g2:=⟨_,rfl⟩;rw[←Rg];have Rn:cD B X x V W3 V:=by rw[Rg];exact eQ.grow Ri ⟨g2,rfl⟩
 have ow:=ox.ext Rn.ex;have oV:=Rn.bk.o.ok;obtain⟨lr,le,sb,gm⟩:=cD.fa Rn;rw[←Rg]at hns;obtain⟨S,hS⟩:∃S,S=zR V.an (aO x.ev 0):=⟨_,rfl⟩;have hfS: (V.an.aj.filter fun y=>decide (y.line∈[aO x.ev 0]))=S:=by
  rw[hS,zR];refine List.filter_congr fun y _=>?_
  simp
 rw[hfS]at hns;have hSm:∀y∈S,y∈V.an.aj:=fun y hy=>by rw[hS,zR]at hy;exact(Zk.1 hy).1
 have hSl:S.length≤64:=by
  have h1:S.length≤V.an.aj.length:=by rw[hS,zR];exact YK _ _
  have:=w.l2;omega
 rw[ZK]at hns;have ix:aZ 3 V.s0 (.i (p:Int))=some (cV V.s0 3 p,.au):=oV.i0.dI hlt;have l2:∀{k:ah},Ext W3 k→aq none (jv V.s0 3 p 2) (fun b=>k[b]?)=some (.bool (dJ V.an (aO x.ev 0)).acc,.au):=fun {k} e=>by rw[sp];exact oV.i0.lG hlt rfl e
 have l1:∀{k:ah},Ext W3 k→aq none (jv V.s0 3 p 1) (fun b=>k[b]?)=some (.i (dJ V.an (aO x.ev 0)).want,.au):=fun {k} e=>by rw[sp];exact oV.i0.lG hlt rfl e
 cases h1: (dJ V.an (aO x.ev 0)).acc with
 | true=>
  rw[h1]at l2;refine Rs (nv t2 t3 t4 ix @l2 @lr @aG @ga @sb @gm) ?_;rw[bA,Yh h1];exact Df
 | false=>
 rw[h1]at l2;by_cases h2: (S.length:Int)< (dJ V.an (aO x.ev 0)).want
 case pos=>
  have e2:decide ((S.length:Int)< (dJ V.an (aO x.ev 0)).want)=true:=X7 h2;refine Rs (GH t2 t3 t4 ix @l2 @l1 hns.aL @lr @aG @ga e2 @sb @gm) ?_;rw[bA,Yd (by rw[h1];decide),Yh (by rw[←hS];exact h2)];exact Df
 have e2:decide ((S.length:Int)< (dJ V.an (aO x.ev 0)).want)=false:=X3 h2;refine Rs (nw t2 t3 t4 ix @l2 @l1 hns.aL @lr @aG @ga e2) ?_;refine WL.inv T.mix (fun m ts h'=>∃ (k:Nat) (g:ah),k≤S.length∧m=S.length - k∧h' =W3++g∧(∀y∈S.take k,iB V.an y (bG x.ev 0)=true)∧ts.length=250∧slot ts 2= .ptr X.length 0∧slot ts 4= .ptr (X.length+2) 0∧slot ts 6= .i (bG x.ev 0)∧slot ts 9= .i (p:Int)∧slot ts 10=ns∧slot ts 11= .i k) S.length
  ⟨0,[],Om,rfl,by rw[Yu],(fun y hy=>by cases hy),Sn,(Sq t2),(Sq t4),Sw,Sw,Sw,hP⟩ ?_
 clear t2 t3 t4 hlen;rintro _ ts _ ⟨k,g,hk,rfl,rfl,hsf,hlen,t2,t4,t6,t9,t10,t11⟩;obtain⟨W4,RO⟩:∃Z,Z=W3++g:=⟨_,rfl⟩;rw[←RO];have SB:cD B X x V W4 V:=by rw[RO];exact eQ.grow Rn ⟨g,rfl⟩
 have ow:=ox.ext SB.ex;have oV:=SB.bk.o.ok;obtain⟨lr,le,sb,gm⟩:=cD.fa SB;have e34:Ext W3 W4:=⟨g,RO⟩;have hns:=hns.ext e34;by_cases R1:k < S.length
 ·have e3:decide ((k:Int)< S.length)=true:=X7 Om;have e5:=wrapN (n:=k) Om;have iy:=hns.dI (kk:=.i64) R1;obtain⟨y,hy⟩:∃y,y=S[k]:=⟨_,rfl⟩;have SC:y∈V.an.aj:=hSm y (by rw[hy];exact Yi _);have lf:∀{kk:ah},Ext W4 kk→aq none (cV ns 1 k) (fun b=>kk[b]?)=some (.str y.name,.au):=fun {kk} e=>hns.ki R1 (by rw[←hy];rfl) e
  have Tz:y.name∈mN V.an:=Yx SC;have hps:=cY Tz;have Te:bp (mN V.an) y.name < V.aj.length:=by simpa [mN,RV.an]using hps
  have iz:aZ 3 V.s2 (.i ((bp (mN V.an) y.name:Nat):Int))=some (cV V.s2 3 (bp (mN V.an) y.name),.au):=oV.i2.dI Te;obtain⟨u,hu⟩:∃u,u=V.aj[bp (mN V.an) y.name]:=⟨_,rfl⟩;have hum:u∈V.aj:=by rw[hu];exact Yi _
  have huy:u.1=y:=by
   have a1:qR V.an y.name=y:=ue w.n2.nd SC;rw[qR,dh (f:=jI.name) (l:=V.an.aj) (d:=D2) Tz]at a1;rw[←a1,hu];exact Dk
  have ly:∀{kk:ah},Ext W4 kk→aq (some 3) (cV V.s2 3 (bp (mN V.an) y.name)) (fun b=>kk[b]?)=some (.agg (bj u),.au):=fun {kk} e=>by rw[hu];exact oV.i2.kR Te e
  have ou:=oV.e2 u hum;have hul:=(w.y3.sh u hum);refine Rs (GH t2 t4 t6 t9 t10 t11 hns.aL e3 @lr @fF @aG @iy @lf) ?_;refine WF.ce T.c22 (r22 T (oV.ext Xx) w.len _) fun g3=>?_
  have ej:cU (fun y':jI×AV=>decide (y'.1.name=y.name)) V.aj= (bp (mN V.an) y.name:Int):=by
   rw[jQ];exact e9 (f:=fun y:jI×AV=>y.1.name) (by rw[←jQ];exact Tz)
  rw[ej];refine Rs (A8 t2 t4 t6 t9 t10 t11 @iz @ly) ?_;refine WF.ce T.c23 (r23 T (oV.ext Xx) w.len (ou.ext Xx) hul.2 hul.1 _) fun g4=>?_
  rw[huy];cases h4:iB V.an y (bG x.ev 0)with
  | false=>
   refine Rs (nw t2 t4 t6 t9 t10 t11 @Yz @lr @aG @sb @gm) ?_;rw[bA,Yd (by rw[h1];decide),Yd (by rw[←hS];exact h2),Yh (by rw[←hS];exact ZE.2 ⟨y,by rw[hy];exact Yi _,by rw[h4];rfl⟩)];exact cD.fin (eQ.grow SB (by rw[X4];exact⟨_,rfl⟩)) (fun z=>absurd z De)
  | true=>
   refine Rs (A8 t2 t4 t6 t9 t10 t11 @Yw e5) ?_;refine⟨_,Om,k+1,g++g3++g4,Om,rfl,by rw[RO];simp only[X4],?_,rfl⟩;intro y' hy';exact PT
 ·have e3:decide ((k:Int)< S.length)=false:=X3 Om;have e4:k=S.length:=Om
  rw[e4,YF]at hsf;have Sg:bA V.an x.ev .accept=0:=by
   rw[bA,Yd (by rw[h1];decide),Yd (by rw[←hS];exact h2),Yd];exact z148
  refine Rs (nw t2 t4 t6 t9 t10 t11 hns.aL e3 @lr @ga ix) ?_;refine WR.BU (B:=B) (x':={ V.lines[p]with acc:=true }) (row:=cp) SB.bk.o.i0 SB.ex hlt De rfl rfl ?_;intro W5 x5 l5 hff hk5;have s5:cD B X x V W5 { V with lines:=V.lines.set p { V.lines[p]with acc:=true } }:=eQ.q0 SB hff (fun i _ hne=>hk5 i hne) x5 Om;obtain⟨lr,_,sb,gm⟩:=cD.fa s5;refine Rs (nv t2 t4 t6 t9 t10 t11 @lr @aG @sb @gm) ?_;exact Jy
end
structure GC(X:ah)(x:EV)(U:RV)(h:ah):Prop where
 r:h[X.length]? =some (.b U.row)
 e:h[X.length+1]? =some (.b x.row)
 n:bg h x
theorem GC.ext{X h k x U}(s:GC X x U h)(e:Ext h k):GC X x U k:=⟨e.some s.r,e.some s.e,s.n.ext e⟩
section
variable {P:Program} (T:fy P) {B X W:ah} {ts:TS} {V:RV} {x:EV}
include T
def DX(w:fk V.an)(ox:bg B x)(we:jG x.ev .copy)(nk:sG V.an x.ev .copy)(s:cD B X x V W V)(hlen:ts.length=250)(t2:slot ts 2= .ptr X.length 0)(t3:slot ts 3= .ptr (X.length+1) 0)(t4:slot ts 4= .ptr (X.length+2) 0):
  WC P bR zN [] ts W (FQ [(4,some (some 7)),(5,none)] (rR B X V (bA V.an x.ev .copy) (dq V.an x.ev .copy))):=by
 have ow:=ox.ext s.ex;have oV:=s.bk.o.ok;have Q0:x.ev.kind=bu .copy:=cg we.kd;obtain⟨lr,le,sb,gm⟩:=cD.fa s;obtain⟨i0,d0⟩:=bI ow we 0 0 rfl De;obtain⟨i1,d1⟩:=bI ow we 1 1 rfl De;obtain⟨j0,f0,q0⟩:=cR ow we 0 0 rfl De;unfold zN fn225;simp only[ai.tl];have k0:aO x.ev 0∈jB V.an:=nk.kn 0 1 rfl;have k1:aO x.ev 1∈jB V.an:=nk.kn 1 1 rfl;have Tc:V.aj.length≤64:=by have:=w.l2;simpa [RV.an]using this
 have htp:∀y∈V.aj,y.1.aI.length < 2^30:=fun y hy=>(w.y3.sh y hy).2
 by_cases h1:aO x.ev 0=aO x.ev 1
 case pos=>
  have e1:decide (aO x.ev 0=aO x.ev 1)=true:=X7 h1;refine kE (MG t2 t3 t4 @le @lr @a8 @aM @aY @aG @Q0 @eO @Yp @Yk @j0 @f0 @i0 @d0 @i1 @d1 e1 @sb @gm) ?_;rw[bA,Yh h1];exact GL
 have e1:decide (aO x.ev 0=aO x.ev 1)=false:=X3 h1;refine kE (Mo @t2 @t3 @t4 @le @lr @a8 @aM @aY @aG @Q0 @eO @Yp @Yk @j0 @f0 @i0 @d0 @i1 @d1 @e1) ?_;refine WF.ce T.c84 (r84 T (oV.ext Xx) w.len k0 _) fun g1=>?_
 obtain⟨W2,Rz⟩:∃Z,Z=W++g1:=⟨_,rfl⟩;rw[←Rz];have Ri:cD B X x V W2 V:=by rw[Rz];exact eQ.grow s ⟨g1,rfl⟩
 have ow:=ox.ext Ri.ex;have oV:=Ri.bk.o.ok;obtain⟨lr,le,sb,gm⟩:=cD.fa Ri;obtain⟨i0,d0⟩:=bI ow we 0 0 rfl De;obtain⟨i1,d1⟩:=bI ow we 1 1 rfl De;obtain⟨j0,f0,q0⟩:=cR ow we 0 0 rfl De;cases h2:jo V.an (bG x.ev 0) (aO x.ev 0)with
 | false=>
  refine Rs (A8 t2 t3 t4 @Yz @lr @aG @sb @gm) ?_;rw[bA,Yd h1,Yh (by rw[h2];rfl)];exact z91
 | true=>
 refine Rs (nv t2 t3 t4 @Yw @le @lr @aG @aM @i1 @d1) ?_;refine WF.ce T.c84 (r84 T (oV.ext Xx) w.len k1 _) fun g2=>?_
 obtain⟨W3,Rg⟩:∃Z,Z=W2++g2:=⟨_,rfl⟩;rw[←Rg];have Rn:cD B X x V W3 V:=by rw[Rg];exact eQ.grow Ri ⟨g2,rfl⟩
 have ow:=ox.ext Rn.ex;have oV:=Rn.bk.o.ok;obtain⟨lr,le,sb,gm⟩:=cD.fa Rn;obtain⟨i0,d0⟩:=bI ow we 0 0 rfl De;obtain⟨i1,d1⟩:=bI ow we 1 1 rfl De;obtain⟨j0,f0,q0⟩:=cR ow we 0 0 rfl De;cases h3:jo V.an (bG x.ev 0) (aO x.ev 1)with
 | false=>
  refine Rs (A8 t2 t3 t4 @Yz @lr @aG @sb @gm) ?_;rw[bA,Yd h1,Yd (by rw[h2];decide),Yh (by rw[h3];rfl)];exact Df
 | true=>
 have Sg:bA V.an x.ev .copy=0:=by rw[bA,Yd h1,Yd (by rw[h2];decide),Yd (by rw[h3];decide)]
 refine Rs (A4 t2 t3 t4 @Yw) ?_;obtain⟨a,ha⟩:∃a,a=aO x.ev 0:=⟨_,rfl⟩;obtain⟨z,hz⟩:∃z,z=aO x.ev 1:=⟨_,rfl⟩;refine WL.inv T.mix (fun m ts W=>∃ (k:Nat) (U:RV),k≤V.aj.length∧m=V.aj.length - k∧cD B X x V W U∧U.s2=V.s2∧U.aj.length=V.aj.length∧
   { U.an with aj:=V.an.aj } =V.an∧(∀i (hi:i < U.aj.length) (hi':i < V.aj.length),(U.aj[i]).1=if i < k then ku a z (V.aj[i]).1 else(V.aj[i]).1)∧
   ts.length=250∧slot ts 2= .ptr X.length 0∧slot ts 3= .ptr (X.length+1) 0∧slot ts 4= .ptr (X.length+2) 0∧slot ts 7= .i k) V.aj.length
  ⟨0,V,Om,rfl,Rn,rfl,rfl,rfl,fun i hi hi'=>by rw[Yd Om],Sn,(Sq t2),(Sq t3),(Sq t4),hP⟩ ?_
 clear t2 t3 t4 hlen i0 i1 d0 d1 j0 f0 oV ow lr le sb gm;rintro _ ts W4 ⟨k,U,hk,rfl,s,Rt,S2,hreg,hU,hlen,t2,t3,t4,t7⟩;have ow:=ox.ext s.ex;have oU:=s.bk.o.ok;obtain⟨lr,le,sb,gm⟩:=cD.fa s;by_cases hlt:k < V.aj.length
 ·have T8:k < U.aj.length:=Om
  have e3:=eT hlt;have e5:=wrapN (n:=k) Om;have ll:∀ (G:Nat→Option ak),Go.Abs.iO .sl G U.s2=some V.aj.length:=fun G=>by rw[oU.i2.aL,S2]
  have ix:aZ 3 U.s2 (.i (k:Int))=some (cV U.s2 3 k,.au):=oU.i2.dI T8;have RC:U.aj[k]∈U.aj:=Yi _;have hx1: (U.aj[k]).1= (V.aj[k]).1:=by rw[hU k T8 hlt,Yd Om]
  have hxl: (U.aj[k]).1.aI.length < 2^30:=by rw[hx1];exact htp _ (Yi _)
  have UU:=s.bk.o.e2 _ RC;have next:∀ (U2:RV),U2.aj.length=V.aj.length→(∀i (hi:i < U2.aj.length) (hi':i < U.aj.length),(U2.aj[i]).1=if i=k then ku a z (U.aj[i]).1 else(U.aj[i]).1)→
    ∀i (hi:i < U2.aj.length) (hi':i < V.aj.length),(U2.aj[i]).1=if i < k+1 then ku a z (V.aj[i]).1 else(V.aj[i]).1:=by
   intro U2 a3 a5 i hi hi';exact PY
  obtain⟨y,hy⟩:∃y,y=U.aj[k]:=⟨_,rfl⟩;have ly:∀{kk:ah},Ext W4 kk→aq none (jv U.s2 3 k 2) (fun b=>kk[b]?)=some (y.2,.au):=fun {kk} e=>oU.i2.lG T8 (by rw[←hy];rfl) e
  rw[←hy]at UU hxl;have oy:=UU.aX.one;obtain⟨i0,d0⟩:=bI ow we 0 0 rfl De;obtain⟨i1,d1⟩:=bI ow we 1 1 rfl De;rw[←ha]at d0;rw[←hz]at d1;refine Rs (AF t2 t3 t4 t7 @lr @le @fF @ll e3 ix @ly @aM @i0 @d0) ?_;refine WF.ce T.c35 (r35 T (UU.aX.ext Xx) Om a) fun g3=>?_
  by_cases c1:a∈y.1.aI
  case neg=>
   have u1:decide (a∈y.1.aI)=false:=X3 c1;rw[u1];refine Rs (A5 t2 t3 t4 t7 e5) ?_;refine⟨_,Om,k+1,U,Om,rfl,eQ.grow s ⟨g3,rfl⟩,Rt,S2,hreg,next U S2 (fun i hi hi'=>?_),rfl⟩;split
   ·rename_i SU;subst SU;rw[←hy,ku,Yd (fun w=>c1 w.1)]
   ·rfl
  have u1:decide (a∈y.1.aI)=true:=X7 c1;rw[u1];refine Rs (A8 t2 t3 t4 t7 @le @aM @i1 @d1) ?_;refine WF.ce T.c35 (r35 T (UU.aX.ext Xx) Om z) fun g4=>?_
  by_cases c2:z∈y.1.aI
  ·have u2:decide (z∈y.1.aI)=true:=X7 c2;rw[u2];refine Rs (A6 t2 t3 t4 t7 @Yw e5) ?_;refine⟨_,Om,k+1,U,Om,rfl,eQ.grow s (by rw[X4];exact⟨_,rfl⟩),Rt,S2,hreg,next U S2 (fun i hi hi'=>?_),rfl⟩;split
   ·rename_i SU;subst SU;rw[←hy,ku,Yd (fun w=>w.2 c2)]
   ·rfl
  have u2:decide (z∈y.1.aI)=false:=X3 c2;rw[u2];refine Rs (A5 t2 t3 t4 t7 @Yz) ?_;obtain⟨W5,Tr⟩:∃Z,Z=W4++g3++g4:=⟨_,rfl⟩;rw[←Tr];have WH:Ext W4 W5:=by rw[Tr,X4];exact⟨_,rfl⟩
  have s5:cD B X x V W5 U:=eQ.grow s WH;have S5:GC X x U W5:=⟨s5.bk.m,cD.Lx s5,ox.ext s5.ex⟩;have hfx5:=s5.bk.o.e2 y (by rw[hy];exact RC);refine oT (GC X x U) ?_;refine c7 S5 rfl rfl ?_;refine Rs (A4 t2 t3 t4 t7) ?_;refine kN S5 (v:=U.s2) (fun g hg=>?_) ?_
  ·simp only[aW,bd,bC,bD,reduceAdd,reduceMul,reduceLeDiff,reduceEqDiff,bE,hlen,Yo,Ys,t2,az hg.r,fF]
  refine Rs (A4 t2 t3 t4 t7) ?_;refine c7 S5 rfl rfl ?_;refine Rs (A4 t2 t3 t4 t7) ?_;refine c7 S5 rfl rfl ?_;refine Rs (A4 t2 t3 t4 t7) ?_;have S6:GC X x U (W5++ [ak.b []]):=S5.ext ⟨_,rfl⟩;refine c7 S6 rfl rfl ?_;refine Rs (A4 t2 t3 t4 t7) ?_;refine c7 S6 rfl rfl ?_;refine Rs (A4 t2 t3 t4 t7) ?_;obtain⟨n5,hn5⟩:∃n,n=W5.length:=⟨_,rfl⟩;refine WR.pA (N:=n5) (w:=16) ba (Nat.le_of_eq hn5) (hfx5.aX.ext Xx) (by simp only[Ya];omega) fun t0 g5 ft=>?_
  obtain⟨W6,SI⟩:∃Z,Z=W5++ [ak.b []]++g5:=⟨_,rfl⟩;rw[←SI]at ft ⊢;have e56:Ext W5 W6:=by rw[SI,X4];exact⟨_,rfl⟩
  have S7:GC X x U W6:=S5.ext e56;have oq:=S7.n;have iq:aZ 1 x.sn (.i 1)=_:=(wg oq we (i:=1) De).1;have p0:=ft.aX.one;refine Rs (A4 t2 t3 t4 t7) ?_;refine c7 S7 rfl rfl ?_;refine Rs (A4 t2 t3 t4 t7) ?_;refine kN S7 (v:=x.sn) (fun g hg=>?_) ?_
  ·simp only[aW,bd,bC,bD,reduceAdd,reduceMul,reduceLeDiff,reduceEqDiff,bE,hlen,Yo,Ys,t3,az hg.e,aM]
  refine Rs (A4 t2 t3 t4 t7) ?_;refine c7 S7 rfl rfl ?_;refine Rs (A5 t2 t3 t4 t7 @iq) ?_;refine kN S7 (v:=.str z) (fun g hg=>?_) ?_
  ·have h9:=@(wg hg.n we (i:=1) De).2;rw[←hz]at h9;refine Zs t3 ?_;exact h9 (Ext.refl _)
  refine Rs (A4 t2 t3 t4 t7) ?_;refine c7 S7 rfl rfl ?_;refine Rs (A4 t2 t3 t4 t7) ?_;refine c7 (S7.ext ⟨_,rfl⟩) rfl rfl ?_;refine Rs (A4 t2 t3 t4 t7) ?_;rw[hn5]at ft;have s6:cD B X x V W6 U:=eQ.grow s5 e56;refine WR.pC (B:=W5) (cs:=y.1.aI.map ao) ft rfl e56 De (by simp only[Ya];omega) ?_;intro W7 t' x7 hff hn7 q7 l7 hk7;have hrow:y.1.aI.map ao++ [[AV.str z]]= (y.1.aI++ [z]).map ao:=by rw[Yc];rfl
  rw[hrow]at hff;have k7:∀i,i < W5.length→W7[i]? =W5[i]? :=fun i hi=>x7.get hi
  have s7:cD B X x V W7 U:=eQ.grow s5 x7;have S8:GC X x U W7:=S5.ext x7;refine Rs (A4 t2 t3 t4 t7) ?_;refine oS S8 rfl ?_;have hs27:Fr B.length W7 U.s2 3 (U.aj.map bj):=s7.bk.o.i2;have ix:aZ 3 U.s2 (.i (k:Int))=some (cV U.s2 3 k,.au):=oU.i2.dI T8;refine Rs (A6 t2 t3 t4 t7 ix q7) ?_;refine WR.BU (B:=B) (x':=(⟨y.1.name,y.1.line,y.1.aI++ [z]⟩,t')) (row:=bj) hs27 s7.ex T8 De q7 (by rw[←hy];rfl) ?_;intro W8 x8 l8 hf8 hk8;have ft8:Fr B.length W8 t' 1 ((y.1.aI++ [z]).map ao):=(hff.aB fun i hi=>hk8 i fun e=>by
   have h1:=(hff.bM hi).1;have h2:=(s5.bk.o.dP (b:=i) (by rw[←e];simp[RV.bl])).2;omega).low s5.ex.len
  have s8:cD B X x V W8 { U with aj:=U.aj.set k (⟨y.1.name,y.1.line,y.1.aI++ [z]⟩,t') }:=eQ.qS s T8 hf8 ft8 (fun j hj=>by have h1:=(hff.bM hj).1;have:=WH.len;omega) (fun j hj n1 n2=>by
   rw[hk8 j n1,k7 j (by have:=WH.len;omega)];exact WH.get hj) x8 (by have:=WH.len;have:=e56.len;omega)
  refine Rs (A5 t2 t3 t4 t7 e5) ?_;refine⟨_,Om,k+1,_,Om,rfl,s8,Rt,(by simp only[YL];exact S2),hreg,next _ (by simp only[YL];exact S2) (fun i hi hi'=>?_),rfl⟩;by_cases SU:i=k
  ·subst SU;simp only[Z2,Ys];rw[←hy,ku,Yh ⟨c1,c2⟩]
  ·exact Jl
 ·have e3:decide ((k:Int)< V.aj.length)=false:=X3 Om;have e4:k=V.aj.length:=Om
  have ll:∀ (G:Nat→Option ak),Go.Abs.iO .sl G U.s2=some V.aj.length:=fun G=>by rw[oU.i2.aL,S2]
  refine Rs (nw t2 t3 t4 t7 @lr @fF @ll e3 @aG @sb @gm) ?_;rw[Sg];refine cD.fin s (fun _=>?_);exact P8
def Ck{d}(hd:d= .line∨d= .tape∨d= .gg∨d= .copy∨d= .accept)(o:cG B.length X V)(w:fk V.an)(hx:Ext B X)(ox:bg B x)(we:jG x.ev d)(nk:sG V.an x.ev d):
  da P 225 [.agg V.row,.agg x.row] X (rR B X V (bA V.an x.ev d) (dq V.an x.ev d)):=by
 refine .of T.mix (aaE T.c225 (YC some Nw)) ?_;obtain⟨ts,QV⟩:∃ts,ts=aU 250 [.agg V.row,.agg x.row]:=⟨_,rfl⟩;have hlen:ts.length=250:=by rw[QV];rfl
 have t0:slot ts 0= .agg V.row:=by rw[QV];rfl
 have t1:slot ts 1= .agg x.row:=by rw[QV];rfl
 show WC P bR (.seq ((fn225).body.hd) zN) [] (aU 250 [.agg V.row,.agg x.row]) X (FQ [(4,some (some 7)),(5,none)] (rR B X V (bA V.an x.ev d) (dq V.an x.ev d)));rw[←QV];clear QV;have QU:=@aC.box _ _ o.ok;have hex:=@bg.box _ _ (ox.ext hx);have s:cD B X x V (X++ [.b V.row]++ [.b x.row]++ [.b kH]) V:=by
  exact Qa
 unfold kH at s;generalize hB:zN=R;unfold fn225;simp only[ai.hd];refine Rs (A4 t0 t1 @QU @hex) ?_;rw[←hB];rcases hd with rfl| rfl| rfl| rfl| rfl
 ·exact DW T w ox we nk s Sn Sw (by simp only[aW,bd,bC,bD,reduceAdd,reduceMul,reduceLeDiff,reduceEqDiff,bE,hlen,Yo,Ys];simp) (by simp only[aW,bd,bC,bD,reduceAdd,reduceMul,reduceLeDiff,reduceEqDiff,bE,hlen,Yo,Ys];simp)
 ·exact DU T w ox we nk s Sn Sw (by simp only[aW,bd,bC,bD,reduceAdd,reduceMul,reduceLeDiff,reduceEqDiff,bE,hlen,Yo,Ys];simp) (by simp only[aW,bd,bC,bD,reduceAdd,reduceMul,reduceLeDiff,reduceEqDiff,bE,hlen,Yo,Ys];simp)
 ·exact DV T w ox we nk s Sn Sw (by simp only[aW,bd,bC,bD,reduceAdd,reduceMul,reduceLeDiff,reduceEqDiff,bE,hlen,Yo,Ys];simp) (by simp only[aW,bd,bC,bD,reduceAdd,reduceMul,reduceLeDiff,reduceEqDiff,bE,hlen,Yo,Ys];simp)
 ·exact DX T w ox we nk s Sn Sw (by simp only[aW,bd,bC,bD,reduceAdd,reduceMul,reduceLeDiff,reduceEqDiff,bE,hlen,Yo,Ys];simp) (by simp only[aW,bd,bC,bD,reduceAdd,reduceMul,reduceLeDiff,reduceEqDiff,bE,hlen,Yo,Ys];simp)
 ·exact zM T w ox we nk s Sn Sw (by simp only[aW,bd,bC,bD,reduceAdd,reduceMul,reduceLeDiff,reduceEqDiff,bE,hlen,Yo,Ys];simp) (by simp only[aW,bd,bC,bD,reduceAdd,reduceMul,reduceLeDiff,reduceEqDiff,bE,hlen,Yo,Ys];simp)
end
def eQ.Lf{B W0 W W2 b K U}(s:eQ B W0 b K W U)(hk:∀i,i < W.length→W2[i]? =W[i]?)(hl:W.length≤W2.length)(hx:Ext B W2):eQ B W0 b K W2 U:=by
 refine⟨⟨s.bk.o.au fun i hi=>hk i (s.bk.o.dP hi).2,s.bk.hN,(hk _ s.bk.lt).trans s.bk.m,s.bk.ne⟩,hx,YQ s.ln hl,fun i hi=>?_,s.kl⟩;rw[hk i (YU (s.kl i hi).1 s.ln)];exact s.kp i hi
structure uK(B W Y:ah)(mb:Nat)(c:List AV)(t:AV)(ins:List (By)):Prop where
 k:∀i,i < W.length→Y[i]? =W[i]?
 b:B.length≤W.length
 l:W.length≤mb
 x:Ext B Y
 m:Y[mb]? =some (.b c)
 f:Fr W.length Y t 1 (ins.map ao)
 n:∀i,sB t=some i→i≠mb
def uK.lt{B W Y mb c t ins}(s:uK B W Y mb c t ins):mb < Y.length:=(X1.1 s.m).1
def uK.grow{B W Y Y2 mb c t ins}(s:uK B W Y mb c t ins)(e:Ext Y Y2):uK B W Y2 mb c t ins:=by
 have h1:=s.lt;have h2:=s.l;exact⟨fun i hi=>by rw[e.get Om,s.k i hi],s.b,s.l,s.x.trans e,e.some s.m,s.f.ext e,s.n⟩
theorem uK.set{B W Y mb c t ins}(s:uK B W Y mb c t ins)(c':List AV):uK B W (Y.set mb (.b c')) mb c' t ins:=by
 have h1:=s.lt;have h2:=s.l;have h3:=s.b;exact⟨fun i hi=>by rw[Yj Om,s.k i hi],s.b,s.l,s.x.iK Om,Yl h1,s.f.aB fun i hi=>Yj (Zv (s.n i hi)),s.n⟩
def uK.rc{B X W Y x V mb c t ins}(s:uK B W Y mb c t ins)(r:cD B X x V W V):cD B X x V Y V:=
 eQ.Lf r s.k (by have:=s.lt;have:=s.l;omega) s.x
def uK.st{B W Y mb c t ins}(s:uK B W Y mb c t ins){i v}(hv:v.one=true)(hi:i+1≤c.length):aT 1 (.ptr mb i) v (fun z=>Y[z]?)=some (aA,.set mb (.b (c.set i v))):=
 (aN s.m).trans (bW hv hi)
def wq(k:Nat):ai:=(fn226).body.dr k
def E1(k:Nat):ai:=((fn226).body.dr k).hd
def Pg:wq 1= .seq (E1 1) (wq 2):=rfl
def Is:wq 2= .seq (E1 2) (wq 3):=rfl
def Ph:fn226= ⟨96,2,[(4,some (some 7)),(5,none)],.seq (E1 0) (wq 1)⟩:=rfl
section
variable {P:Program} (T:fy P) {B X W Y:ah} {ts:TS} {V:RV} {x:EV} {mb:Nat}
include T
theorem um(w:fk V.an)(s:cD B X x V W V){y t ins}(hb:uK B W Y mb [.str y.name,.str y.gives,.str y.line,t] t ins)(hy:y.bw=ins)(hlen:ts.length=96)(t2:slot ts 2= .ptr X.length 0)(t4:slot ts 4= .ptr (X.length+2) 0)(t6:slot ts 6= .ptr mb 0):
  WC P bR (wq 3) [] ts Y (FQ [(4,some (some 7)),(5,none)] (rR B X V (if 32≤V.an.aD.length then 5 else 0) { V.an with aD:=V.an.aD++ [y] })):=by
 have sY:=hb.rc s;have oV:=sY.bk.o.ok;have lm:=@fH _ _ _ hb.m;have hml:V.an.aD.length=V.aD.length:=by simp[RV.an]
 have ot:=hb.f.aX.one;obtain⟨lr,le,sb,gm⟩:=cD.fa sY;unfold wq fn226;simp only[ai.j,ai.s,ai.r,ai.dr,ai.tl];by_cases h1:32≤V.aD.length
 case pos=>
  have e1:decide ((32:Int)≤(V.aD.length:Int))=true:=X7 Om;refine Rs (nv t2 t4 t6 @lr @fN oV.i3.aL e1 @aG @sb @gm) ?_;rw[hml,Yh h1];exact Jh
 have e1:decide ((32:Int)≤(V.aD.length:Int))=false:=X3 Om;obtain⟨z,hz⟩:∃z:List AV,z=aV (y,t):=⟨_,rfl⟩;have SN: [AV.str y.name,.str y.gives,.str y.line,t]=z:=by rw[hz];rfl
 refine Rs (A9 t2 t4 t6 @lr @fN oV.i3.aL e1 @lm @ot) ?_;rw[SN];refine WR.pC (B:=B) (cs:=V.aD.map aV) (sY.bk.o.i3) (by rw[hz];rfl) sY.ex De (by rw[Ya];omega) ?_;intro W5 s' x5 hff hn5 q5 l5 hk5;have hrow:V.aD.map aV++ [z]= (V.aD++ [(y,t)]).map aV:=by rw[Yc,hz];rfl
 rw[hrow]at hff;have hlW:W.length≤Y.length:=by have:=hb.lt;have:=hb.l;omega
 have bS:∀i,sB t=some i→sB V.s3≠some i:=fun i hi e=>by
  have h1:=(hb.f.bM hi).1;have h2:=(s.bk.o.dP (b:=i) (by rw[←e];simp[RV.bl])).2;omega
 have f5:Fr B.length W5 t 1 (y.bw.map ao):=by
  rw[hy];exact(hb.f.aB fun i hi=>hk5 i (hb.f.bM hi).2 (bS i hi)).low hb.b
 have s5:cD B X x V (W5.set X.length (.b (V.row.set 4 s'))) { V with aD:=V.aD++ [(y,t)],s3:=s' }:=eQ.p3 s hff f5 (fun i hi=>.inr (by have:=hn5 i hi;omega)) (fun i hi=>⟨(hb.f.bM hi).1,fun e=>by have:=hn5 i e;have:=(hb.f.bM hi).2;omega⟩) (fun i hi hne=>(hk5 i Om hne).trans (hb.k i hi)) x5 Om;have mB:W5[X.length]? =some (.b V.row):=(hk5 _ sY.bk.lt (fun z=>sY.bk.ne (by rw[←z];simp[RV.bl]))).trans sY.bk.m;have SA:aT 1 (.ptr X.length 4) s' (fun z=>W5[z]?)=some (aA,.set X.length (.b (V.row.set 4 s'))):=(aN mB).trans (bW q5 (by show 4+1≤7;omega));refine Rs (A5 t2 t4 t6 @SA q5) ?_;obtain⟨W6,SI⟩:∃Z,Z=W5.set X.length (.b (V.row.set 4 s')):=⟨_,rfl⟩
 rw[←SI]at s5 ⊢;obtain⟨lr,le,sb,gm⟩:=cD.fa s5;refine Rs (A7 t2 t4 t6 @lr @aG @sb @gm) ?_;rw[hml,Yd h1];exact cD.fin s5 (fun _=>by simp only[RV.an,Yc,YY,ZV])
variable {t:AV}
def Am(w:fk V.an)(ox:bg B x)(we:jG x.ev .source)(nk:sG V.an x.ev .source)(s:cD B X x V W V)(hb:uK B W Y mb [.str (aO x.ev 0),.str [],.str [],t] t (x.ev.names.drop 1))(ht:t.one=true)(hlen:ts.length=96)(t2:slot ts 2= .ptr X.length 0)(t3:slot ts 3= .ptr (X.length+1) 0)(t4:slot ts 4= .ptr (X.length+2) 0)(t6:slot ts 6= .ptr mb 0):
  WC P bR (wq 2) [] ts Y (FQ [(4,some (some 7)),(5,none)] (rR B X V (bA V.an x.ev .source) (dq V.an x.ev .source))):=by
 have sY:=hb.rc s;have ow:=ox.ext sY.ex;have oV:=sY.bk.o.ok;have Q0:x.ev.kind=bu .source:=cg we.kd;have lm:=@fH _ _ _ hb.m;obtain⟨lr,le,sb,gm⟩:=cD.fa sY;rw[Is];generalize hR:wq 3=R;unfold E1 fn226;simp only[ai.j,ai.s,ai.r,ai.dr,ai.tl,ai.hd];refine kE (pJ t2 t3 t4 t6 @le @a8 @Q0 @gQ @jT @iY @Yp @Yk) ?_;refine oT (fun g=>cD B X x V g V) ?_;refine c7 sY rfl rfl ?_;refine Rs (A4 t2 t3 t4 t6) ?_;refine kN sY (v:=x.sn) (fun g hg=>?_) ?_
 ·simp only[aW,bd,bC,bD,reduceAdd,reduceMul,reduceLeDiff,reduceEqDiff,bE,hlen,Yo,Ys,t3,cD.le hg (Ext.refl _),aM]
 refine Rs (A4 t2 t3 t4 t6) ?_;have i1:aZ 1 x.sn (.i 1)=_:=(wg ow we (i:=1) De).1;refine c7 sY rfl rfl ?_;refine Rs (A5 t2 t3 t4 t6 @i1) ?_;refine kN sY (v:=.str (aO x.ev 1)) (fun g hg=>?_) ?_
 ·have h9:=@(wg (ox.ext (eQ.ex hg)) we (i:=1) De).2;refine Zs t3 ?_;exact h9 (Ext.refl _)
 refine Rs (A4 t2 t3 t4 t6) ?_;refine c7 sY rfl rfl ?_;refine Rs (A4 t2 t3 t4 t6) ?_;have Rq:=hb.set [.str (aO x.ev 0),.str dO,.str [],t];have kM:aT 1 (.ptr mb 1) (.str [115,104,111,116,115]) (fun z=>Y[z]?)=some (aA,.set mb (.b [.str (aO x.ev 0),.str dO,.str [],t])):=hb.st rfl (by show 1+1≤4;omega);obtain⟨Y1,U3⟩:∃Z,Z=Y.set mb (.b [.str (aO x.ev 0),.str dO,.str [],t]):=⟨_,rfl⟩;rw[←U3]at Rq;refine c7 sY rfl rfl ?_;refine Rs (A5 t2 t3 t4 t6 @kM) ?_;rw[←U3];have S1:=Rq.rc s;refine oS S1 rfl ?_;have RG:=Rq.set [.str (aO x.ev 0),.str dO,.str (aO x.ev 1),t];have eD:aT 1 (.ptr mb 2) (.str (aO x.ev 1)) (fun z=>Y1[z]?)=some (aA,.set mb (.b [.str (aO x.ev 0),.str dO,.str (aO x.ev 1),t])):=Rq.st rfl (by show 2+1≤4;omega)
 have Ub:=RG.set [.str (aO x.ev 0),.str dO,.str (aO x.ev 1),.af];have nH:aT 1 (.ptr mb 3) .af (fun z=>(Y1.set mb (.b [.str (aO x.ev 0),.str dO,.str (aO x.ev 1),t]))[z]?)=some (aA,.set mb (.b [.str (aO x.ev 0),.str dO,.str (aO x.ev 1),.af])):=RG.st rfl (by show 3+1≤4;omega);have hb4:uK B W _ mb [.str (aO x.ev 0),.str dO,.str (aO x.ev 1),.af] .af []:=⟨Ub.k,Ub.b,Ub.l,Ub.x,Ub.m,.nil,fun i hi=>by cases hi⟩;refine Rs (A6 t2 t3 t4 t6 @eD @nH) ?_;rw[←hR];exact um T w s (y:=⟨aO x.ev 0,dO,aO x.ev 1,[]⟩) hb4 rfl Sn (Sq t2) (Sq t4) (Sq t6)
def E0(w:fk V.an)(ox:bg B x)(we:jG x.ev .fP)(nk:sG V.an x.ev .fP)(s:cD B X x V W V)(hb:uK B W Y mb [.str (aO x.ev 0),.str [],.str [],t] t (x.ev.names.drop 1))(ht:t.one=true)(hlen:ts.length=96)(t2:slot ts 2= .ptr X.length 0)(t3:slot ts 3= .ptr (X.length+1) 0)(t4:slot ts 4= .ptr (X.length+2) 0)(t6:slot ts 6= .ptr mb 0):
  WC P bR (wq 2) [] ts Y (FQ [(4,some (some 7)),(5,none)] (rR B X V (bA V.an x.ev .fP) (dq V.an x.ev .fP))):=by
 have sY:=hb.rc s;have ow:=ox.ext sY.ex;have oV:=sY.bk.o.ok;have Q0:x.ev.kind=bu .fP:=cg we.kd;have lm:=@fH _ _ _ hb.m;obtain⟨lr,le,sb,gm⟩:=cD.fa sY;obtain⟨i1,d1⟩:=bI ow we 1 1 rfl De;obtain⟨j1,f1,q1⟩:=cR ow we 1 1 rfl De;have k1:aO x.ev 1∈gP V.an:=nk.kn 1 3 rfl;rw[Is];generalize hR:wq 3=R;unfold E1 fn226;simp only[ai.j,ai.s,ai.r,ai.dr,ai.tl,ai.hd];refine kE (GG @t2 @t3 @t4 @t6 @le @lr @aM @aY @aG @a8 @Q0 @gQ @jT @iY @Yp @Yk @j1 @f1) ?_;refine WF.ce T.c20 (r20 T _ _ _) fun g1=>?_
 obtain⟨Y1,U3⟩:∃Z,Z=Y++g1:=⟨_,rfl⟩;rw[←U3];have hb:=hb.grow (show Ext Y Y1 from⟨g1,U3⟩);have sY:=hb.rc s;have ow:=ox.ext sY.ex;have oV:=sY.bk.o.ok;have lm:=@fH _ _ _ hb.m;obtain⟨lr,le,sb,gm⟩:=cD.fa sY;obtain⟨i1,d1⟩:=bI ow we 1 1 rfl De;obtain⟨j1,f1,q1⟩:=cR ow we 1 1 rfl De;by_cases h1:bh (bG x.ev 1) 1 4=0
 case neg=>
  have e1:decide (bh (bG x.ev 1) 1 4≠0)=true:=X7 h1;refine Rs (A8 t2 t3 t4 e1 @lr @aG @sb @gm) ?_;rw[bA,Yh h1];exact Jh
 have e1:decide (bh (bG x.ev 1) 1 4≠0)=false:=X3 (fun z=>z h1);refine Rs (pJ t2 t3 t4 t6 @le @lr @aM @aY @aG e1 @j1 @f1) ?_;refine WF.ce T.c263 (r263 T _) fun g2=>?_
 obtain⟨Y2,Tq⟩:∃Z,Z=Y1++g2:=⟨_,rfl⟩;rw[←Tq];have hb:=hb.grow (show Ext Y1 Y2 from⟨g2,Tq⟩);have sY:=hb.rc s;have ow:=ox.ext sY.ex;have oV:=sY.bk.o.ok;have lm:=@fH _ _ _ hb.m;obtain⟨lr,le,sb,gm⟩:=cD.fa sY;obtain⟨i1,d1⟩:=bI ow we 1 1 rfl De;obtain⟨j1,f1,q1⟩:=cR ow we 1 1 rfl De;refine Rs (nw t2 t3 t4 t6 @le @lr @aM @aY @aG @i1 @d1) ?_;refine WF.ce T.c264 (r264 T (oV.ext Xx) w.len k1) fun g3=>?_
 obtain⟨Y3,hY3⟩:∃Z,Z=Y2++g3:=⟨_,rfl⟩;rw[←hY3];have hb:=hb.grow (show Ext Y2 Y3 from⟨g3,hY3⟩);have sY:=hb.rc s;have ow:=ox.ext sY.ex;have oV:=sY.bk.o.ok;have lm:=@fH _ _ _ hb.m;obtain⟨lr,le,sb,gm⟩:=cD.fa sY;by_cases h2: (gI V.an (aO x.ev 1)).gives=mL (bG x.ev 1)
 case neg=>
  have e2:decide ((gI V.an (aO x.ev 1)).gives≠mL (bG x.ev 1))=true:=X7 h2;refine Rs (A9 t2 t3 t4 t6 e2 @lr @aG @sb @gm) ?_;rw[bA,Yd (fun z=>z h1),Yh h2];exact Jh
 have e2:decide ((gI V.an (aO x.ev 1)).gives≠mL (bG x.ev 1))=false:=X3 (fun z=>z h2);have Rq:=hb.set [.str (aO x.ev 0),.str (jE (bG x.ev 1)),.str [],t];have kM:aT 1 (.ptr mb 1) (.str (jE (bG x.ev 1))) (fun z=>Y3[z]?)=some (aA,.set mb (.b [.str (aO x.ev 0),.str (jE (bG x.ev 1)),.str [],t])):=hb.st rfl (by show 1+1≤4;omega);refine Rs (A6 t2 t3 t4 t6 e2 @kM) ?_;rw[←hR];have hc:bA V.an x.ev .fP=if 32≤V.an.aD.length then 5 else 0:=by rw[bA,Yd (fun z=>z h1),Yd (fun z=>z h2)]
 rw[hc];exact um T w s (y:=⟨aO x.ev 0,jE (bG x.ev 1),[],x.ev.names.drop 1⟩) Rq rfl Sn (Sq t2) (Sq t4) (Sq t6)
def CL(w:fk V.an)(ox:bg B x)(we:jG x.ev .merge)(nk:sG V.an x.ev .merge)(s:cD B X x V W V)(hb:uK B W Y mb [.str (aO x.ev 0),.str [],.str [],t] t (x.ev.names.drop 1))(ht:t.one=true)(hlen:ts.length=96)(t2:slot ts 2= .ptr X.length 0)(t3:slot ts 3= .ptr (X.length+1) 0)(t4:slot ts 4= .ptr (X.length+2) 0)(t6:slot ts 6= .ptr mb 0):
  WC P bR (wq 2) [] ts Y (FQ [(4,some (some 7)),(5,none)] (rR B X V (bA V.an x.ev .merge) (dq V.an x.ev .merge))):=by
 have sY:=hb.rc s;have ow:=ox.ext sY.ex;have oV:=sY.bk.o.ok;have Q0:x.ev.kind=bu .merge:=cg we.kd;have lm:=@fH _ _ _ hb.m;obtain⟨lr,le,sb,gm⟩:=cD.fa sY;obtain⟨i1,d1⟩:=bI ow we 1 1 rfl De;obtain⟨i2,d2⟩:=bI ow we 2 2 rfl De;have k1:aO x.ev 1∈gP V.an:=nk.kn 1 3 rfl;have k2:aO x.ev 2∈gP V.an:=nk.kn 2 3 rfl;rw[Is];generalize hR:wq 3=R;unfold E1 fn226;simp only[ai.j,ai.s,ai.r,ai.dr,ai.tl,ai.hd];by_cases h1:aO x.ev 1=aO x.ev 2
 case pos=>
  have e1:decide (aO x.ev 1=aO x.ev 2)=true:=X7 h1;refine kE (Jf t2 t3 t4 t6 @le @lr @aM @aY @aG @a8 @Q0 @gQ @jT @iY @Yp @Yk @i1 @d1 @i2 @d2 e1 @sb @gm) ?_;rw[bA,Yh h1];exact Jh
 have e1:decide (aO x.ev 1=aO x.ev 2)=false:=X3 h1;refine kE (Qs @t2 @t3 @t4 @t6 @le @lr @aM @aY @aG @a8 @Q0 @gQ @jT @iY @Yp @Yk @i1 @d1 @i2 @d2 @e1) ?_;refine WF.ce T.c264 (r264 T (oV.ext Xx) w.len k1) fun g2=>?_
 obtain⟨Y1,U3⟩:∃Z,Z=Y++g2:=⟨_,rfl⟩;rw[←U3];have hb:=hb.grow (show Ext Y Y1 from⟨g2,U3⟩);have sY:=hb.rc s;have ow:=ox.ext sY.ex;have oV:=sY.bk.o.ok;have lm:=@fH _ _ _ hb.m;obtain⟨lr,le,sb,gm⟩:=cD.fa sY;have Rq:=hb.set [.str (aO x.ev 0),.str (gI V.an (aO x.ev 1)).gives,.str [],t];have kM:aT 1 (.ptr mb 1) (.str (gI V.an (aO x.ev 1)).gives) (fun z=>Y1[z]?)=some (aA,.set mb (.b [.str (aO x.ev 0),.str (gI V.an (aO x.ev 1)).gives,.str [],t])):=hb.st rfl (by show 1+1≤4;omega);refine Rs (A5 t2 t3 t4 t6 @kM) ?_;obtain⟨Y2,Tq⟩:∃Z,Z=Y1.set mb (.b [.str (aO x.ev 0),.str (gI V.an (aO x.ev 1)).gives,.str [],t]):=⟨_,rfl⟩
 rw[←Tq]at Rq ⊢;have hb:=Rq;obtain⟨Y3,hY3⟩:∃Z,Z=Y2++ []:=⟨_,rfl⟩;rw[Yu]at hY3;rw[←hY3];have hb:=hb.grow (show Ext Y2 Y3 from⟨[],by rw[Yu];exact hY3⟩);have sY:=hb.rc s;have ow:=ox.ext sY.ex;have oV:=sY.bk.o.ok;have lm:=@fH _ _ _ hb.m;obtain⟨lr,le,sb,gm⟩:=cD.fa sY;obtain⟨i1,d1⟩:=bI ow we 1 1 rfl De;obtain⟨i2,d2⟩:=bI ow we 2 2 rfl De;refine Rs (nw t2 t3 t4 t6 @le @lr @aM @aY @aG @i2 @d2) ?_;refine WF.ce T.c264 (r264 T (oV.ext Xx) w.len k2) fun g3=>?_
 obtain⟨Y4,hY4⟩:∃Z,Z=Y3++g3:=⟨_,rfl⟩;rw[←hY4];have hb:=hb.grow (show Ext Y3 Y4 from⟨g3,hY4⟩);have sY:=hb.rc s;have ow:=ox.ext sY.ex;have oV:=sY.bk.o.ok;have lm:=@fH _ _ _ hb.m;obtain⟨lr,le,sb,gm⟩:=cD.fa sY;by_cases h2: (gI V.an (aO x.ev 1)).gives= (gI V.an (aO x.ev 2)).gives
 case neg=>
  have e2:decide ((gI V.an (aO x.ev 2)).gives≠(gI V.an (aO x.ev 1)).gives)=true:=X7 (fun z=>h2 z.symm);refine Rs (nv t2 t3 t4 t6 @lm e2 @lr @aG @sb @gm) ?_;rw[bA,Yd h1,Yh h2];exact Jh
 have e2:decide ((gI V.an (aO x.ev 2)).gives≠(gI V.an (aO x.ev 1)).gives)=false:=X3 (fun z=>z h2.symm);refine Rs (A6 t2 t3 t4 t6 @lm e2) ?_;rw[←hR];have hc:bA V.an x.ev .merge=if 32≤V.an.aD.length then 5 else 0:=by rw[bA,Yd h1,Yd (fun z=>z h2)]
 rw[hc];exact um T w s (y:=⟨aO x.ev 0,(gI V.an (aO x.ev 1)).gives,[],x.ev.names.drop 1⟩) hb rfl Sn (Sq t2) (Sq t4) (Sq t6)
omit T in
theorem F4(o:cG B.length X V)(hx:Ext B X):cD B X x V (X++ [.b V.row]++ [.b x.row]++ [.b kH]) V:=by
 exact Qa
def CJ{d}(hd:d= .source∨d= .fP∨d= .merge)(w:fk V.an)(ox:bg B x)(we:jG x.ev d)(nk:sG V.an x.ev d)(s:cD B X x V W V)(hlen:ts.length=96)(t2:slot ts 2= .ptr X.length 0)(t3:slot ts 3= .ptr (X.length+1) 0)(t4:slot ts 4= .ptr (X.length+2) 0):
  WC P bR (wq 1) [] ts W (FQ [(4,some (some 7)),(5,none)] (rR B X V (bA V.an x.ev d) (dq V.an x.ev d))):=by
 have ow:=ox.ext s.ex;have hn1:1≤x.ev.names.length:=by rw[we.nl];rcases hd with rfl| rfl| rfl<;>decide
 have hn3:x.ev.names.length≤3:=by rw[we.nl];rcases hd with rfl| rfl| rfl<;>decide
 have Uj:0 < (bL d).length:=by rw[←we.nl];exact hn1
 obtain⟨i0,d0⟩:=bI ow we 0 0 rfl Uj;obtain⟨lr,le,sb,gm⟩:=cD.fa s;obtain⟨s',es',QW⟩:=ow.n.FT (lo:=some (.i 1)) (hi:=none) (ml (k:=1) hn1);have et:List.take (x.ev.names.length - 1) (List.drop 1 x.ev.names)=x.ev.names.drop 1:=YN Si;rw[et]at QW;rw[Pg];generalize hR:wq 2=R;unfold E1 fn226;simp only[ai.j,ai.s,ai.r,ai.dr,ai.tl,ai.hd];refine Rs (A8 t2 t3 t4 @le @aM @i0 @d0 @es') ?_;refine WR.pA (N:=W.length) (w:=16) ba (Yg _) (QW.ext Xx) (by simp only[Ya,aak];omega) fun t g f=>?_
 have ot:=f.aX.one;obtain⟨Y,hY⟩:∃Z,Z=W++ [ak.b []]++g:=⟨_,rfl⟩;rw[←hY]at f ⊢;have eY:Ext W Y:=by rw[hY,X4];exact⟨_,rfl⟩
 refine Rs (A4 t2 t3 t4 @ot) ?_;have hb:uK B W (Y++ [ak.b [AV.str (aO x.ev 0),.str [],.str [],t]]) Y.length [AV.str (aO x.ev 0),.str [],.str [],t] t (x.ev.names.drop 1):=by
  refine⟨fun i hi=>?_,s.ex.len,eY.len,s.ex.trans (eY.trans ⟨_,rfl⟩),ba,f.app _,fun i hi e=>?_⟩
  ·rw[X5 (by have:=eY.len;omega),eY.get hi]
  ·have:=(f.bM hi).2;omega
 rw[←hR];rcases hd with rfl| rfl| rfl
 ·exact Am T w ox we nk s hb ot Sn (Sq t2) (Sq t3) (Sq t4) Sw
 ·exact E0 T w ox we nk s hb ot Sn (Sq t2) (Sq t3) (Sq t4) Sw
 ·exact CL T w ox we nk s hb ot Sn (Sq t2) (Sq t3) (Sq t4) Sw
def HU{d}(hd:d= .source∨d= .fP∨d= .merge)(o:cG B.length X V)(w:fk V.an)(hx:Ext B X)(ox:bg B x)(we:jG x.ev d)(nk:sG V.an x.ev d):
  da P 226 [.agg V.row,.agg x.row] X (rR B X V (bA V.an x.ev d) (dq V.an x.ev d)):=by
 refine .of T.mix (aaE T.c226 (YC some Ph)) ?_;obtain⟨ts,QV⟩:∃ts,ts=aU 96 [.agg V.row,.agg x.row]:=⟨_,rfl⟩;have hlen:ts.length=96:=by rw[QV];rfl
 have t0:slot ts 0= .agg V.row:=by rw[QV];rfl
 have t1:slot ts 1= .agg x.row:=by rw[QV];rfl
 show WC P bR (.seq (E1 0) (wq 1)) [] (aU 96 [.agg V.row,.agg x.row]) X (FQ [(4,some (some 7)),(5,none)] (rR B X V (bA V.an x.ev d) (dq V.an x.ev d)));rw[←QV];clear QV;have QU:=@aC.box _ _ o.ok;have hex:=@bg.box _ _ (ox.ext hx);have s:cD B X x V (X++ [.b V.row]++ [.b x.row]++ [.b kH]) V:=F4 o hx;unfold kH at s;generalize hR:wq 1=R;unfold E1 fn226;simp only[ai.dr,ai.hd];refine Rs (A4 t0 t1 @QU @hex) ?_;rw[←hR];exact CJ T hd w ox we nk s Sn Sw (by simp only[aW,bd,bC,bD,reduceAdd,reduceMul,reduceLeDiff,reduceEqDiff,bE,hlen,Yo,Ys];simp) (by simp only[aW,bd,bC,bD,reduceAdd,reduceMul,reduceLeDiff,reduceEqDiff,bE,hlen,Yo,Ys];simp)
end
def Ai(k:Nat):ai:=(fn227).body.dr k
def O7(k:Nat):ai:=((fn227).body.dr k).hd
def O6:fn227= ⟨223,2,[(4,some (some 7)),(5,none)],.seq (O7 0) (Ai 1)⟩:=rfl
structure Pz(V:RV)(n:By)(p:Nat)(J:kU×AV):Prop where
 ps:p=bp (iE V.an) n
 lt:p < V.aH.length
 g:V.aH[p]? =some J
 e:J.1=gu V.an n
 m:J∈V.aH
 i:cU (fun y:kU×AV=>decide (y.1.name=n)) V.aH= (p:Int)
def Oj{V n}(hn:n∈iE V.an):∃p J,Pz V n p J:=by
 have hlt:bp (iE V.an) n < V.aH.length:=by have:=cY hn;simpa [iE,RV.an]using this
 refine⟨_,V.aH[bp (iE V.an) n],rfl,hlt,X6 hlt,?_,Yi _,?_⟩
 ·rw[gu,dh (f:=kU.name) (l:=V.an.aH) (d:=zS) hn];exact Dk
 ·rw[gV];exact e9 (f:=fun y:kU×AV=>y.1.name) (by rw[←gV];exact hn)
theorem Pz.at{V n p J}(j:Pz V n p J):V.aH[p]'j.lt=J:=by
 have:=j.g;rw[X6 j.lt]at this;exact Y6 this
section
variable {P:Program} (T:fy P) {B X W:ah} {ts:TS} {V:RV} {x:EV}
include T
def Iq(w:fk V.an)(ox:bg B x)(we:jG x.ev .rel)(nk:sG V.an x.ev .rel)(s:cD B X x V W V)(hlen:ts.length=223)(t2:slot ts 2= .ptr X.length 0)(t3:slot ts 3= .ptr (X.length+1) 0)(t4:slot ts 4= .ptr (X.length+2) 0):
  WC P bR (Ai 1) [] ts W (FQ [(4,some (some 7)),(5,none)] (rR B X V (bA V.an x.ev .rel) (dq V.an x.ev .rel))):=by
 have ow:=ox.ext s.ex;have oV:=s.bk.o.ok;have Q0:x.ev.kind=bu .rel:=cg we.kd;obtain⟨lr,le,sb,gm⟩:=cD.fa s;obtain⟨i0,d0⟩:=bI ow we 0 0 rfl De;unfold Ai fn227;simp only[ai.j,ai.s,ai.r,ai.dr,ai.tl];have k0:aO x.ev 0∈kX V.an:=nk.kn 0 5 rfl;have hlt:bp (kX V.an) (aO x.ev 0)< V.aQ.length:=by have:=cY k0;simpa [kX,RV.an]using this
 have ei:cU (fun y:qk=>decide (y.name=aO x.ev 0)) V.aQ= (bp (kX V.an) (aO x.ev 0):Int):=e9 (f:=qk.name) k0;have sp:jO V.an (aO x.ev 0)=V.aQ[bp (kX V.an) (aO x.ev 0)]:=dh k0;obtain⟨p,hp⟩:∃p,p=bp (kX V.an) (aO x.ev 0):=⟨_,rfl⟩;rw[←hp]at ei;have hlt:p < V.aQ.length:=by rw[hp];exact hlt
 have sp:jO V.an (aO x.ev 0)=V.aQ[p]:=by rw[sp];congr 1;exact hp.symm
 refine kE (Db @t2 @t3 @t4 @le @lr @a8 @aM @aY @aG @Q0 @eO @Yp @Yk @i0 @d0) ?_;refine WF.ce T.c57 (r57 T (oV.ext Xx) w.len _) fun g1=>?_
 rw[ei];obtain⟨W2,Rz⟩:∃Z,Z=W++g1:=⟨_,rfl⟩;rw[←Rz];have Ri:cD B X x V W2 V:=by rw[Rz];exact eQ.grow s ⟨g1,rfl⟩
 have ow:=ox.ext Ri.ex;have oV:=Ri.bk.o.ok;obtain⟨lr,le,sb,gm⟩:=cD.fa Ri;have ix:aZ 4 V.s5 (.i (p:Int))=some (cV V.s5 4 p,.au):=oV.i5.dI hlt;have l3:∀{k:ah},Ext W2 k→aq none (jv V.s5 4 p 3) (fun b=>k[b]?)=some (.bool (jO V.an (aO x.ev 0)).rel,.au):=fun {k} e=>by rw[sp];exact oV.i5.lG hlt rfl e
 cases h1: (jO V.an (aO x.ev 0)).rel with
 | true=>
  rw[h1]at l3;refine Rs (nv t2 t3 t4 ix @l3 @lr @aG @gT @sb @gm) ?_;rw[bA,Yh h1];exact z91
 | false=>
  rw[h1]at l3;have Sg:bA V.an x.ev .rel=0:=by rw[bA,Yd (by rw[h1];decide)]
  refine Rs (A7 t2 t3 t4 ix @l3 @lr @gT) ?_;refine WR.BU (B:=B) (x':={ V.aQ[p]with rel:=true }) (row:=c9) Ri.bk.o.i5 Ri.ex hlt De rfl rfl ?_;intro W5 x5 l5 hff hk5;have s5:cD B X x V W5 { V with aQ:=V.aQ.set p { V.aQ[p]with rel:=true } }:=eQ.q5 Ri hff (fun i _ hne=>hk5 i hne) x5 Om;obtain⟨lr,_,sb,gm⟩:=cD.fa s5;refine Rs (A7 t2 t3 t4 @lr @aG @sb @gm) ?_;exact Jy
def EE(w:fk V.an)(ox:bg B x)(we:jG x.ev .gh)(nk:sG V.an x.ev .gh)(s:cD B X x V W V)(hlen:ts.length=223)(t2:slot ts 2= .ptr X.length 0)(t3:slot ts 3= .ptr (X.length+1) 0)(t4:slot ts 4= .ptr (X.length+2) 0):
  WC P bR (Ai 1) [] ts W (FQ [(4,some (some 7)),(5,none)] (rR B X V (bA V.an x.ev .gh) (dq V.an x.ev .gh))):=by
 have ow:=ox.ext s.ex;have oV:=s.bk.o.ok;have Q0:x.ev.kind=bu .gh:=cg we.kd;obtain⟨lr,le,sb,gm⟩:=cD.fa s;obtain⟨i0,d0⟩:=bI ow we 0 0 rfl De;obtain⟨i1,d1⟩:=bI ow we 1 1 rfl De;unfold Ai fn227;simp only[ai.j,ai.s,ai.r,ai.dr,ai.tl];have k1:aO x.ev 1∈iE V.an:=nk.kn 1 4 rfl;obtain⟨p,J,jx⟩:=Oj k1;have ix:aZ 3 V.s4 (.i (p:Int))=some (cV V.s4 3 p,.au):=oV.i4.dI jx.lt;refine kE (FN t2 t3 t4 @le @lr @a8 @aM @aY @fZ @aG @Q0 @eO @Yp @Yk @i1 @d1) ?_;refine WF.ce T.c56 (r56 T (oV.ext Xx) w.len _) fun g1=>?_
 rw[jx.i];obtain⟨W2,Rz⟩:∃Z,Z=W++g1:=⟨_,rfl⟩;rw[←Rz];have Ri:cD B X x V W2 V:=by rw[Rz];exact eQ.grow s ⟨g1,rfl⟩
 have ow:=ox.ext Ri.ex;have oV:=Ri.bk.o.ok;obtain⟨lr,le,sb,gm⟩:=cD.fa Ri;obtain⟨i0,d0⟩:=bI ow we 0 0 rfl De;obtain⟨i1,d1⟩:=bI ow we 1 1 rfl De;have ld:∀{k:ah},Ext W2 k→aq (some 3) (cV V.s4 3 p) (fun b=>k[b]?)=some (.agg (bN J),.au):=fun {k} e=>by rw[←jx.at];exact oV.i4.kR jx.lt e
 have oJ:=oV.e4 J jx.m;have oJ1:=oJ.one;have hJ:=w.jb J.1 (Yx jx.m);unfold bN at ld;refine Rs (A6 t2 t3 t4 ix @ld @oJ1) ?_;obtain⟨jb,hjb⟩:∃n,n=W2.length:=⟨_,rfl⟩;rw[←hjb];obtain⟨W3,Rg⟩:∃Z,Z=W2++ [ak.b [AV.str J.1.name,.str J.1.mod,J.2]]:=⟨_,rfl⟩;rw[←Rg];have Rn:cD B X x V W3 V:=by rw[Rg];exact eQ.grow Ri ⟨[ak.b [AV.str J.1.name,.str J.1.mod,J.2]],rfl⟩
 have ow:=ox.ext Rn.ex;have oV:=Rn.bk.o.ok;obtain⟨lr,le,sb,gm⟩:=cD.fa Rn;obtain⟨i0,d0⟩:=bI ow we 0 0 rfl De;obtain⟨i1,d1⟩:=bI ow we 1 1 rfl De;have mj:W3[jb]? =some (.b [AV.str J.1.name,.str J.1.mod,J.2]):=by rw[Rg,hjb];exact ba
 have lj:=@fH _ _ _ mj;have oJ:=oV.e4 J jx.m;refine Rs (nw t2 t3 t4 @le @lr @a8 @aM @aY @aG @i1 @d1) ?_;refine WF.ce T.c265 (r265 T (oV.ext Xx) w.len _) fun g2=>?_
 obtain⟨W4,RO⟩:∃Z,Z=W3++g2:=⟨_,rfl⟩;rw[←RO];have SB:cD B X x V W4 V:=by rw[RO];exact eQ.grow Rn ⟨g2,rfl⟩
 have ow:=ox.ext SB.ex;have oV:=SB.bk.o.ok;obtain⟨lr,le,sb,gm⟩:=cD.fa SB;obtain⟨i0,d0⟩:=bI ow we 0 0 rfl De;obtain⟨i1,d1⟩:=bI ow we 1 1 rfl De;have mj:=(show Ext W3 W4 from⟨g2,RO⟩).some mj;have lj:=@fH _ _ _ mj;have oJ:=oV.e4 J jx.m;cases h1:p9 V.an (aO x.ev 1)with
 | true=>
  refine Rs (A7 t2 t3 t4 @lr @aG @sb @gm) ?_;rw[bA,Yh h1];exact z146
 | false=>
 refine Rs (A5 t2 t3 t4 @lj @oJ1) ?_;refine WF.res T.c60 (r60 T (x:=J) (oJ.ext Xx) Om) ?_;rintro vl g3 RL;obtain⟨W5,Tr⟩:∃Z,Z=W4++g3:=⟨_,rfl⟩;rw[←Tr];have sW5:cD B X x V W5 V:=by rw[Tr];exact eQ.grow SB ⟨g3,rfl⟩
 have ow:=ox.ext sW5.ex;have oV:=sW5.bk.o.ok;obtain⟨lr,le,sb,gm⟩:=cD.fa sW5;obtain⟨i0,d0⟩:=bI ow we 0 0 rfl De;obtain⟨i1,d1⟩:=bI ow we 1 1 rfl De;rw[←Tr]at RL;have mj:=(show Ext W4 W5 from⟨g3,Tr⟩).some mj;have lj:=@fH _ _ _ mj;have oJ:=oV.e4 J jx.m;rw[jx.e]at RL;by_cases h2:cS (gu V.an (aO x.ev 1)).bz 0= []
 case neg=>
  have e2:decide ((0:Int)< ((cS (gu V.an (aO x.ev 1)).bz 0).length:Int))=true:=X7 (by have:=Z0.2 h2;omega);refine Rs (A9 t2 t3 t4 RL.aL e2 @lr @aG @sb @gm) ?_;rw[bA,Yd (by rw[h1];decide),Yh h2];exact cD.fin sW5 (fun z=>absurd z De)
 have e2:decide ((0:Int)< ((cS (gu V.an (aO x.ev 1)).bz 0).length:Int))=false:=X3 (by rw[h2];decide);by_cases h3:16≤V.aQ.length
 case pos=>
  have e3:decide ((16:Int)≤(V.aQ.length:Int))=true:=X7 Om;refine Rs (pJ t2 t3 t4 RL.aL e2 @lr @gT oV.i5.aL e3 @aG @sb @gm) ?_;rw[bA,Yd (by rw[h1];decide),Yd (fun z=>z h2),Yh (show 16≤V.an.aQ.length from h3)];exact cD.fin sW5 (fun z=>absurd z De)
 have e3:decide ((16:Int)≤(V.aQ.length:Int))=false:=X3 Om;have Sg:bA V.an x.ev .gh=0:=by rw[bA,Yd (by rw[h1];decide),Yd (fun z=>z h2),Yd (show ¬16≤V.an.aQ.length from h3)]
 refine Rs (GG t2 t3 t4 @le @lr @a8 @aM @aY RL.aL e2 @gT oV.i5.aL e3 @i0 @d0 @i1 @d1 @lj) ?_;refine WF.ce T.c31 (r31 T (oJ.ext Xx) Om hJ.2.2.2) fun g4=>?_
 rw[jx.e];obtain⟨W6,SI⟩:∃Z,Z=W5++g4:=⟨_,rfl⟩;rw[←SI];have Vt:cD B X x V W6 V:=by rw[SI];exact eQ.grow sW5 ⟨g4,rfl⟩
 have ow:=ox.ext Vt.ex;have oV:=Vt.bk.o.ok;obtain⟨lr,le,sb,gm⟩:=cD.fa Vt;obtain⟨y,hy⟩:∃y:qk,y= ⟨aO x.ev 0,aO x.ev 1,fC (gu V.an (aO x.ev 1)).bz,false⟩:=⟨_,rfl⟩;obtain⟨z,hz⟩:∃z:List AV,z=c9 y:=⟨_,rfl⟩;have SN: [AV.str (aO x.ev 0),.str (aO x.ev 1),.i (fC (gu V.an (aO x.ev 1)).bz),.bool false]=z:=by rw[hz,hy];rfl
 refine Rs (A3 t2 t3 t4) ?_;rw[SN];refine WR.pC (B:=B) (cs:=V.aQ.map c9) (Vt.bk.o.i5) (by rw[hz];rfl) Vt.ex De (by rw[Ya];omega) ?_;intro W7 s' x5 hff hn5 q5 l5 hk5;have hrow:V.aQ.map c9++ [z]= (V.aQ++ [y]).map c9:=by rw[Yc,hz];rfl
 rw[hrow]at hff;have s5:cD B X x V (W7.set X.length (.b (V.row.set 6 s'))) { V with aQ:=V.aQ++ [y],s5:=s' }:=eQ.p5 Vt hff (fun i hi=>.inr (aax (hn5 i hi))) hk5 x5 l5;have mB:W7[X.length]? =some (.b V.row):=(hk5 _ Vt.bk.lt (fun z=>Vt.bk.ne (by rw[←z];simp[RV.bl]))).trans Vt.bk.m;have SA:aT 1 (.ptr X.length 6) s' (fun z=>W7[z]?)=some (aA,.set X.length (.b (V.row.set 6 s'))):=(aN mB).trans (bW q5 (by show 6+1≤7;omega));refine Rs (A5 t2 t3 t4 @SA q5) ?_;obtain⟨W8,hW8⟩:∃Z,Z=W7.set X.length (.b (V.row.set 6 s')):=⟨_,rfl⟩;rw[←hW8]at s5 ⊢;obtain⟨lr,_,sb,gm⟩:=cD.fa s5;refine Rs (A7 t2 t3 t4 @lr @aG @sb @gm) ?_
 rw[Sg];exact cD.fin s5 (fun _=>by rw[hy];rfl)
def EF(w:fk V.an)(ox:bg B x)(we:jG x.ev .fail)(nk:sG V.an x.ev .fail)(s:cD B X x V W V)(hlen:ts.length=223)(t2:slot ts 2= .ptr X.length 0)(t3:slot ts 3= .ptr (X.length+1) 0)(t4:slot ts 4= .ptr (X.length+2) 0):
  WC P bR (Ai 1) [] ts W (FQ [(4,some (some 7)),(5,none)] (rR B X V (bA V.an x.ev .fail) (dq V.an x.ev .fail))):=by
 have ow:=ox.ext s.ex;have oV:=s.bk.o.ok;have Q0:x.ev.kind=bu .fail:=cg we.kd;obtain⟨lr,le,sb,gm⟩:=cD.fa s;obtain⟨i0,d0⟩:=bI ow we 0 0 rfl De;obtain⟨j1,f1,q1⟩:=cR ow we 1 1 rfl De;unfold Ai fn227;simp only[ai.j,ai.s,ai.r,ai.dr,ai.tl];have k0:aO x.ev 0∈iE V.an:=nk.kn 0 4 rfl;obtain⟨p,J,jx⟩:=Oj k0;have ix:aZ 3 V.s4 (.i (p:Int))=some (cV V.s4 3 p,.au):=oV.i4.dI jx.lt;refine kE (Db t2 t3 t4 @le @lr @a8 @aM @aY @aG @Q0 @eO @Yp @Yk @i0 @d0) ?_;refine WF.ce T.c56 (r56 T (oV.ext Xx) w.len _) fun g1=>?_
 rw[jx.i];obtain⟨W2,Rz⟩:∃Z,Z=W++g1:=⟨_,rfl⟩;rw[←Rz];have Ri:cD B X x V W2 V:=by rw[Rz];exact eQ.grow s ⟨g1,rfl⟩
 have ow:=ox.ext Ri.ex;have oV:=Ri.bk.o.ok;obtain⟨lr,le,sb,gm⟩:=cD.fa Ri;obtain⟨i0,d0⟩:=bI ow we 0 0 rfl De;obtain⟨j1,f1,q1⟩:=cR ow we 1 1 rfl De;refine Rs (nw t2 t3 t4 @le @lr @a8 @aM @aY @aG @i0 @d0) ?_;refine WF.ce T.c265 (r265 T (oV.ext Xx) w.len _) fun g2=>?_
 obtain⟨W3,Rg⟩:∃Z,Z=W2++g2:=⟨_,rfl⟩;rw[←Rg];have Rn:cD B X x V W3 V:=by rw[Rg];exact eQ.grow Ri ⟨g2,rfl⟩
 have ow:=ox.ext Rn.ex;have oV:=Rn.bk.o.ok;obtain⟨lr,le,sb,gm⟩:=cD.fa Rn;obtain⟨i0,d0⟩:=bI ow we 0 0 rfl De;obtain⟨j1,f1,q1⟩:=cR ow we 1 1 rfl De;have oJ:=oV.e4 J jx.m;have l2:∀{k:ah},Ext W3 k→aq none (jv V.s4 3 p 2) (fun b=>k[b]?)=some (J.2,.au):=fun {k} e=>oV.i4.lG jx.lt (by rw[jx.at];rfl) e
 cases h1:p9 V.an (aO x.ev 0)with
 | true=>
  refine Rs (A7 t2 t3 t4 @lr @aG @sb @gm) ?_;have hc:bA V.an x.ev .fail=23:=by
   exact z131
  rw[hc];exact Df
 | false=>
 by_cases h2: (J.1.bz.length:Int)≤bG x.ev 1
 case pos=>
  have e2:decide ((J.1.bz.length:Int)≤bG x.ev 1)=true:=X7 h2;refine Rs (GG t2 t3 t4 @le @lr @a8 @aM @aY @fZ @aG @j1 @f1 ix @l2 oJ.aL e2 @sb @gm) ?_;have hc:bA V.an x.ev .fail=3:=by
   exact J1
  rw[hc];exact Df
 have e2:decide ((J.1.bz.length:Int)≤bG x.ev 1)=false:=X3 h2;have hct:jF V.an x.ev=0:=by rw[jF,Yd (by rw[h1];decide),←jx.e,Yd h2]
 have hsl: (bG x.ev 1).toNat < J.1.bz.length:=Om
 have V4:bG x.ev 1= ((bG x.ev 1).toNat:Int):=Om
 have iy:aZ 1 J.2 (.i (bG x.ev 1))=some (cV J.2 1 (bG x.ev 1).toNat,.au):=by
  rw[V4];exact oJ.dI hsl
 have hsu:fE V.an x.ev=J.1.bz[(bG x.ev 1).toNat]:=by
  exact z154
 have lv:∀{k:ah},Ext W3 k→aq none (cV J.2 1 (bG x.ev 1).toNat) (fun b=>k[b]?)=some (.i (fE V.an x.ev),.au):=fun {k} e=>by rw[hsu];exact oJ.ki hsl rfl e
 have UY:cV J.2 1 (bG x.ev 1).toNat=jv J.2 1 (bG x.ev 1).toNat 0:=rfl;by_cases h3:fE V.an x.ev < 0
 case pos=>
  have e3:decide (fE V.an x.ev < 0)=true:=X7 h3;exact Qe
 have e3:decide (fE V.an x.ev < 0)=false:=X3 h3;have Sg:bA V.an x.ev .fail=0:=by rw[bA,Yd (fun z=>z hct),Yd h3]
 repeat (first| simp (config:={ maxSteps:=1000000 }) only[aW,bd,bC,bD,reduceAdd,reduceMul,reduceLeDiff,reduceEqDiff,bE,hlen,Yo,Ys,t2,t3,t4,le,lr,a8,aM,aY,aG,Q0,eO,reduceCtorEq,Yp,Yk,fZ,j1,f1,ix,l2,oJ.aL,e2,iy,lv,e3]| simp (config:={ maxSteps:=1000000 }) (disch:=first| (simp only[X2,X8,X9]<;>omega)| rfl| omega| fail) only[fU,aW,bd,bC,bD,reduceAdd,reduceMul,reduceLeDiff,reduceEqDiff,bE,hlen,Yo,Ys,t2,t3,t4,le,lr,a8,aM,aY,aG,Q0,eO,reduceCtorEq,Yp,Yk,fZ,j1,f1,ix,l2,oJ.aL,e2,iy,lv,e3])
 rw[UY];have hfJ:Fr B.length W3 J.2 1 (J.1.bz.map aJ):=Rn.bk.o.e4 J jx.m;refine WR.BU (B:=B) (x':=(-1:Int)) (row:=aJ) (L:=J.1.bz) hfJ Rn.ex hsl De rfl rfl ?_;intro W5 x5 l5 hff hk5;have s5:cD B X x V W5 { V with aH:=V.aH.set p ({ J.1 with bz:=J.1.bz.set (bG x.ev 1).toNat (-1:Int) },J.2) }:=by
  have XJ: (V.aH[p]'jx.lt).2=J.2:=by rw[jx.at]
  have:=eQ.qJ Rn (W2:=W5) jx.lt (y:={ J.1 with bz:=J.1.bz.set (bG x.ev 1).toNat (-1:Int) }) (by rw[jx.at];exact⟨rfl,rfl⟩) (by rw[XJ];exact hff) (fun i _ hne=>hk5 i (by rw[←XJ];exact hne)) x5 Om;rw[XJ]at this;exact this
 obtain⟨lr,_,sb,gm⟩:=cD.fa s5;refine Rs (A7 t2 t3 t4 @lr @aG @sb @gm) ?_;rw[Sg];refine cD.fin s5 (fun _=>?_);have e:mO V.an x.ev (-1:Int)= (V.aH.set p ({ J.1 with bz:=J.1.bz.set (bG x.ev 1).toNat (-1:Int) },J.2)).map Prod.fst:=by
  rw[mO,←jx.ps,←jx.e,aac];rfl
 rw[dq,e];rfl
def ED(w:fk V.an)(ox:bg B x)(we:jG x.ev .fM)(nk:sG V.an x.ev .fM)(s:cD B X x V W V)(hlen:ts.length=223)(t2:slot ts 2= .ptr X.length 0)(t3:slot ts 3= .ptr (X.length+1) 0)(t4:slot ts 4= .ptr (X.length+2) 0):
  WC P bR (Ai 1) [] ts W (FQ [(4,some (some 7)),(5,none)] (rR B X V (bA V.an x.ev .fM) (dq V.an x.ev .fM))):=by
 have ow:=ox.ext s.ex;have oV:=s.bk.o.ok;have Q0:x.ev.kind=bu .fM:=cg we.kd;obtain⟨lr,le,sb,gm⟩:=cD.fa s;obtain⟨i0,d0⟩:=bI ow we 0 0 rfl De;obtain⟨j1,f1,q1⟩:=cR ow we 1 1 rfl De;obtain⟨j2,f2,q2⟩:=cR ow we 2 2 rfl De;unfold Ai fn227;simp only[ai.j,ai.s,ai.r,ai.dr,ai.tl];have k0:aO x.ev 0∈iE V.an:=nk.kn 0 4 rfl;obtain⟨p,J,jx⟩:=Oj k0;have ix:aZ 3 V.s4 (.i (p:Int))=some (cV V.s4 3 p,.au):=oV.i4.dI jx.lt;refine kE (Db t2 t3 t4 @le @lr @a8 @aM @aY @aG @Q0 @eO @Yp @Yk @i0 @d0) ?_;refine WF.ce T.c56 (r56 T (oV.ext Xx) w.len _) fun g1=>?_
 rw[jx.i];obtain⟨W2,Rz⟩:∃Z,Z=W++g1:=⟨_,rfl⟩;rw[←Rz];have Ri:cD B X x V W2 V:=by rw[Rz];exact eQ.grow s ⟨g1,rfl⟩
 have ow:=ox.ext Ri.ex;have oV:=Ri.bk.o.ok;obtain⟨lr,le,sb,gm⟩:=cD.fa Ri;obtain⟨i0,d0⟩:=bI ow we 0 0 rfl De;obtain⟨j1,f1,q1⟩:=cR ow we 1 1 rfl De;obtain⟨j2,f2,q2⟩:=cR ow we 2 2 rfl De;refine Rs (nw t2 t3 t4 @le @lr @a8 @aM @aY @aG @i0 @d0) ?_;refine WF.ce T.c265 (r265 T (oV.ext Xx) w.len _) fun g2=>?_
 obtain⟨W3,Rg⟩:∃Z,Z=W2++g2:=⟨_,rfl⟩;rw[←Rg];have Rn:cD B X x V W3 V:=by rw[Rg];exact eQ.grow Ri ⟨g2,rfl⟩
 have ow:=ox.ext Rn.ex;have oV:=Rn.bk.o.ok;obtain⟨lr,le,sb,gm⟩:=cD.fa Rn;obtain⟨i0,d0⟩:=bI ow we 0 0 rfl De;obtain⟨j1,f1,q1⟩:=cR ow we 1 1 rfl De;obtain⟨j2,f2,q2⟩:=cR ow we 2 2 rfl De;have oJ:=oV.e4 J jx.m;have l2:∀{k:ah},Ext W3 k→aq none (jv V.s4 3 p 2) (fun b=>k[b]?)=some (J.2,.au):=fun {k} e=>oV.i4.lG jx.lt (by rw[jx.at];rfl) e
 cases h1:p9 V.an (aO x.ev 0)with
 | true=>
  refine Rs (A7 t2 t3 t4 @lr @aG @sb @gm) ?_;have hc:bA V.an x.ev .fM=23:=by
   exact z131
  rw[hc];exact Df
 | false=>
 by_cases h2: (J.1.bz.length:Int)≤bG x.ev 1
 case pos=>
  have e2:decide ((J.1.bz.length:Int)≤bG x.ev 1)=true:=X7 h2;refine Rs (GG t2 t3 t4 @le @lr @a8 @aM @aY @fZ @aG @j1 @f1 ix @l2 oJ.aL e2 @sb @gm) ?_;have hc:bA V.an x.ev .fM=3:=by
   exact J1
  rw[hc];exact Df
 have e2:decide ((J.1.bz.length:Int)≤bG x.ev 1)=false:=X3 h2;have hct:jF V.an x.ev=0:=by rw[jF,Yd (by rw[h1];decide),←jx.e,Yd h2]
 have hsl: (bG x.ev 1).toNat < J.1.bz.length:=Om
 have V4:bG x.ev 1= ((bG x.ev 1).toNat:Int):=Om
 have iy:aZ 1 J.2 (.i (bG x.ev 1))=some (cV J.2 1 (bG x.ev 1).toNat,.au):=by
  rw[V4];exact oJ.dI hsl
 have hsu:fE V.an x.ev=J.1.bz[(bG x.ev 1).toNat]:=by
  exact z154
 have lv:∀{k:ah},Ext W3 k→aq none (cV J.2 1 (bG x.ev 1).toNat) (fun b=>k[b]?)=some (.i (fE V.an x.ev),.au):=fun {k} e=>by rw[hsu];exact oJ.ki hsl rfl e
 have UY:cV J.2 1 (bG x.ev 1).toNat=jv J.2 1 (bG x.ev 1).toNat 0:=rfl;by_cases h3:0≤fE V.an x.ev
 case pos=>
  have e3:decide (0≤fE V.an x.ev)=true:=X7 h3;exact Qe
 have e3:decide (0≤fE V.an x.ev)=false:=X3 h3;have Sg:bA V.an x.ev .fM=0:=by rw[bA,Yd (fun z=>z hct),Yd h3]
 repeat (first| simp (config:={ maxSteps:=1000000 }) only[aW,bd,bC,bD,reduceAdd,reduceMul,reduceLeDiff,reduceEqDiff,bE,hlen,Yo,Ys,t2,t3,t4,le,lr,a8,aM,aY,aG,Q0,eO,reduceCtorEq,Yp,Yk,fZ,j1,f1,j2,f2,ix,l2,oJ.aL,e2,iy,lv,e3]| simp (config:={ maxSteps:=1000000 }) (disch:=first| (simp only[X2,X8,X9]<;>omega)| rfl| omega| fail) only[fU,aW,bd,bC,bD,reduceAdd,reduceMul,reduceLeDiff,reduceEqDiff,bE,hlen,Yo,Ys,t2,t3,t4,le,lr,a8,aM,aY,aG,Q0,eO,reduceCtorEq,Yp,Yk,fZ,j1,f1,j2,f2,ix,l2,oJ.aL,e2,iy,lv,e3])
 rw[UY];have hfJ:Fr B.length W3 J.2 1 (J.1.bz.map aJ):=Rn.bk.o.e4 J jx.m;refine WR.BU (B:=B) (x':=(bG x.ev 2)) (row:=aJ) (L:=J.1.bz) hfJ Rn.ex hsl De rfl rfl ?_;intro W5 x5 l5 hff hk5;have s5:cD B X x V W5 { V with aH:=V.aH.set p ({ J.1 with bz:=J.1.bz.set (bG x.ev 1).toNat (bG x.ev 2) },J.2) }:=by
  have XJ: (V.aH[p]'jx.lt).2=J.2:=by rw[jx.at]
  have:=eQ.qJ Rn (W2:=W5) jx.lt (y:={ J.1 with bz:=J.1.bz.set (bG x.ev 1).toNat (bG x.ev 2) }) (by rw[jx.at];exact⟨rfl,rfl⟩) (by rw[XJ];exact hff) (fun i _ hne=>hk5 i (by rw[←XJ];exact hne)) x5 Om;rw[XJ]at this;exact this
 obtain⟨lr,_,sb,gm⟩:=cD.fa s5;refine Rs (A7 t2 t3 t4 @lr @aG @sb @gm) ?_;rw[Sg];refine cD.fin s5 (fun _=>?_);have e:mO V.an x.ev (bG x.ev 2)= (V.aH.set p ({ J.1 with bz:=J.1.bz.set (bG x.ev 1).toNat (bG x.ev 2) },J.2)).map Prod.fst:=by
  rw[mO,←jx.ps,←jx.e,aac];rfl
 rw[dq,e];rfl
end
structure QS(W Y:ah)(jb:Nat)(c:List AV)(t:AV)(k:Nat):Prop where
 l:W.length≤jb
 x:Ext W Y
 m:Y[jb]? =some (.b (c++ [t]))
 f:Fr W.length Y t 1 ((List.replicate k (-1:Int)).map aJ)
 n:sB t≠some jb
section
variable {P:Program} (T:fy P) {B X W:ah} {ts:TS} {V:RV} {x:EV}
include T
def Ip(w:fk V.an)(ox:bg B x)(we:jG x.ev .run)(nk:sG V.an x.ev .run)(s:cD B X x V W V)(hlen:ts.length=223)(t2:slot ts 2= .ptr X.length 0)(t3:slot ts 3= .ptr (X.length+1) 0)(t4:slot ts 4= .ptr (X.length+2) 0):
  WC P bR (Ai 1) [] ts W (FQ [(4,some (some 7)),(5,none)] (rR B X V (bA V.an x.ev .run) (dq V.an x.ev .run))):=by
 have ow:=ox.ext s.ex;have oV:=s.bk.o.ok;have Q0:x.ev.kind=bu .run:=cg we.kd;obtain⟨lr,le,sb,gm⟩:=cD.fa s;obtain⟨i0,d0⟩:=bI ow we 0 0 rfl De;obtain⟨i1,d1⟩:=bI ow we 1 1 rfl De;obtain⟨j1,f1,q1⟩:=cR ow we 1 1 rfl De;unfold Ai fn227;simp only[ai.j,ai.s,ai.r,ai.dr,ai.tl];have k1:aO x.ev 1∈gP V.an:=nk.kn 1 3 rfl;refine kE (Db t2 t3 t4 @le @lr @a8 @aM @aY @aG @Q0 @eO @Yp @Yk @i1 @d1) ?_;refine WF.res T.c59 (r59 T (oV.ext Xx) w _) ?_;rintro ns g1 hns;obtain⟨W2,Rz⟩:∃Z,Z=W++g1:=⟨_,rfl⟩;rw[←Rz];have Ri:cD B X x V W2 V:=by rw[Rz];exact eQ.grow s ⟨g1,rfl⟩
 have ow:=ox.ext Ri.ex;have oV:=Ri.bk.o.ok;obtain⟨lr,le,sb,gm⟩:=cD.fa Ri;rw[←Rz]at hns;obtain⟨S,hS⟩:∃S,S=iJ V.an (aO x.ev 1):=⟨_,rfl⟩;rw[←hS]at hns;have hSm:∀y∈S,y∈V.an.lines:=fun y hy=>by rw[hS,iJ]at hy;exact(Zk.1 hy).1
 have hSl:S.length≤16:=by
  have h1:S.length≤V.an.lines.length:=by rw[hS,iJ];exact YK _ _
  have:=w.l0;omega
 rw[ZK]at hns;refine Rs (A3 t2 t3 t4) ?_;refine WL.inv T.mix (fun m ts h'=>∃ (k:Nat) (g:ah),k≤S.length∧m=S.length - k∧h' =W2++g∧(∀y∈S.take k,y.acc=true)∧ts.length=223∧slot ts 2= .ptr X.length 0∧slot ts 3= .ptr (X.length+1) 0∧slot ts 4= .ptr (X.length+2) 0∧slot ts 6=ns∧slot ts 7= .i k) S.length
  ⟨0,[],Om,rfl,by rw[Yu],(fun y hy=>by cases hy),Sn,(Sq t2),(Sq t3),(Sq t4),Sw,hP⟩ ?_
 clear t2 t3 t4 hlen;rintro _ ts _ ⟨k,g,hk,rfl,rfl,hsf,hlen,t2,t3,t4,t6,t7⟩;obtain⟨W3,Rg⟩:∃Z,Z=W2++g:=⟨_,rfl⟩;rw[←Rg];have Rn:cD B X x V W3 V:=by rw[Rg];exact eQ.grow Ri ⟨g,rfl⟩
 have ow:=ox.ext Rn.ex;have oV:=Rn.bk.o.ok;obtain⟨lr,le,sb,gm⟩:=cD.fa Rn;have e23:Ext W2 W3:=⟨g,Rg⟩;have hns:=hns.ext e23;by_cases R1:k < S.length
 ·have e3:decide ((k:Int)< S.length)=true:=X7 Om;have e5:=wrapN (n:=k) Om;have iy:=hns.dI (kk:=.i64) R1;obtain⟨y,hy⟩:∃y,y=S[k]:=⟨_,rfl⟩;have SC:y∈V.an.lines:=hSm y (by rw[hy];exact Yi _);have lf:∀{kk:ah},Ext W3 kk→aq none (cV ns 1 k) (fun b=>kk[b]?)=some (.str y.name,.au):=fun {kk} e=>hns.ki R1 (by rw[←hy];rfl) e
  have Tz:y.name∈gE V.an:=Yx SC;have hps:=cY Tz;have Te:bp (gE V.an) y.name < V.lines.length:=by simpa [gE,RV.an]using hps
  have iz:aZ 3 V.s0 (.i ((bp (gE V.an) y.name:Nat):Int))=some (cV V.s0 3 (bp (gE V.an) y.name),.au):=oV.i0.dI Te;have huy:V.lines[bp (gE V.an) y.name]=y:=by
   have a1:dJ V.an y.name=y:=ue w.n0.nd SC;rw[dJ,dh (f:=gM.name) (l:=V.an.lines) (d:=B1) Tz]at a1;exact a1
  have ly:∀{kk:ah},Ext W3 kk→aq none (jv V.s0 3 (bp (gE V.an) y.name) 2) (fun b=>kk[b]?)=some (.bool y.acc,.au):=fun {kk} e=>oV.i0.lG Te (by rw[huy];rfl) e
  refine Rs (pJ t2 t3 t4 t6 t7 hns.aL e3 @lr @ga @aG @iy @lf) ?_;refine WF.ce T.c28 (r28 T (oV.ext Xx) w.len _) fun g3=>?_
  have ej:cU (fun y':gM=>decide (y'.name=y.name)) V.lines= (bp (gE V.an) y.name:Int):=e9 (f:=gM.name) Tz;rw[ej];cases h4:y.acc with
  | false=>
   rw[h4]at ly;refine Rs (pJ t2 t3 t4 t6 t7 @iz @ly @Yz @lr @aG @sb @gm) ?_;rw[bA,Yh (by rw[←hS];exact ZE.2 ⟨y,by rw[hy];exact Yi _,by rw[h4];rfl⟩)];exact cD.fin (eQ.grow Rn ⟨g3,rfl⟩) (fun z=>absurd z De)
  | true=>
   rw[h4]at ly;refine Rs (A9 t2 t3 t4 t6 t7 @iz @ly @Yw e5) ?_;refine⟨_,Om,k+1,g++g3,Om,rfl,by rw[Rg];simp only[X4],?_,rfl⟩;intro y' hy';exact PT
 have e3:decide ((k:Int)< S.length)=false:=X3 Om;have e4:k=S.length:=Om
 rw[e4,YF]at hsf;have hne:¬ (iJ V.an (aO x.ev 1)).any (fun x=>!x.acc)=true:=by
  exact z148
 obtain⟨i0,d0⟩:=bI ow we 0 0 rfl De;obtain⟨i1,d1⟩:=bI ow we 1 1 rfl De;obtain⟨j1,f1,q1⟩:=cR ow we 1 1 rfl De;refine Rs (AF t2 t3 t4 @le @lr @a8 @aM @aY t6 t7 hns.aL e3 @j1 @f1) ?_;refine WF.ce T.c20 (r20 T _ _ _) fun g4=>?_
 obtain⟨W4,RO⟩:∃Z,Z=W3++g4:=⟨_,rfl⟩;rw[←RO];have SB:cD B X x V W4 V:=by rw[RO];exact eQ.grow Rn ⟨g4,rfl⟩
 have ow:=ox.ext SB.ex;have oV:=SB.bk.o.ok;obtain⟨lr,le,sb,gm⟩:=cD.fa SB;obtain⟨i0,d0⟩:=bI ow we 0 0 rfl De;obtain⟨i1,d1⟩:=bI ow we 1 1 rfl De;obtain⟨j1,f1,q1⟩:=cR ow we 1 1 rfl De;by_cases h1:bh (bG x.ev 1) 1 32=0
 case neg=>
  have e1:decide (bh (bG x.ev 1) 1 32≠0)=true:=X7 h1;refine Rs (A8 t2 t3 t4 e1 @lr @aG @sb @gm) ?_;rw[bA,Yd hne,Yh h1];exact z146
 have e1:decide (bh (bG x.ev 1) 1 32≠0)=false:=X3 (fun z=>z h1);have Tg:V.an.aH.length=V.aH.length:=by simp[RV.an]
 by_cases h2:16≤V.aH.length
 case pos=>
  have e2:decide ((16:Int)≤(V.aH.length:Int))=true:=X7 Om;refine Rs (nw t2 t3 t4 e1 @lr @fZ oV.i4.aL e2 @aG @sb @gm) ?_;rw[bA,Yd hne,Yd (fun z=>z h1),Yh (by rw[Tg];exact h2)];exact z146
 have e2:decide ((16:Int)≤(V.aH.length:Int))=false:=X3 Om;have Sg:bA V.an x.ev .run=0:=by rw[bA,Yd hne,Yd (fun z=>z h1),Yd (by rw[Tg];exact h2)]
 have hr:=gk (fun z=>z h1);obtain⟨n,hn⟩:∃n:Nat,n= (bG x.ev 1).toNat:=⟨_,rfl⟩;have hnv:bG x.ev 1= (n:Int):=Om
 have hn32:n≤32:=Om
 obtain⟨jb,hjb⟩:∃n,n=W4.length:=⟨_,rfl⟩;refine Rs (FN t2 t3 t4 @le @lr @a8 @aM @aY e1 @fZ oV.i4.aL e2 @i0 @d0 @i1 @d1) ?_;rw[←hjb];refine WL.inv T.mix (fun m ts Y=>∃ (k:Nat) (t:AV),k≤n∧m=n - k∧QS W4 Y jb [AV.str (aO x.ev 0),.str (aO x.ev 1)] t k∧ts.length=223∧slot ts 2= .ptr X.length 0∧slot ts 3= .ptr (X.length+1) 0∧slot ts 4= .ptr (X.length+2) 0∧slot ts 8= .ptr jb 0∧slot ts 9= .i k) n
  ⟨0,.af,Om,rfl,⟨Om,⟨_,rfl⟩,by rw[hjb];exact ba,.nil,by simp[sB]⟩,Sn,(Sq t2),(Sq t3),(Sq t4),Sw,hP⟩ ?_
 clear t2 t3 t4 t6 t7 hlen;rintro _ ts Y ⟨k',t,hk',rfl,hb,hlen,t2,t3,t4,t8,t9⟩;have sY:cD B X x V Y V:=eQ.grow SB hb.x;have ow:=ox.ext sY.ex;have oV:=sY.bk.o.ok;obtain⟨lr,le,sb,gm⟩:=cD.fa sY;obtain⟨j1,f1,q1⟩:=cR ow we 1 1 rfl De;have lj:=@fH _ _ _ hb.m;have ot:=hb.f.aX.one;have XI:=(X1.1 hb.m).1;by_cases hlt3:k' < n
 ·have e6:decide ((k':Int)< bG x.ev 1)=true:=X7 Om;have e7:IntKind.i64.wrap ((k':Int)+1)= ((k'+1:Nat):Int):=wrapN Om;refine Rs (AF t2 t3 t4 @le @lr @a8 @aM @aY t8 t9 @j1 @f1 e6 @lj) ?_;refine WR.pC (B:=W4) (cs:=(List.replicate k' (-1:Int)).map aJ) hb.f rfl hb.x De (by simp only[Ya,Ze];omega) ?_;intro W5 s' x5 hff hn5 q5 l5 hk5;have hrow: (List.replicate k' (-1:Int)).map aJ++ [[AV.i (-1)]]= (List.replicate (k'+1) (-1:Int)).map aJ:=by rw[List.replicate_succ',Yc];rfl
  rw[hrow]at hff;have m5:W5[jb]? =some (.b [AV.str (aO x.ev 0),.str (aO x.ev 1),t]):=(hk5 jb XI hb.n).trans hb.m;have SA:aT 1 (.ptr jb 2) s' (fun z=>W5[z]?)=some (aA,.set jb (.b [AV.str (aO x.ev 0),.str (aO x.ev 1),s'])):=(aN m5).trans (bW q5 (by show 2+1≤3;omega));have hs'j:∀i,sB s' =some i→i≠jb:=fun i hi=>by have:=hn5 i hi;omega
  refine Rs (A8 t2 t3 t4 t8 t9 @SA q5 e7) ?_;refine⟨_,Om,k'+1,s',Om,rfl,⟨hb.l,x5.iK hb.l,Yl Om,hff.aB fun i hi=>Yj (Zv (hs'j i hi)),fun e=>hs'j _ e rfl⟩,rfl⟩
 ·have e6:decide ((k':Int)< bG x.ev 1)=false:=X3 Om;have ekn:k' =n:=Om
  obtain⟨y,hy⟩:∃y:kU,y= ⟨aO x.ev 0,aO x.ev 1,List.replicate n (-1)⟩:=⟨_,rfl⟩;obtain⟨z,hz⟩:∃z:List AV,z=bN (y,t):=⟨_,rfl⟩;have SN: [AV.str (aO x.ev 0),.str (aO x.ev 1),t]=z:=by rw[hz,hy];rfl
  have hbf:=hb.f;rw[ekn]at hbf;refine Rs (FN t2 t3 t4 @le @lr @a8 @aM @aY t8 t9 @j1 @f1 e6 @fZ @lj @ot) ?_;rw[SN];refine WR.pC (B:=B) (cs:=V.aH.map bN) (sY.bk.o.i4) (by rw[hz];rfl) sY.ex De (by rw[Ya];omega) ?_;intro W5 s' x5 hff hn5 q5 l5 hk5;have hrow:V.aH.map bN++ [z]= (V.aH++ [(y,t)]).map bN:=by rw[Yc,hz];rfl
  rw[hrow]at hff;have hlW:W4.length≤Y.length:=hb.x.len;have bS:∀i,sB t=some i→sB V.s4≠some i:=fun i hi e=>by
   have h1:=(hbf.bM hi).1;have h2:=(SB.bk.o.dP (b:=i) (by rw[←e];simp[RV.bl])).2;omega
  have f5:Fr B.length W5 t 1 (y.bz.map aJ):=by
   rw[hy];exact(hbf.aB fun i hi=>hk5 i (hbf.bM hi).2 (bS i hi)).low SB.ex.len
  have s5:cD B X x V (W5.set X.length (.b (V.row.set 5 s'))) { V with aH:=V.aH++ [(y,t)],s4:=s' }:=eQ.p4 SB hff f5 (fun i hi=>.inr (by have:=hn5 i hi;omega)) (fun i hi=>⟨(hbf.bM hi).1,fun e=>by have:=hn5 i e;have:=(hbf.bM hi).2;omega⟩) (fun i hi hne=>(hk5 i Om hne).trans (hb.x.get hi)) x5 Om;have mB:W5[X.length]? =some (.b V.row):=(hk5 _ sY.bk.lt (fun z=>sY.bk.ne (by rw[←z];simp[RV.bl]))).trans sY.bk.m;have SA:aT 1 (.ptr X.length 5) s' (fun z=>W5[z]?)=some (aA,.set X.length (.b (V.row.set 5 s'))):=(aN mB).trans (bW q5 (by show 5+1≤7;omega));refine Rs (A7 t2 t3 t4 t8 t9 @SA q5) ?_
  obtain⟨W6,SI⟩:∃Z,Z=W5.set X.length (.b (V.row.set 5 s')):=⟨_,rfl⟩;rw[←SI]at s5 ⊢;obtain⟨lr,_,sb,gm⟩:=cD.fa s5;refine Rs (A9 t2 t3 t4 t8 t9 @lr @aG @sb @gm) ?_;rw[Sg];exact cD.fin s5 (fun _=>by simp only[RV.an,Yc,YY,ZV,dq,hy,hn])
def Cj{d}(hd:d= .run∨d= .fM∨d= .fail∨d= .gh∨d= .rel)(o:cG B.length X V)(w:fk V.an)(hx:Ext B X)(ox:bg B x)(we:jG x.ev d)(nk:sG V.an x.ev d):
  da P 227 [.agg V.row,.agg x.row] X (rR B X V (bA V.an x.ev d) (dq V.an x.ev d)):=by
 refine .of T.mix (aaE T.c227 (YC some O6)) ?_;obtain⟨ts,QV⟩:∃ts,ts=aU 223 [.agg V.row,.agg x.row]:=⟨_,rfl⟩;have hlen:ts.length=223:=by rw[QV];rfl
 have t0:slot ts 0= .agg V.row:=by rw[QV];rfl
 have t1:slot ts 1= .agg x.row:=by rw[QV];rfl
 show WC P bR (.seq (O7 0) (Ai 1)) [] (aU 223 [.agg V.row,.agg x.row]) X (FQ [(4,some (some 7)),(5,none)] (rR B X V (bA V.an x.ev d) (dq V.an x.ev d)));rw[←QV];clear QV;have QU:=@aC.box _ _ o.ok;have hex:=@bg.box _ _ (ox.ext hx);have s:cD B X x V (X++ [.b V.row]++ [.b x.row]++ [.b kH]) V:=F4 o hx;unfold kH at s;generalize hR:Ai 1=R;unfold O7 fn227;simp only[ai.dr,ai.hd];refine Rs (A4 t0 t1 @QU @hex) ?_;rw[←hR];rcases hd with rfl| rfl| rfl| rfl| rfl
 ·exact Ip T w ox we nk s Sn Sw (by simp only[aW,bd,bC,bD,reduceAdd,reduceMul,reduceLeDiff,reduceEqDiff,bE,hlen,Yo,Ys];simp) (by simp only[aW,bd,bC,bD,reduceAdd,reduceMul,reduceLeDiff,reduceEqDiff,bE,hlen,Yo,Ys];simp)
 ·exact ED T w ox we nk s Sn Sw (by simp only[aW,bd,bC,bD,reduceAdd,reduceMul,reduceLeDiff,reduceEqDiff,bE,hlen,Yo,Ys];simp) (by simp only[aW,bd,bC,bD,reduceAdd,reduceMul,reduceLeDiff,reduceEqDiff,bE,hlen,Yo,Ys];simp)
 ·exact EF T w ox we nk s Sn Sw (by simp only[aW,bd,bC,bD,reduceAdd,reduceMul,reduceLeDiff,reduceEqDiff,bE,hlen,Yo,Ys];simp) (by simp only[aW,bd,bC,bD,reduceAdd,reduceMul,reduceLeDiff,reduceEqDiff,bE,hlen,Yo,Ys];simp)
 ·exact EE T w ox we nk s Sn Sw (by simp only[aW,bd,bC,bD,reduceAdd,reduceMul,reduceLeDiff,reduceEqDiff,bE,hlen,Yo,Ys];simp) (by simp only[aW,bd,bC,bD,reduceAdd,reduceMul,reduceLeDiff,reduceEqDiff,bE,hlen,Yo,Ys];simp)
 ·exact Iq T w ox we nk s Sn Sw (by simp only[aW,bd,bC,bD,reduceAdd,reduceMul,reduceLeDiff,reduceEqDiff,bE,hlen,Yo,Ys];simp) (by simp only[aW,bd,bC,bD,reduceAdd,reduceMul,reduceLeDiff,reduceEqDiff,bE,hlen,Yo,Ys];simp)
end
def uu(k:Nat):ai:=(fn129).body.dr k
def CY(k:Nat):ai:=((fn129).body.dr k).hd
def Pr:fn129= ⟨63,2,[(4,some (some 7)),(5,none)],.seq (CY 0) (uu 1)⟩:=rfl
def Ma:uu 1= .seq (CY 1) (uu 2):=rfl
def Pq:uu 2= .seq (CY 2) (uu 3):=rfl
def Pp:uu 3= .seq (CY 3) (uu 4):=rfl
def Po:uu 4= .seq (CY 4) (uu 5):=rfl
def Jd(h:ah)(c:Int)(R':eX):AV→ah→Prop:=fun v k=>Ext h k∧∃V':RV,v= .dL [.agg V'.row,.i c]∧aC k V'∧(c=0→V'.an=R'∧∀i,some i∈V'.bl→h.length≤i)
def aC.I4{h:ah}{V:RV}(o:aC h V){W:ah}{b:Nat}(hz:W[b]? =some (.b kH)):aT 7 (.ptr b 0) (.agg V.row) (fun z=>W[z]?)=some (aA,.set b (.b V.row)):=by
 have h1:=@aN 7 b 0 (.agg V.row) (fun z=>W[z]?) _ hz;have st:=@aC.st _ _ o;unfold kH at h1;rw[st]at h1;exact h1
def aC.Qy{h:ah}{V U:RV}(o:aC h V){W:ah}{b:Nat}(hz:W[b]? =some (.b U.row)):aT 7 (.ptr b 0) (.agg V.row) (fun z=>W[z]?)=some (aA,.set b (.b V.row)):=by
 have h1:=@aN 7 b 0 (.agg V.row) (fun z=>W[z]?) _ hz;rw[h1];exact o.st
def n6{W:ah}{b:Nat}{V:RV}(hb:b < W.length):aq (some 7) (.ptr b 0) (fun z=>(W.set b (.b V.row))[z]?)=some (.agg V.row,.au):=by
 rw[az (Yl hb)];rfl
section
variable {P:Program} (T:fy P) {h K:ah} {ts:TS} {V U:RV} {x:EV}
include T
def IF{d:Kd}{ob:Nat}{c:Int}{R':eX}(we:jG x.ev d)(hd:d≠.ee)(ox:bg h x)(hx:Ext h K)(hob:h.length+2 < ob)(mo:K[ob]? =some (.b U.row))(me:K[h.length+1]? =some (.b x.row))(mr:K[h.length+2]? =some (.b kH))
  (oU:aC K U) (hU:∀i,some i∈U.bl→h.length+2 < i∧i≠ob) (hc:c=0→{ U.an with tick:=bG x.ev 0 } =R') (hlen:ts.length=63) (t3:slot ts 3= .ptr (h.length+1) 0) (t4:slot ts 4= .ptr (h.length+2) 0) (t7:slot ts 7= .ptr ob 0) (t8:slot ts 8= .i c):
  WC P bR (uu 5) [] ts K (FQ [(4,some (some 7)),(5,none)] (Jd h c R')):=by
 have:=T.mix;have hv0:0 < cB d:=by cases d<;>first| exact absurd rfl hd| decide
 have ow:=ox.ext hx;obtain⟨j0,f0,_⟩:=cR ow we 0 0 rfl hv0;have le:=@fH _ _ _ me;obtain⟨V2,hV2⟩:∃V2:RV,V2={ U with tick:=bG x.ev 0 }:=⟨_,rfl⟩;have hrow:U.row.set 0 (.i (bG x.ev 0))=V2.row:=by rw[hV2];rfl
 have sbo:aT 1 (.ptr ob 0) (.i (bG x.ev 0)) (fun z=>K[z]?)=some (aA,.set ob (.b V2.row)):=by
  rw[←hrow];exact(aN mo).trans (bW rfl (by show 0+1≤7;omega))
 unfold uu fn129;simp only[ai.j,ai.s,ai.r,ai.dr,ai.tl];refine Rs (A9 t3 t4 t7 t8 @le @aY @j0 @f0 @sbo) ?_;have hbo:=(X1.1 mo).1;have hbr:=(X1.1 mr).1;obtain⟨K1,Uq⟩:∃Z,Z=K.set ob (.b V2.row):=⟨_,rfl⟩;rw[←Uq];have mo1:K1[ob]? =some (.b V2.row):=by rw[Uq];exact Yl hbo
 have mr1:K1[h.length+2]? =some (.b kH):=by rw[Uq,Yj Om];exact mr
 have l1:K1.length=K.length:=by rw[Uq,YL]
 have lo:=@fH _ _ _ mo1;have oV:aC K V2:=by rw[hV2];exact⟨oU.i0,oU.i1,oU.i2,oU.i3,oU.i4,oU.i5,oU.e2,oU.e3,oU.e4⟩
 have sb:=oV.I4 mr1;have gm:=n6 (W:=K1) (b:=h.length+2) (V:=V2) Om;refine Rs (A8 t3 t4 t7 t8 @lo @aG @sb @gm) ?_;refine⟨?_,V2,rfl,oV.au fun i hi=>?_,fun z=>⟨by rw[←hc z,hV2];rfl,fun i hi=>?_⟩⟩
 ·rw[Uq];exact(hx.iK Om).iK Om
 ·have:some i∈U.bl:=by rw[hV2]at hi;exact hi
  have:=hU i this;rw[Yj Om,Uq,Yj Om]
 ·have:some i∈U.bl:=by rw[hV2]at hi;exact hi
  have:=hU i this;omega
def L9{d:Kd}{B X:ah}{ob:Nat}(we:jG x.ev d)(hd:d≠.ee)(nk:sG U.an x.ev d)(w:fk U.an)(ox:bg h x)(hB:Ext h B)(hx:Ext B X)(hob:ob < X.length)(hbo:B.length≤ob)(hBl:h.length+3≤B.length)(mo:X[ob]? =some (.b U.row))(me:B[h.length+1]? =some (.b x.row))(mr:B[h.length+2]? =some (.b kH))
  (o:cG B.length X U) (hU:some ob∉U.bl) (hlen:ts.length=63) (t3:slot ts 3= .ptr (h.length+1) 0) (t4:slot ts 4= .ptr (h.length+2) 0) (t7:slot ts 7= .ptr ob 0):
  WC P bR (uu 4) [] ts X (FQ [(4,some (some 7)),(5,none)] (Jd h (bA U.an x.ev d) (ke U.an x.ev d))):=by
 have Q0:x.ev.kind=bu d:=cg we.kd;have le:∀{k n a},Ext X k→aq n (.ptr (h.length+1) a) (fun z=>k[z]?)=dE n a (.b x.row):=fun {_ _ _} e=>az ((hx.trans e).some me)
 have lo:=@fH _ _ _ mo;have oB:=ox.ext hB;rw[Po];generalize hR:uu 5=R;unfold CY fn129;simp only[ai.j,ai.s,ai.r,ai.dr,ai.tl,ai.hd];have fin:∀{v:AV} {k:ah},rR B X U (bA U.an x.ev d) (dq U.an x.ev d) v k→∃V2:RV,v= .dL [.agg V2.row,.i (bA U.an x.ev d)]∧aT 7 (.ptr ob 0) (.agg V2.row) (fun z=>k[z]?)=some (aA,.set ob (.b V2.row))∧
   (∀ts':TS,ts'.length=63→slot ts' 3= .ptr (h.length+1) 0→slot ts' 4= .ptr (h.length+2) 0→slot ts' 7= .ptr ob 0→slot ts' 8= .i (bA U.an x.ev d)→WC P bR R [] ts' (k.set ob (.b V2.row)) (FQ [(4,some (some 7)),(5,none)] (Jd h (bA U.an x.ev d) (ke U.an x.ev d)))):=by
  rintro v k ⟨x1,hl,hfr,V2,rfl,o2,hc,hlo⟩;have mo2:k[ob]? =some (.b U.row):=(hfr ob hob hU).trans mo;have hV2:∀i,some i∈V2.bl→B.length≤i∧i≠ob:=fun i hi=>⟨(o2.dP hi).1,fun e=>by
   subst e;rcases hlo _ hi with z| z
   ·exact hU z
   ·omega⟩
  refine⟨V2,rfl,o2.ok.Qy mo2,fun ts' Q7 u3 u4 u7 u8=>?_⟩;rw[←hR];refine IF T we hd ox ((hB.trans x1).iK Om) Om (Yl (X1.1 mo2).1) ?_ ?_ (o2.ok.au fun i hi=>?_) (fun i hi=>?_) (fun z=>?_) Q7 u3 u4 u7 u8
  ·rw[Yj Om];exact x1.some me
  ·rw[Yj Om];exact x1.some mr
  ·rw[Yj (Zv (hV2 i hi).2)]
  ·have:=hV2 i hi;exact⟨Om,this.2⟩
  ·rw[hc z];rfl
 cases d with
 | ee=>exact absurd rfl hd
 | line=>
  refine kE (pJ @t3 @t4 @t7 @le @lo @a8 @cj @aG @Q0 @eO @Yp @Yk) ?_;refine WF.gen T.c225 (Ck T (d:=.line) De o w hx oB we nk) ?_;intro v k hv;exact z3
 | tape=>
  refine kE (pJ @t3 @t4 @t7 @le @lo @a8 @cj @aG @Q0 @eO @Yp @Yk) ?_;refine WF.gen T.c225 (Ck T (d:=.tape) De o w hx oB we nk) ?_;intro v k hv;exact z3
 | gg=>
  refine kE (pJ @t3 @t4 @t7 @le @lo @a8 @cj @aG @Q0 @eO @Yp @Yk) ?_;refine WF.gen T.c225 (Ck T (d:=.gg) De o w hx oB we nk) ?_;intro v k hv;exact z3
 | copy=>
  refine kE (pJ @t3 @t4 @t7 @le @lo @a8 @cj @aG @Q0 @eO @Yp @Yk) ?_;refine WF.gen T.c225 (Ck T (d:=.copy) De o w hx oB we nk) ?_;intro v k hv;exact z3
 | accept=>
  refine kE (pJ @t3 @t4 @t7 @le @lo @a8 @cj @aG @Q0 @eO @Yp @Yk) ?_;refine WF.gen T.c225 (Ck T (d:=.accept) De o w hx oB we nk) ?_;intro v k hv;exact z3
 | source=>
  refine kE (pJ @t3 @t4 @t7 @le @lo @a8 @cj @aG @Q0 @eO @Yp @Yk) ?_;refine WF.gen T.c226 (HU T (d:=.source) De o w hx oB we nk) ?_;intro v k hv;exact z3
 | fP=>
  refine kE (pJ @t3 @t4 @t7 @le @lo @a8 @cj @aG @Q0 @eO @Yp @Yk) ?_;refine WF.gen T.c226 (HU T (d:=.fP) De o w hx oB we nk) ?_;intro v k hv;exact z3
 | merge=>
  refine kE (pJ @t3 @t4 @t7 @le @lo @a8 @cj @aG @Q0 @eO @Yp @Yk) ?_;refine WF.gen T.c226 (HU T (d:=.merge) De o w hx oB we nk) ?_;intro v k hv;exact z3
 | run=>
  refine kE (pJ @t3 @t4 @t7 @le @lo @a8 @cj @aG @Q0 @eO @Yp @Yk) ?_;refine WF.gen T.c227 (Cj T (d:=.run) De o w hx oB we nk) ?_;intro v k hv;exact z3
 | fM=>
  refine kE (pJ @t3 @t4 @t7 @le @lo @a8 @cj @aG @Q0 @eO @Yp @Yk) ?_;refine WF.gen T.c227 (Cj T (d:=.fM) De o w hx oB we nk) ?_;intro v k hv;exact z3
 | fail=>
  refine kE (pJ @t3 @t4 @t7 @le @lo @a8 @cj @aG @Q0 @eO @Yp @Yk) ?_;refine WF.gen T.c227 (Cj T (d:=.fail) De o w hx oB we nk) ?_;intro v k hv;exact z3
 | gh=>
  refine kE (pJ @t3 @t4 @t7 @le @lo @a8 @cj @aG @Q0 @eO @Yp @Yk) ?_;refine WF.gen T.c227 (Cj T (d:=.gh) De o w hx oB we nk) ?_;intro v k hv;exact z3
 | rel=>
  refine kE (pJ @t3 @t4 @t7 @le @lo @a8 @cj @aG @Q0 @eO @Yp @Yk) ?_;refine WF.gen T.c227 (Cj T (d:=.rel) De o w hx oB we nk) ?_;intro v k hv;exact z3
def IE{d:Kd}{H:ah}(hH:H=h++ [ak.b V.row]++ [.b x.row]++ [.b kH])(o:aC h V)(w:fk V.an)(ox:bg h x)(we:jG x.ev d)(hd:d≠.ee)(hlen:ts.length=63)(t2:slot ts 2= .ptr h.length 0)(t3:slot ts 3= .ptr (h.length+1) 0)(t4:slot ts 4= .ptr (h.length+2) 0):
  WC P bR (uu 1) [] ts H (FQ [(4,some (some 7)),(5,none)] (Jd h (gK V.an x.ev d) (ke V.an x.ev d))):=by
 have hv0:0 < cB d:=by cases d<;>first| exact absurd rfl hd| decide
 have Rx:Ext h H:=by rw[hH];exact Xx
 have Ur:H.length=h.length+3:=by rw[hH];simp
 have mV:H[h.length]? =some (.b V.row):=by rw[hH];simp
 have me:H[h.length+1]? =some (.b x.row):=by rw[hH];simp
 have mr:H[h.length+2]? =some (.b kH):=by rw[hH];simp
 clear hH;have ow:=ox.ext Rx;have oW:=o.ext Rx;obtain⟨j0,f0,_⟩:=cR ow we 0 0 rfl hv0;have lr:=@fH _ _ _ mV;have le:=@fH _ _ _ me;have sb:∀{k},Ext H k→aT 7 (.ptr (h.length+2) 0) (.agg V.row) (fun z=>k[z]?)=some (aA,.set (h.length+2) (.b V.row)):=fun {_} e=>(o.ext (Rx.trans e)).I4 (e.some mr)
 have gm:∀{k},Ext H k→aq (some 7) (.ptr (h.length+2) 0) (fun z=>(k.set (h.length+2) (.b V.row))[z]?)=some (.agg V.row,.au):=fun {_} e=>n6 (by have:=e.len;omega)
 have XX:∀{k:ah} {c:Int},Ext H k→gK V.an x.ev d=c→c≠0→Jd h (gK V.an x.ev d) (ke V.an x.ev d) (.dL [.agg V.row,.i c]) (k.set (h.length+2) (.b V.row)):=by
  intro k c e hc h0;refine⟨(Rx.trans e).iK Om,V,by rw[hc],?_,fun z=>absurd (hc.symm.trans z) h0⟩;exact o.sub fun b c' mu tl hb=>by
   have hlt:=(X1.1 hb).1;rw[Yj Om];exact(Rx.trans e).some hb
 by_cases h1:bG x.ev 0 < V.an.tick
 ·have e1:decide (bG x.ev 0 < V.tick)=true:=X7 h1;rw[Ma];generalize hR:uu 2=R;unfold CY fn129;simp only[ai.j,ai.s,ai.r,ai.dr,ai.tl,ai.hd];refine Rs (GH t2 t3 t4 @le @lr @aY @sS @aG @j0 @f0 e1 @sb @gm) ?_;exact XX (.refl _) (by rw[gK,Yh h1]) De
 have e1:decide (bG x.ev 0 < V.tick)=false:=X3 h1;rw[Ma,Pq];generalize hR:uu 3=R;unfold CY fn129;simp only[ai.j,ai.s,ai.r,ai.dr,ai.tl,ai.hd];refine Rs (pJ t2 t3 t4 @le @lr @aY @cj @sS @aG @j0 @f0 e1) ?_;refine WF.ce T.c223 (r223 T (d:=d) (oW.ext Xx) w.len (ow.ext Xx) we) fun g1=>?_
 by_cases h2:kP d V.an x.ev=0
 case neg=>
  have e2:decide (kP d V.an x.ev≠0)=true:=X7 h2;refine Rs (A8 t2 t3 t4 e2 @lr @aG @sb @gm) ?_;have ef:=XX (k:=H++g1) (c:=kP d V.an x.ev) ⟨g1,rfl⟩ (by rw[gK,Yd h1,Yh h2]) h2;rw[List.set_append_left _ _ Om]at ef;exact ef
 have e2:decide (kP d V.an x.ev≠0)=false:=X3 (fun z=>z h2);have hes:gK V.an x.ev d=bA V.an x.ev d:=by rw[gK,Yd h1,Yd (fun z=>z h2)]
 rw[hes];refine Rs (A4 t2 t3 t4 e2) ?_;rw[←hR];obtain⟨B,hB⟩:∃B,B=H++g1:=⟨_,rfl⟩;rw[←hB];have eB:Ext H B:=⟨g1,hB⟩;have lr:∀{k n a},Ext B k→aq n (.ptr h.length a) (fun z=>k[z]?)=dE n a (.b V.row):=fun {_ _ _} e=>az (e.some (eB.some mV))
 clear sb gm XX le f0 j0 e1 e2;rw[Pp];generalize hR:uu 4=R;unfold CY fn129;simp only[ai.j,ai.s,ai.r,ai.dr,ai.tl,ai.hd];refine Rs (A5 t2 t3 t4 @lr @aG) ?_;refine WF.res T.c224 (r224 T (oW.ext eB) w) ?_;rintro _ g2 ⟨U,hU,rfl,own⟩;have QU:=@aC.box _ _ own.ok;have st:=@aC.st _ _ own.ok;refine Rs (A5 t2 t3 t4 @QU @st) ?_;obtain⟨X0,hX0⟩:∃Z,Z=B++g2:=⟨_,rfl⟩;rw[←hX0]at own ⊢;have e0:Ext B X0:=⟨g2,hX0⟩;rw[←hR,←hU];refine L9 T (ob:=X0.length) we hd (by rw[hU];exact yS h2) (by rw[hU];exact w) ox (Rx.trans eB) (e0.trans ⟨_,rfl⟩) Si e0.len (by have:=eB.len;omega) ba (eB.some me) (eB.some mr) (own.app _) (fun hi=>?_) Sn (Sq t3) (Sq t4) Sw
 have:=(own.dP hi).2;omega
def r129{d}(o:aC h V)(w:fk V.an)(ox:bg h x)(we:jG x.ev d)(hd:d≠.ee):ay P 129 [.agg V.row,.agg x.row] h (fun v k=>∃V':RV,v= .dL [.agg V'.row,.i (gK V.an x.ev d)]∧aC k V'∧(gK V.an x.ev d=0→V'.an=ke V.an x.ev d∧∀i,some i∈V'.bl→h.length≤i)):=by
 refine .of T.mix (aaE T.c129 (YC some Pr)) ?_;obtain⟨ts,QV⟩:∃ts,ts=aU 63 [.agg V.row,.agg x.row]:=⟨_,rfl⟩;have hlen:ts.length=63:=by rw[QV];rfl
 have t0:slot ts 0= .agg V.row:=by rw[QV];rfl
 have t1:slot ts 1= .agg x.row:=by rw[QV];rfl
 show WC P bR (.seq (CY 0) (uu 1)) [] (aU 63 [.agg V.row,.agg x.row]) h (FQ [(4,some (some 7)),(5,none)] (Jd h (gK V.an x.ev d) (ke V.an x.ev d)));rw[←QV];clear QV;have QU:=@aC.box _ _ o;have hex:=@bg.box _ _ ox;generalize hR:uu 1=R;unfold CY fn129;simp only[ai.dr,ai.hd];refine Rs (A4 t0 t1 @QU @hex) ?_;rw[←hR];exact IE T rfl o w ox we hd Sn Sw (by simp only[aW,bd,bC,bD,reduceAdd,reduceMul,reduceLeDiff,reduceEqDiff,bE,hlen,Yo,Ys];simp) (by simp only[aW,bd,bC,bD,reduceAdd,reduceMul,reduceLeDiff,reduceEqDiff,bE,hlen,Yo,Ys];simp)
end
end Go.Abs
