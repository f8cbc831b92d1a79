/- A part of the proof that HouseSafe holds. No condition. -/
import Derived.Test.YtgplmdgpmbegiaaGreatDoorSa8
import Derived.Test.YtgplmdgpmbegiaaGreatDoorSa7
import Derived.Laws.Externs
import Derived.Shelf.Strconv.Itoa3
import Derived.Shelf.Strconv.Atoi
import Derived.Lib.AtoiErrMem
import Derived.Test.YtgplmdgpmbegiaaGreatDoorSa1
import Derived.Test.YtgplmdgpmbegiaaGreatDoorSa2
import Derived.Test.YtgplmdgpmbegiaaGreatDoorSa5
import Derived.Test.YtgplmdgpmbegiaaGreatDoorSa6
import Derived.ChangeArms
import Derived.Deep.Slices
import Derived.WideShapes
import Derived.ChangeShapes
import Derived.ChangeMaps5
import Derived.OpenShut
import Derived.Carry
import Derived.ChangeSame
import Derived.RowKit
import Derived.ProofKit
import Derived.LaidMore
import Derived.Lay
import Derived.SevenTiedAt
import Derived.Stop.Joined
import Derived.Test.YtgplmdgpmbegiaaGreatDoorRows
import Derived.Test.YtgplmdgpmbegiaaGreatDoorTie
import Derived.Test.YtgplmdgpmbegiaaGreatDoorCards
import Derived.Test.YtgplmdgpmbegiaaGreatDoorSa0
set_option maxHeartbeats 4000000
set_option linter.all false
open Nat (reduceAdd reduceMul reduceLeDiff reduceEqDiff)
namespace Go.Abs
theorem sU{c}:∀{s},(eS c s).2.2=true→s= (eS c s).1++c:: (eS c s).2.1
 | [],h=>by cases h
 | x::r,h=>by
  rw[eS]at h ⊢;split
  ·rename_i e;rw[e];rfl
  ·rename_i e;rw[XG e]at h;exact X6 (x::·) (sU (s:=r) h)
set_option maxRecDepth 10000
attribute [local irreducible] WP WC WE WB WR WF WL WG fV WQ
section
variable {P:Program} (T:fA P) {h:ah}
include T
theorem r37(X:Cj P)(Z:pZ P)(w:Pw h)(s:By)(hsl:s.length≤2^37):aA P 37 [.str s] h (fun v k=>∃ (L':List EV) (s':AV),L'.map EV.ev= (kV s).1∧v= .dJ [s',.i (kV s).2.1,.i (kV s).2.2]∧Fr h.length k s' 5 (L'.map EV.row)∧∀x∈L',Ab h.length k s' x):=by
 refine .kE 55 T.mix T.c37 ?_;intro ts hlen t0;unfold fn37;by_cases h6:1000000 < s.length
 ·have d1:decide ((1000000:Int)< s.length)=true:=Xz Om;refine Rs (A2 t0 @d1) ?_;exact⟨[],.af,by rw[kV,XI h6];rfl,by rw[kV,XI h6],.nil,fun x hx=>(by cases hx)⟩
 have d1:decide ((1000000:Int)< s.length)=false:=Xu Om;have hrs:kV s=qH (s.length+1) s [] 0:=XG h6;refine Rs (A2 t0 @d1) ?_;refine WL.inv T.mix (fun n ts h'=>∃ (a f:Nat) (out:AV) (L':List EV) (g:ah),a≤s.length∧n=s.length - a∧h' =h++g∧L'.length≤a∧kV s=qH (f+1) (s.drop a) (L'.map EV.ev) a∧s.length - a≤f∧Fr h.length (h++g) out 5 (L'.map EV.row)∧(∀x∈L',Ab h.length (h++g) out x)∧
   ts.length=55∧slot ts 0= .str s∧slot ts 5=out∧slot ts 6= .i a) s.length
  ⟨0,s.length,.af,[],[],Om,rfl,Si,XH _,hrs,Om,.nil,(fun x hx=>by cases hx),Sn,(Sq t0),Sw,iF⟩ ?_
 rintro _ ts _ ⟨a,f,out,L',g,ha,rfl,rfl,hLa,QQ,hf,hfr,hin,hlen,t0,t5,t6⟩;by_cases hlt:a < s.length
 ·have e3:decide ((a:Int)< s.length)=true:=Xz Om;have hne:s.drop a≠[]:=fun e=>by have:=X6 List.length e;rw[ZK]at this;simp at this;omega
  obtain⟨f',rfl⟩:∃f',f=f'+1:=⟨f - 1,Om⟩;rw[qH,XG hne]at QQ;have hdl: (s.drop a).length=s.length - a:=ZK;have hcl:=rj (c:=10) (s:=s.drop a)
  repeat (first| simp (config:={ maxSteps:=1000000 }) only[aV,bd,bD,bE,reduceAdd,reduceMul,reduceLeDiff,reduceEqDiff,bF,hlen,XO,XR,t0,t5,t6,e3,jU (show a≤s.length by omega)]| simp (config:={ maxSteps:=1000000 }) (disch:=first| (simp only[Xs,Xy,XA]<;>omega)| rfl| omega| fail) only[fM,aV,bd,bD,bE,reduceAdd,reduceMul,reduceLeDiff,reduceEqDiff,bF,hlen,XO,XR,t0,t5,t6,e3,jU (show a≤s.length by omega)])
  refine WF.ce T.c98 (r98 T X (s.drop a) 10 Om) fun g1=>?_
  have UF:=sU (c:=10) (s:=s.drop a);generalize (eS 10 (s.drop a)).1=ln at QQ hcl UF ⊢;generalize (eS 10 (s.drop a)).2.1=rest at QQ hcl UF ⊢;cases hwh: (eS 10 (s.drop a)).2.2 with
  | false=>
   rw[hwh]at QQ;refine Rs (A4 t0 t5 t6 @XY) ?_;rw[QQ];exact⟨L',_,rfl,rfl,hfr.app g1,fun x hx=>(hin x hx).app g1⟩
  | true=>
  rw[hwh]at QQ;have UF:=UF hwh;have Sz: (s.drop a).length=ln.length+ (rest.length+1):=by rw[UF];simp
  have Rk:rest=s.drop (a+ln.length+1):=by
   have: (s.drop a).drop (ln.length+1)=rest:=by rw[UF,←YX];simp
   rw[←this,YX];congr 1
  have w1:IntKind.i64.wrap (((L'.map EV.row).length:Int)+1)= (L'.length:Int)+1:=by rw[XB];exact bp Om Om
  have w1':IntKind.i64.wrap ((L'.length:Int)+1)= (L'.length:Int)+1:=bp Om Om;refine Rs (A7 t0 t5 t6 @XW hfr.a8.aP @w1 @w1') ?_;refine WF.res T.c99 (r99 T X Z (w.ext Xx) ln Om _) ?_;rintro _ g2 ⟨x,hx,rfl,fn,fv⟩;have hml: (L'.map EV.ev).length=L'.length:=XB _;have QQ:kV s=if(fD ln ((L'.length:Int)+1)).2≠0 then(L'.map EV.ev,(a:Int),(fD ln ((L'.length:Int)+1)).2)else qH (f'+1) rest (L'.map EV.ev++ [(fD ln ((L'.length:Int)+1)).1]) (a+ln.length+1):=by rw[QQ,hml];rfl
  rw[←hx]at QQ;generalize (fD ln ((L'.length:Int)+1)).2=er at QQ ⊢;have ox:bo (h++g++g1++g2) x:=⟨fn.a8,fv.a8⟩;have st:∀{b':Nat} {a0 a1 a2 a3 a4:AV},kL 5 0 (.agg x.row) b' (.b [a0,a1,a2,a3,a4])=some (aB,.set b' (.b x.row)):=fun {_ _ _ _ _ _}=>ox.st
  by_cases he:er=0
  case neg=>
   have d2:decide (er≠0)=true:=Xz he;rw[XI he]at QQ;refine Rs (A5 t0 t5 t6 @st @d2) ?_;rw[QQ];exact⟨L',_,rfl,rfl,((hfr.app g1).app g2).app _,fun x hx=>(((hin x hx).app g1).app g2).app _⟩
  have d2:decide (er≠0)=false:=Xu (fun z=>z he);rw[XG (fun z=>z he)]at QQ;have ox2:bo (h++g++g1++g2++ [aq.b x.row]) x:=ox.ext ⟨_,rfl⟩;have bs:=@bo.FT _ _ ox2;refine Rs (A7 t0 t5 t6 @st @d2 @cg @bs) ?_;refine WR.fw (h0:=h) (cs:=L'.map EV.row) (ys:=[x.row]) ((((hfr.app _).app _).app _).app _) (Fr.push (N:=0) (X3 _) [x.row] (by intro y hy;rw[XT]at hy;rw[hy];rfl)).a8 De Si (by simp only[XB,Xy,XA];omega) Xx ?_;intro g' Qz hff hkp;have hrow:L'.map EV.row++ [x.row]= (L'++ [x]).map EV.row:=by rw[XD];rfl
  rw[hrow]at hff;rw[hrow];obtain⟨sn,Q6⟩:∃sn,sn=AV.slice (h++g++g1++g2++ [aq.b x.row]++ [aq.cells x.row true true]).length 0 ((L'++ [x]).map EV.row).length 5:=⟨_,rfl⟩;rw[←Q6]at hff ⊢;have SS:∀i,sB sn=some i→(h++g++g1++g2).length+2=i:=fun i hi=>by rw[Q6]at hi;cases hi;simp only[Xs,XV]<;>omega
  have hout:∀b,sB out=some b→b < (h++g).length:=fun b hb=>(hfr.bN hb).2
  have kp:∀i,i < (h++g++g1++g2).length→sB out≠some i→(h++g')[i]? = (h++g++g1++g2)[i]? :=fun i hi hne=>by
   rw[hkp i (by simp only[Xs,XV]at hi ⊢;omega) (fun b0 o n e he zz=>hne (by rw[he,zz];rfl)),Xt (h++g++g1++g2),Xv hi]
  have w2:IntKind.i64.wrap ((ln.length:Int)+1)= ((ln.length+1:Nat):Int):=wrapN Om;have w3:IntKind.i64.wrap ((a:Int)+ ((ln.length+1:Nat):Int))= ((a+ln.length+1:Nat):Int):=by rw[bp Om Om];omega
  refine Rs (A5 t0 t5 t6 @w2 @w3) ?_;refine⟨s.length - (a+ln.length+1),Om,a+ln.length+1,f',sn,L'++ [x],g',Om,rfl,rfl,by simp;omega,?_,Om,hff,fun y hy=>?_,rfl,rfl⟩
  ·rw[QQ,Rk,XD];rfl
  ·have lg:∀{i},i < (h++g).length→i < (h++g++g1++g2).length:=fun {i} hi=>by simp only[Xs]at hi ⊢;omega
   rcases XC.1 hy with hy| hy
   ·have oy:=hin y hy;have ln:=fun j (hj:sB y.sn=some j)=>(oy.n.bN hj).2
    have lv:=fun j (hj:sB y.sv=some j)=>(oy.v.bN hj).2
    refine⟨((oy.n.app g1).app g2).aC fun j hj=>kp j (lg (ln j hj)) (oy.dn j hj),((oy.v.app g1).app g2).aC fun j hj=>kp j (lg (lv j hj)) (oy.dv j hj),fun j hj e=>?_,fun j hj e=>?_⟩
    ·have h1:=lg (ln j hj);have h2:=SS j e;omega
    ·have h1:=lg (lv j hj);have h2:=SS j e;omega
   ·rw[XT]at hy;subst hy;have ln:=fun j (hj:sB y.sn=some j)=>fn.bN hj
    have lv:=fun j (hj:sB y.sv=some j)=>fv.bN hj
    have en: (h++g++g1).length= (h++g).length+g1.length:=Xs;exact z31
 ·have e3:decide ((a:Int)< s.length)=false:=Xu Om;have e4:a=s.length:=Om
  have hnil:s.drop a= []:=List.drop_eq_nil_of_le Om;rw[qH,XI hnil]at QQ;refine Rs (A4 t0 t5 t6 e3) ?_;rw[QQ];exact⟨L',_,rfl,rfl,hfr,hin⟩
end
def qF:Nat→Nat
 | 0=>198
 | 1=>126
 | 2=>200
 | 3=>201
 | 4=>202
 | 5=>203
 | _=>204
def ji(q:Nat×Bool×Nat):AV:=.agg [.bool q.2.1,.i (q.2.2:Nat),.func (.func (qF q.1)) [] []]
def Bg:List (AV×AV):=[(.str [108,101,102,116],ji (0,true,4)),(.str [102,114,111,109],ji (1,true,5)),(.str [108,105,110,101,115],ji (2,true,3)),(.str [117,110,115,97,102,101],ji (3,false,2)),(.str [116,97,112,101,115],ji (4,true,2)),(.str [114,101,108,101,97,115,101,100],ji (5,false,5)),(.str [119,97,110,116],ji (6,true,0))]
def Hi(k:By):jd .s (.str k) Bg=some ((kF k).map ji):=by
 unfold kF Bg;by_cases h0:k= [108,101,102,116]
 ·subst h0;rfl
 have b0: (k== [108,101,102,116])=false:=by simp[h0]
 by_cases h1:k= [102,114,111,109]
 ·subst h1;rfl
 have b1: (k== [102,114,111,109])=false:=by simp[h1]
 by_cases h2:k= [108,105,110,101,115]
 ·subst h2;rfl
 have b2: (k== [108,105,110,101,115])=false:=by simp[h2]
 by_cases h3:k= [117,110,115,97,102,101]
 ·subst h3;rfl
 have b3: (k== [117,110,115,97,102,101])=false:=by simp[h3]
 by_cases h4:k= [116,97,112,101,115]
 ·subst h4;rfl
 have b4: (k== [116,97,112,101,115])=false:=by simp[h4]
 by_cases h5:k= [114,101,108,101,97,115,101,100]
 ·subst h5;rfl
 have b5: (k== [114,101,108,101,97,115,101,100])=false:=by simp[h5]
 by_cases h6:k= [119,97,110,116]
 ·subst h6;rfl
 have b6: (k== [119,97,110,116])=false:=by simp[h6]
 simp only[jd,dh,b0,b1,b2,b3,b4,b5,b6,XG h0,XG h1,XG h2,XG h3,XG h4,XG h5,XG h6];rfl
def Bv{h:ah}{r:Nat}(hb:h[r]? =some (.bn Bg)){z:AV}{ok:Bool}{k:By}:gV .s z ok (.map r) (.str k) (fun b=>h[b]?)=k5 z ok ((kF k).map ji):=qQ hb (Hi k)
theorem qT:∀{l} {i:Nat},∀y∈cU l i,(i:Int)≤y∧y < (i:Int)+l.length
 | [],i,y,h=>by simp[cU]at h
 | x::r,i,y,h=>by
  rw[cU]at h;have key:y∈cU r (i+1)→(i:Int)≤y∧y < (i:Int)+ (x::r).length:=fun h=>by
   have:=qT y h;rw[Xy];omega
  split at h
  ·rcases X9.1 h with rfl| h
   ·rw[Xy];omega
   ·exact key h
  ·exact key h
section
variable {P:Program} (T:fA P) {h:ah}
include T
theorem qU{h ks ts Q g es a l z ps k v es'}(ha:a+1≤ts.length)(h1: (a=1)=False)(t1:slot ts 1= .map h.length)
  (hv:rk (eo z (ps.map fun p=>(p.1,p.2.1,val ts p.2.2)))=some v) (hu:oG .s (.str k) v es=some es')
  (K:∀ts',ts'.length=ts.length→slot ts' 1=slot ts 1→WP P bR l ks ts' (h++ [.bn es']++g) Q):
  WP P bR (.o a (.build z ps):: .x (.e9 .s (.t 1) (.c (.str k)) (.t a))::l) ks ts (h++ [.bn es]++g) Q:=by
 have e1:tB .s (.map h.length) (.str k) v (fun b=>(h++ [aq.bn es]++g)[b]?)=some (aB,.set h.length (.bn es')):=tA tO hu;unfold bJ.o bJ.x;rw[rr,hv,tT,tY];have e2:val (put ts (some a) v) (.t 1)= .map h.length:=by
  simp only[pA,ui,bF,h1,t1]
 have e3:val (put ts (some a) v) (.t a)=v:=by simp only[pA,ui,bF,ha]
 rw[iY,e2,e3,xM,e1,rq,Bh,pA];have e4: (h++ [aq.bn es]++g).set h.length (.bn es')=h++ [.bn es']++g:=x9;rw[e4];exact K _ (by simp only[bF]) (by simp only[bF,h1])
theorem r109:aA P 109 [] h (fun v h'=>v= .map h.length∧h' =h++ [.bn Bg]):=by
 refine .of T.mix T.c109 ?_;obtain⟨ts,Qn⟩:∃ts,ts=aT 10 []:=⟨_,rfl⟩;have hlen:ts.length=10:=by rw[Qn];rfl
 unfold fn109;show WC P bR _ [] (aT 10 []) h _;rw[←Qn];clear Qn;have m0:slot ((ts.set 0 AV.cR).set 1 (.map h.length)) 1= .map h.length:=by simp only[bF,hlen,reduceAdd,reduceLeDiff]
 have l0: ((ts.set 0 AV.cR).set 1 (.map h.length)).length=10:=by simp only[bF,hlen]
 dsimp only[aj.j,aj.s,aj.r];rw[ru,rv,KH T,ua,ru,rv,KI T];rw[←XU (h++ [aq.bn []])];generalize (ts.set 0 AV.cR).set 1 (.map h.length)=ts0 at *;clear hlen;refine qU T (v:=ji (0,true,4)) (es':=[(.str [108,101,102,116],ji (0,true,4))]) (by rw[l0];decide) (YV De) m0 rfl rfl ?_;intro RY lx mx;have l1:=lx.trans l0;have m1:=mx.trans m0;clear lx mx l0 m0;refine qU T (v:=ji (1,true,5)) (es':=[(.str [108,101,102,116],ji (0,true,4)),(.str [102,114,111,109],ji (1,true,5))]) (by rw[l1];decide) (YV De) m1 rfl rfl ?_;intro TD lx mx;have l2:=lx.trans l1;have m2:=mx.trans m1;clear lx mx l1 m1;refine qU T (v:=ji (2,true,3)) (es':=[(.str [108,101,102,116],ji (0,true,4)),(.str [102,114,111,109],ji (1,true,5)),(.str [108,105,110,101,115],ji (2,true,3))]) (by rw[l2];decide) (YV De) m2 rfl rfl ?_
 intro ts3 lx mx;have l3:=lx.trans l2;have m3:=mx.trans m2;clear lx mx l2 m2;refine qU T (v:=ji (3,false,2)) (es':=[(.str [108,101,102,116],ji (0,true,4)),(.str [102,114,111,109],ji (1,true,5)),(.str [108,105,110,101,115],ji (2,true,3)),(.str [117,110,115,97,102,101],ji (3,false,2))]) (by rw[l3];decide) (YV De) m3 rfl rfl ?_;intro ts4 lx mx;have l4:=lx.trans l3;have m4:=mx.trans m3;clear lx mx l3 m3;refine qU T (v:=ji (4,true,2)) (es':=[(.str [108,101,102,116],ji (0,true,4)),(.str [102,114,111,109],ji (1,true,5)),(.str [108,105,110,101,115],ji (2,true,3)),(.str [117,110,115,97,102,101],ji (3,false,2)),(.str [116,97,112,101,115],ji (4,true,2))]) (by rw[l4];decide) (YV De) m4 rfl rfl ?_
 intro ts5 lx mx;have l5:=lx.trans l4;have m5:=mx.trans m4;clear lx mx l4 m4;refine qU T (v:=ji (5,false,5)) (es':=[(.str [108,101,102,116],ji (0,true,4)),(.str [102,114,111,109],ji (1,true,5)),(.str [108,105,110,101,115],ji (2,true,3)),(.str [117,110,115,97,102,101],ji (3,false,2)),(.str [116,97,112,101,115],ji (4,true,2)),(.str [114,101,108,101,97,115,101,100],ji (5,false,5))]) (by rw[l5];decide) (YV De) m5 rfl rfl ?_;intro ts6 lx mx;have l6:=lx.trans l5;have m6:=mx.trans m5;clear lx mx l5 m5;refine qU T (v:=ji (6,true,0)) (es':=[(.str [108,101,102,116],ji (0,true,4)),(.str [102,114,111,109],ji (1,true,5)),(.str [108,105,110,101,115],ji (2,true,3)),(.str [117,110,115,97,102,101],ji (3,false,2)),(.str [116,97,112,101,115],ji (4,true,2)),(.str [114,101,108,101,97,115,101,100],ji (5,false,5)),(.str [119,97,110,116],ji (6,true,0))]) (by rw[l6];decide) (YV De) m6 rfl rfl ?_
 intro ts7 lx mx;have l7:=lx.trans l6;have m7:=mx.trans m6;clear lx mx l6 m6;have hlen:=l7;rw[XU];refine Rs @m7 ?_;rfl
section
variable {V:RV} (o:aD h V) (w:fo V.ar)
include o w
theorem r198(Z:pZ P)(pw:Pw h){n}(hn:n∈iA V.ar):aA P 198 [.agg V.row,.str n] h (fun v k=>aK k v 1 ((ke V.ar n 0).map au)):=by
 refine .eF 10 T.mix T.c198 ?_;intro ts hlen t0 t1;unfold fn198;have Qm:=@aD.box _ _ o;have l:=w.len;refine Rs (A4 t0 t1 @Qm @aF) ?_;refine WF.res T.c124 (r124 T (o.ext Xx) l hn) ?_;rintro _ g1 ⟨x,hx,To,rfl⟩;have hj:=w.jb x.1 (XZ hx);refine Rs (A2 t0 t1) ?_;refine WF.res T.c125 (r125 T ((o.e4 x hx).ext Xx) Om (fun s hs=>(hj.2.2.2 s hs).1)) ?_;intro v g2 hv;have Sz:=jL (l:=x.1.bw) (i:=0);refine Rs (A2 t0 t1) ?_;refine WF.res T.c199 (r199 T hv Om jv (fun y hy k ek=>by
  have:=qT y hy;exact xK T Z Om Om (pw.ext (Ext.trans Xx ek)))) ?_
 intro v3 g3 hv3;have hr:=hv3.a8;refine Rs t0 ?_;rw[To]at hr;exact hr
theorem r200(n:By):aA P 200 [.agg V.row,.str n] h (fun v k=>aK k v 1 ((ke V.ar n 2).map au)):=by
 refine .eF 9 T.mix T.c200 ?_;intro ts hlen t0 t1;unfold fn200;have Qm:=@aD.box _ _ o;have l:=w.len;have hin:∀x∈V.aE,x.1.bu.length < 2^30:=fun x hx=>by have:=(w.md x.1 (XZ hx)).2.1;omega
 refine Rs (A4 t0 t1 @Qm @aF) ?_;refine WF.res T.c122 (r122 T (o.ext Xx) l hin _) ?_;rintro v3 g3 h3;have hsl: (iG V.ar n).length < 2^30:=by
  have h1: (iG V.ar n).length≤V.ar.lines.length:=by unfold iG;exact Ya _ _
  have:=w.l0;omega
 refine Rs (A2 t0 t1) ?_;refine WF.res T.c121 (r121 T h3 Om (fun x=>x.name) (fun x _ k _=>bG.of (a:=[]) (c:=[]) T.c123 (r123 T x))) ?_;intro v4 g4 h4;have hr:=h4.a8;refine Rs t0 ?_;exact hr
theorem r201(n:By):aA P 201 [.agg V.row,.str n] h (fun v k=>aK k v 1 ((ke V.ar n 3).map au)):=by
 refine .eF 9 T.mix T.c201 ?_;intro ts hlen t0 t1;unfold fn201;have Qm:=@aD.box _ _ o;have l:=w.len;refine Rs (A5 t0 t1 @Qm @aF @r9) ?_;refine WF.res T.c80 (r80 T (o.ext Xx) l w.vS _) ?_;intro v4 g4 h4;refine Rs t0 ?_;exact h4
theorem r202{n}(hn:n∈jV V.ar):aA P 202 [.agg V.row,.str n] h (fun v k=>aK k v 1 ((ke V.ar n 4).map au)):=by
 refine .eF 9 T.mix T.c202 ?_;intro ts hlen t0 t1;unfold fn202;have Qm:=@aD.box _ _ o;have l:=w.len;refine Rs (A4 t0 t1 @Qm @aF) ?_;refine WF.res T.c77 (r77 T (o.ext Xx) l hn) ?_;rintro _ g1 ⟨x,hx,To,rfl⟩;have hr:=(o.e2 x hx);unfold bg;refine Rs (A2 t0 t1) ?_;rw[To]at hr;exact hr.ext Xx
end
end
def y5{l x}:rE (l++ [x])=rE l++ (if x.rel then [x.name,jv x.mO]else []):=by
 unfold rE;simp only[XD,Zc,Yr,Zf,YF,List.flatten_nil,XU]
theorem qE:∀{l},(rE l).length≤2 * l.length
 | []=>by simp[rE]
 | x::r=>by
  have:=qE (l:=r);unfold rE at this ⊢;rw[Yr,YF,Xs,Xy];split
  ·simp only[Xy,XA];omega
  ·simp only[XA];omega
section
variable {P:Program} (T:fA P) {h:ah}
include T
section
variable {V:RV} (o:aD h V) (w:fo V.ar)
include o w
theorem r203(Z:pZ P)(pw:Pw h)(n:By):aA P 203 [.agg V.row,.str n] h (fun v k=>aK k v 1 ((ke V.ar n 5).map au)):=by
 refine .eF 27 T.mix T.c203 ?_;intro ts hlen t0 t1;unfold fn203;have Qm:=@aD.box _ _ o;have l5:V.aQ.length≤16:=w.l5;refine Rs (A5 t0 t1 @Qm @gR o.i5.aP) ?_;refine WL.inv T.mix (fun n ts h'=>∃ (k:Nat) (out:AV) (g:ah),k≤V.aQ.length∧n=V.aQ.length - k∧h' =h++g∧Fr h.length (h++g) out 1 ((rE (V.aQ.take k)).map au)∧
   ts.length=27∧slot ts 5=out∧slot ts 9=V.s5∧slot ts 10= .i V.aQ.length∧slot ts 11= .i k) V.aQ.length
  ⟨0,.af,_,Om,rfl,rfl,.nil,Sn,(Sq t1),Sw,(Sq t0),iF⟩ ?_
 rintro _ ts _ ⟨k,out,g,hk,rfl,rfl,hfr,hlen,t5,t9,t10,t11⟩;by_cases hlt:k < V.aQ.length
 ·have e3:=fk hlt;have e5:IntKind.i64.wrap ((k:Int)+1)= ((k+1:Nat):Int):=wrapN Om;have ix:=o.i5.dG (kk:=.i64) hlt;have ld:∀{k'},Ext (h++g) k'→ao (some 4) (cV V.s5 4 k) (fun b=>k'[b]?)=some (.agg (da V.aQ[k]),.az):=fun {k'} e=>o.i5.kB hlt (Ext.trans Xx e)
  obtain⟨x,hx⟩:∃x,x=V.aQ[k]:=⟨_,rfl⟩;have R4:x∈V.aQ:=by rw[hx];exact XJ _
  have hpc:=w.pc x R4;have QJ:V.aQ.take (k+1)=V.aQ.take k++ [x]:=by rw[hx,Ye,Xw hlt];rfl
  have RM:=qE (l:=V.aQ.take k);have htl: (V.aQ.take k).length≤16:=by rw[Yq];omega
  have Q6:=y5 (l:=V.aQ.take k) (x:=x);rw[←hx]at ld;unfold da at ld;cases hrel:x.rel with
  | false=>
   rw[hrel]at ld Q6;rw[XG Si,XU,←QJ]at Q6;rw[←Q6]at hfr;refine Rs (A8 t5 t9 t10 t11 e3 e5 ix @ld) ?_;exact⟨V.aQ.length - (k+1),Om,k+1,out,_,Om,rfl,Xt _ _ _,by rw[←Xt];exact hfr.app _,rfl,rfl⟩
  | true=>
   rw[hrel]at ld Q6;rw[XI rfl,←QJ]at Q6;refine Rs (A7 t5 t9 t10 t11 e3 ix @ld) ?_;refine WF.ce T.c113 (Z.itoa Om Om (pw.ext Xx)) fun g1=>?_
   rw[gj hpc.2.1];refine Rs (A4 t5 t9 t10 t11) ?_;refine WR.EA (h0:=h) (cs:=(rE (V.aQ.take k)).map au) (ys:=([x.name,jv x.mO] :List (By)).map au) (((hfr.app _).app _).app _) (Fr.push (N:=0) (X3 _) (([x.name,jv x.mO] :List (By)).map au) (by simp[au])).a8 De (by simp;omega) Xx ?_;intro s' g' hff hkp hle;rw[←XD,←Q6]at hff;refine Rs (A5 t5 t9 t10 t11 e5) ?_;exact⟨V.aQ.length - (k+1),Om,k+1,s',g',Om,rfl,rfl,hff,rfl,rfl⟩
 ·have e3:=gq hlt;have e4:k=V.aQ.length:=Om
  refine Rs (A5 t5 t9 t10 t11 e3) ?_;rw[e4,X8]at hfr;exact hfr.a8
theorem r204(Z:pZ P)(pw:Pw h){n}(hn:n∈gB V.ar):aA P 204 [.agg V.row,.str n] h (fun v k=>aK k v 1 ((ke V.ar n 6).map au)):=by
 refine .eF 22 T.mix T.c204 ?_;intro ts hlen t0 t1;unfold fn204;have Qm:=@aD.box _ _ o;have l:=w.len;have T0:=w.ln _ (gX (f:=gQ.name) (l:=V.ar.lines) (n:=n) (d:=Bq) hn);have Sz: (V.ak.filter fun x=>decide (x.1.line=n)).length≤V.ak.length:=Ya _ _;have hl2:=l.l2;have hof: (zd V.ar n).length= (V.ak.filter fun x=>decide (x.1.line=n)).length:=by
  unfold zd;simp only[RV.ar,ZA,XB];rfl
 refine Rs (A4 t0 t1 @Qm @aF) ?_;refine WF.ce T.c205 (r205 T (o.ext Xx) l hn) fun g1=>?_
 have TA:ke V.ar n 6= [jv (zd V.ar n).length,jv (dF V.ar n).want,if(dF V.ar n).acc then [97,99,99,101,112,116,101,100]else [111,112,101,110]]:=rfl;have T0:1≤(dF V.ar n).want∧(dF V.ar n).want≤64:=T0;generalize dF V.ar n=y at TA T0 ⊢;unfold cj;rw[hof]at TA;cases Sp:y.acc with
 | true=>
  rw[Sp]at TA;refine Rs (A4 t0 t1 @aF @Sp) ?_;refine WF.res T.c206 (r206 T (o.ext Xx) l n) ?_;intro v2 g2 h2;refine Rs (A3 t0 t1 h2.aP) ?_;refine WF.ce T.c113 (Z.itoa Om Om (pw.ext Xx)) fun g3=>?_
  rw[gj Om];refine Rs (A2 t0 t1) ?_;refine WF.ce T.c113 (Z.itoa Om Om (pw.ext Xx)) fun g4=>?_
  rw[gj Om];refine Rs (A2 t0 t1) ?_;rw[TA];exact(Fr.push (es:=1) (N:=0) (X3 _) (([jv ((V.ak.filter fun x=>decide (x.1.line=n)).length:Nat),jv y.want,[97,99,99,101,112,116,101,100]] :List (By)).map au) (by simp[au])).a8
 | false=>
  rw[Sp]at TA;refine Rs (A4 t0 t1 @aF @Sp) ?_;refine WF.res T.c206 (r206 T (o.ext Xx) l n) ?_;intro v2 g2 h2;refine Rs (A3 t0 t1 h2.aP) ?_;refine WF.ce T.c113 (Z.itoa Om Om (pw.ext Xx)) fun g3=>?_
  rw[gj Om];refine Rs (A2 t0 t1) ?_;refine WF.ce T.c113 (Z.itoa Om Om (pw.ext Xx)) fun g4=>?_
  rw[gj Om];refine Rs (A2 t0 t1) ?_;rw[TA];exact(Fr.push (es:=1) (N:=0) (X3 _) (([jv ((V.ak.filter fun x=>decide (x.1.line=n)).length:Nat),jv y.want,[111,112,101,110]] :List (By)).map au) (by simp[au])).a8
end
end
def uN{n}(h:dU n=true):n.length≤24:=by
 cases n with
 | nil=>cases h
 | cons c r=>
  unfold dU at h;simp only[X4,Yg]at h;rw[Xy];omega
def tz{l}(h:po l){n}(hn:n∈l):n.length≤24:=uN (h.nm n hn)
theorem oZ{c}:∀{l},(∀x∈l,x.length≤64)→(jc c l).length≤65 * l.length
 | [],_=>X3 _
 | x::r,h=>by
  have ih:=oZ (c:=c) (l:=r) fun y hy=>h y (Yb _ hy)
  have hx:=h x Si;by_cases hr:r= []
  ·subst hr;simp only[jc,Xy,XA];omega
  ·rw[mL hr,Xs,Xy,Xy];omega
theorem sD:∀{l m:List (By)},l.Nodup→(∀x∈l,x∈m)→l.length≤m.length
 | [],_,_,_=>X3 _
 | x::r,m,hd,hs=>by
  rw[Z3]at hd;have hm:=hs x Si;have:=sD (l:=r) (m:=m.erase x) hd.2 fun y hy=>(List.mem_erase_of_ne (fun e=>hd.1 (by rw[←e];exact hy))).2 (hs y (Yb _ hy))
  rw[List.length_erase_of_mem hm]at this;have:=List.length_pos_of_mem hm;rw[Xy];omega
def HT{R:gJ}(w:fo R){n k:By}{q:Nat×Bool×Nat}(hq:kF k=some q)(hn:q.2.1=true→dD R q.2.2 n=true): (∀x∈ke R n q.1,x.length≤64)∧(ke R n q.1).length≤64:=by
 have dl:∀{y:Int},0≤y→y < 99999999→(jv y).length≤64:=fun {y} h0 h1=>by have:=lL (k:=7) (u:=y.toNat) Om;rw[j9];omega
 unfold kF at hq
 repeat' split at hq
 all_goals cases hq
 ·have hm:n∈iA R:=YH (hn rfl);have hj:=w.jb _ (gX (f:=kK.name) (l:=R.aH) (n:=n) (d:=ze) hm);have Sz:=jL (l:=(gh R n).bw) (i:=0);have hj: (gh R n).bw.length≤32:=hj.2.2.1;refine⟨fun x hx=>?_,?_⟩
  ·obtain⟨y,hy,rfl⟩:=X2.1 hx;have:=qT y hy;exact z171
  ·show((cU _ _).map jv).length≤64;rw[XB];omega
 ·refine⟨fun x hx=>?_,?_⟩
  ·exact z109
  ·show(si R n).length≤64;unfold si;exact z168
 ·refine⟨fun x hx=>?_,?_⟩
  ·obtain⟨y,hy,rfl⟩:=X2.1 hx;have:=tz w.n0 (XZ (f:=gQ.name) (YI.1 hy).1);omega
  ·show((iG R n).map gQ.name).length≤64;unfold iG;rw[XB];have:=Ya (fun l:gQ=>decide (l.name∈(lZ R n).map gP.line)) R.lines;have:=w.l0;omega
 ·refine⟨fun x hx=>?_,?_⟩
  ·exact z109
  ·show(eX R R.tick).length≤64;unfold eX;exact z168
 ·have hm:n∈jV R:=YH (hn rfl);have hs:=w.sh _ (gX (f:=jh.name) (l:=R.ak) (n:=n) (d:=Bo) hm);refine⟨fun x hx=>?_,?_⟩
  ·have:=tz w.n1 (hs.2.2.2 x hx);omega
  ·have:=sD hs.2.2.1 hs.2.2.2;have h1: (jA R).length≤16:=by unfold jA;rw[XB];exact w.l1
   exact Yi this Om
 ·refine⟨fun x hx=>?_,?_⟩
  ·obtain⟨l,hl,hx⟩:=List.mem_flatten.1 hx;obtain⟨p,hp,rfl⟩:=X2.1 hl;have hpc:=w.pc p hp;split at hx
   ·simp only[X9,Yt,Y7]at hx;rcases hx with rfl| rfl
    ·have:=tz w.n5 (XZ (f:=p6.name) hp);omega
    ·exact dl hpc.2.1 Om
   ·cases hx
  ·have:=qE (l:=R.aQ);have:=w.l5;show(rE R.aQ).length≤64;omega
 ·have hm:n∈gB R:=YH (hn rfl);have hw:=w.ln _ (gX (f:=gQ.name) (l:=R.lines) (n:=n) (d:=Bq) hm);have hw:1≤(dF R n).want∧(dF R n).want≤64:=hw;have ho: (zd R n).length≤64:=Yi (Ya _ _) w.l2;refine⟨fun x hx=>?_,by show(3:Nat)≤64;omega⟩;have hx:x∈[jv (zd R n).length,jv (dF R n).want,if(dF R n).acc then [97,99,99,101,112,116,101,100]else [111,112,101,110]]:=hx;simp only[X9,Yt,Y7]at hx;rcases hx with rfl| rfl| rfl
  ·exact z171
  ·exact z171
  ·split<;>decide
section
variable {P:Program} (T:fA P) {h:ah}
include T
theorem PV{V}(o:aD h V)(w:fo V.ar)(Z:pZ P)(pw:Pw h){n k q}(hq:kF k=some q)(hn:q.2.1=true→dD V.ar q.2.2 n=true):
  bG P (.func (.func (qF q.1)) [] []) [.agg V.row,.str n] h (fun v k'=>aK k' v 1 ((ke V.ar n q.1).map au)):=by
 unfold kF at hq
 repeat' split at hq
 all_goals cases hq
 ·exact bG.of (a:=[]) (c:=[]) T.c198 (r198 T o w Z pw (YH (hn rfl)))
 ·exact bG.of (a:=[]) (c:=[]) T.c126 (r126 T o w (YH (hn rfl)))
 ·exact bG.of (a:=[]) (c:=[]) T.c200 (r200 T o w n)
 ·exact bG.of (a:=[]) (c:=[]) T.c201 (r201 T o w n)
 ·exact bG.of (a:=[]) (c:=[]) T.c202 (r202 T o w (YH (hn rfl)))
 ·exact bG.of (a:=[]) (c:=[]) T.c203 (r203 T o w Z pw n)
 ·exact bG.of (a:=[]) (c:=[]) T.c204 (r204 T o w Z pw (YH (hn rfl)))
end
def Cg(k:Nat):aj:=(fn110).body.dr k
def EC(k:Nat):aj:=(Cg k).hd
def OO:fn110= ⟨69,2,[(4,none),(5,none)],.seq (EC 0) (.seq (EC 1) (.seq (EC 2) (.seq (EC 3) (.seq (EC 4) (Cg 5)))))⟩:=rfl
def ON:Cg 5= .seq (EC 5) (.seq (EC 6) (Cg 7)):=rfl
def MX{k q}(hq:kF k=some q):q.2.2 < 6:=by
 unfold kF at hq
 repeat' split at hq
 all_goals cases hq
 all_goals decide
section
variable {P:Program} (T:fA P) {h W:ah} {ts:TS}
include T
theorem FV{VN n k i wt b6 b8 nm}(oV:aD W VN)(wV:fo VN.ar)(Z:pZ P)(pw:Pw W)(hq:kF k=some (i,nm,wt))(hn:nm=true→dD VN.ar wt n=true)
  (m6:W[b6]? =some (.b [.bool nm,.i (wt:Nat),.func (.func (qF i)) [] []])) (m8:W[b8]? =some (.b VN.row)) (hlen:ts.length=69) (t6:slot ts 6= .ptr b6 0) (t7:slot ts 7= .str n) (t8:slot ts 8= .ptr b8 0) (he:Ext h W):
  WC P bR (Cg 7) [] ts W (FQ [(4,none),(5,none)] fun v k=>Ext h k∧v= .dJ [.str (xD (ke VN.ar n i)),.i 0]):=by
 have l6:∀{k:ah} {n':Option Nat} {a:Nat},Ext W k→ao n' (.ptr b6 a) (fun z=>k[z]?)=cp n' a (.b [.bool nm,.i (wt:Nat),.func (.func (qF i)) [] []]):=fun e=>an (e.some m6)
 have l8:∀{k:ah} {n':Option Nat} {a:Nat},Ext W k→ao n' (.ptr b8 a) (fun z=>k[z]?)=cp n' a (.b VN.row):=fun e=>an (e.some m8)
 have UO:=HT wV hq hn;have hv0:=PV T oV wV Z pw hq hn;unfold Cg fn110;simp only[aj.j,aj.s,aj.r,aj.dr,aj.tl,aj.hd];refine Rs (A6 t6 t7 t8 @l6 @l8 @aF) ?_;refine WF.val hv0 ?_;intro v g hv;have UO: (∀x∈ke VN.ar n i,x.length≤64)∧(ke VN.ar n i).length≤64:=UO;have hv:aK (W++g) v 1 ((ke VN.ar n i).map au):=hv;generalize ke VN.ar n i=L at UO hv ⊢;by_cases hL:L= []
 ·have d0:decide ((L.length:Int)=0)=true:=Xz (by rw[hL];rfl);refine Rs (A5 t6 t7 t8 hv.aP @d0) ?_;exact⟨he.trans Xx,by rw[xD,XI hL]⟩
 ·have Vp:0 < L.length:=Zr.2 hL;have d0:decide ((L.length:Int)=0)=false:=Xu Om;have hj:=oZ (c:=32) UO.1;refine Rs (A5 t6 t7 t8 hv.aP @d0) ?_;refine WF.ce T.c114 (Z.join hv ⟨by rw[qV];omega,Om⟩) fun g2=>?_
  refine Rs t6 ?_;exact⟨he.trans Xx,by rw[xD,XG hL,qV]⟩
theorem FU{V b n k i wt b6 nm}(o:yK h b V)(w:lz V.bS)(hl:V.cO.length≤1000)(Z:pZ P)(pw:Pw h)(hq:kF k=some (i,nm,wt))(he:Ext h W)
  (m6:W[b6]? =some (.b [.bool nm,.i (wt:Nat),.func (.func (qF i)) [] []])) (hlen:ts.length=69) (t0:slot ts 0= .ptr b 0) (t6:slot ts 6= .ptr b6 0) (t7:slot ts 7= .str n) {R}
  (hR:R=if nm=true∧dD V.bS.now wt n=false then([],10)else(xD (ke V.bS.now n i),0)):
  WC P bR (Cg 5) [] ts W (FQ [(4,none),(5,none)] fun v k=>Ext h k∧v= .dJ [.str R.1,.i R.2]):=by
 have l6:∀{k:ah} {n':Option Nat} {a:Nat},Ext W k→ao n' (.ptr b6 a) (fun z=>k[z]?)=cp n' a (.b [.bool nm,.i (wt:Nat),.func (.func (qF i)) [] []]):=fun e=>an (e.some m6)
 have hwt:wt < 6:=MX hq;obtain⟨RR,Rg⟩:∃RR,RR=Cg 7:=⟨_,rfl⟩;have o2:=o.ext he;have oV:=o2.now;have wV:fo V.now.ar:=by rw[V.jq];exact w.now
 rw[←V.jq]at hR;have st:=fun {b':Nat} {a0 a1 a2 a3 a4 a5 a6:AV}=>@aD.st _ _ oV b' a0 a1 a2 a3 a4 a5 a6 false
 rw[ON,←Rg];unfold EC Cg fn110;simp only[aj.j,aj.s,aj.r,aj.dr,aj.tl,aj.hd];refine Rs (A3 t0 t6 t7) ?_;refine WF.ce T.c79 (r79 T o2 hl) fun g1=>?_
 cases nm with
 | false=>
  rw[XG Si]at hR;refine Rs (A6 t0 t6 t7 @st @l6 @aF) ?_;rw[hR,Rg];exact FV T (VN:=V.now) (b6:=b6) (b8:=(W++g1).length) (oV.ext Xx) wV Z (pw.ext (he.trans Xx)) hq (fun e=>by cases e) (Ext.some Xx m6) (by rw[XE (XH _),Yy];rfl) (Sq t0) (Sq t6) (Sq t7) (Sq t0) (he.trans Xx)
 | true=>
  refine Rs (A6 t0 t6 t7 @st @l6 @aF) ?_;refine WF.ce T.c86 (r86 T (oV.ext Xx) wV.len hwt n) fun g2=>?_
  cases Vf:dD V.now.ar wt n with
  | false=>
   rw[XI ⟨rfl,Vf⟩]at hR;refine Rs (A5 t0 t6 t7 @Vf @XY) ?_;exact⟨he.trans Xx,by rw[hR]⟩
  | true=>
   rw[XG (by rw[Vf];simp)]at hR;refine Rs (A5 t0 t6 t7 @Vf @XW) ?_;rw[hR,Rg];exact FV T (VN:=V.now) (b6:=b6) (b8:=(W++g1).length) (oV.ext Xx) wV Z (pw.ext (he.trans Xx)) hq (fun _=>Vf) (Ext.some Xx m6) (Ext.some (h:=W++g1++ [aq.b V.now.row]) Xx (by rw[XE (XH _),Yy];rfl)) (Sq t0) (Sq t6) (Sq t7) (Sq t0) (he.trans Xx)
end
def zG: ((false:Bool)==false)=true:=rfl
def zD: ((true:Bool)==true)=true:=rfl
def zE: ((true:Bool)==false)=false:=rfl
def zF: ((false:Bool)==true)=false:=rfl
section
variable {P:Program} (T:fA P) {h:ah}
include T
theorem r110{V b}(o:yK h b V)(w:lz V.bS)(hl:V.cO.length≤1000)(Z:pZ P)(pw:Pw h){s ws}(hs:aK h s 1 (ws.map au))(hne:0 < ws.length)(hwl:ws.length < 2^62){q}(hq:kF (ws.headD [])=some q):
  aA P 110 [.ptr b 0,s] h (fun v _=>v= .dJ [.str (mS V.bS.now ws q).1,.i (mS V.bS.now ws q).2]):=by
 refine .of T.mix (Z6 T.c110 (X6 some OO)) ?_;obtain⟨ts,Qn⟩:∃ts,ts=aT 69 [.ptr b 0,s]:=⟨_,rfl⟩;have hlen:ts.length=69:=by rw[Qn];rfl
 have t0:slot ts 0= .ptr b 0:=by rw[Qn];rfl
 have t1:slot ts 1=s:=by rw[Qn];rfl
 obtain⟨RR,Rg⟩:∃RR,RR=Cg 5:=⟨_,rfl⟩;obtain⟨i,nm,wt⟩:=q;show WC P bR _ [] (aT 69 [.ptr b 0,s]) h (FQ _ (fun v k=>Ext h k∧v= .dJ [.str (mS V.bS.now ws (i,nm,wt)).1,.i (mS V.bS.now ws (i,nm,wt)).2]));rw[←Qn,←Rg];clear Qn;have Ww:ws[0]=ws.headD []:=by cases ws with| nil=>simp at hne| cons a r=>rfl
 have qa:=hs.qa (kk:=.i64) hne;have ld0:∀{k:ah},Ext h k→ao none (cV s 1 0) (fun b=>k[b]?)=some (.str (ws.headD []),.az):=fun {k} e=>by rw[←Ww];exact hs.kO (i:=0) hne rfl e
 unfold EC Cg fn110;simp only[aj.j,aj.s,aj.r,aj.dr,aj.tl,aj.hd];refine Rs (A2 t0 t1) ?_;refine WF.res T.c109 (r109 T) ?_;rintro _ g1 ⟨rfl,hg⟩;have hg:g1= [.bn Bg]:=Zk hg;subst hg;have lk:∀{z:AV},gV .s z false (.map h.length) (.str (ws.headD [])) (fun b=>(h++ [aq.bn Bg])[b]?)=k5 z false ((kF (ws.headD [])).map ji):=Bv (by rw[XE (XH _),Yy];rfl);rw[hq]at lk;have QY:∀{z:AV},_=some (AV.agg [.bool nm,.i (wt:Nat),.func (.func (qF i)) [] []],ia.az):=@lk;have m6:∀{k:ah},Ext (h++ [aq.bn Bg]++ [aq.b [.bool nm,.i (wt:Nat),.func (.func (qF i)) [] []]]) k→k[(h++ [aq.bn Bg]).length]? =some (aq.b [.bool nm,.i (wt:Nat),.func (.func (qF i)) [] []]):=fun e=>e.some (by rw[XE (XH _),Yy];rfl)
 have hsyn:∀{x:By×Int},x= ([],25)→mS V.bS.now ws (i,nm,wt)= ([],25)→∀{k:ah},Ext h k→(Ext h k∧AV.dJ [.str [],.i 25]= .dJ [.str (mS V.bS.now ws (i,nm,wt)).1,.i (mS V.bS.now ws (i,nm,wt)).2]):=fun _ he k e=>⟨e,by rw[he]⟩
 cases nm with
 | false=>
  have RG:mS V.bS.now ws (i,false,wt)=if ws.length≠1 then([],25)else(xD (ke V.bS.now [] i),0):=by
   unfold mS;simp
  by_cases e1:ws.length=1
  ·have d1:decide ((ws.length:Int)≠1)=false:=Xu (fun z=>z Om);have d2:decide ((ws.length:Int)=2)=false:=Xu Om;refine Rs (F1 t0 t1 @qa @ld0 @bT @QY @hP @zG @zD @zE @zF hs.aP @d1 @d2 @XY @XW) ?_;rw[Rg];exact FU T (n:=[]) o w hl Z pw hq Xx (m6 Xx) (Sq t0) (Sq t0) (Sq t0) (Sq t0) (by rw[RG,XG (by simpa using e1),XG Si])
  ·have d1:decide ((ws.length:Int)≠1)=true:=Xz Om;rw[XI e1]at RG;by_cases e2:ws.length=2
   ·have d2:decide ((ws.length:Int)=2)=true:=Xz Om;have d3:decide (([] :By)≠[])=false:=rfl;refine Rs (IC t0 t1 @qa @ld0 @bT @QY @hP @zG @zD @zE @zF hs.aP @d1 @d2 @d3 @XY @XW) ?_;rw[RG]
   ·have d2:decide ((ws.length:Int)=2)=false:=Xu Om;refine Rs (F1 t0 t1 @qa @ld0 @bT @QY @hP @zG @zD @zE @zF hs.aP @d1 @d2 @XY @XW) ?_;rw[RG]
 | true=>
  by_cases e2:ws.length=2
  ·have d2:decide ((ws.length:Int)=2)=true:=Xz Om;have hw1:ws[1]=ws.getD 1 []:=by rw[Yc,Xw Om];rfl
   have ix1:aZ 1 s (.i 1)=some (cV s 1 1,.az):=hs.dG (kk:=.i64) (i:=1) Om;have UW:∀{k:ah},Ext h k→ao none (cV s 1 1) (fun b=>k[b]?)=some (.str (ws.getD 1 []),.az):=fun {k} e=>by rw[←hw1];exact hs.kO (i:=1) Om rfl e
   have RG:mS V.bS.now ws (i,true,wt)=if ws.getD 1 []= []then([],25)else if dD V.bS.now wt (ws.getD 1 [])=false then([],10)else(xD (ke V.bS.now (ws.getD 1 []) i),0):=by
    unfold mS;simp only[e2,and_true,XR,Z5,ne_eq,Bool.true_eq_false,false_and,Y7,Zl]
   generalize ws.getD 1 []=n at UW RG;by_cases hn:n= []
   ·have d3:decide (n≠[])=false:=Xu (fun z=>z hn);rw[XI hn]at RG;refine Rs (F0 t0 t1 @qa @ld0 @ix1 @UW @bT @QY @hP @zG @zD @zE @zF hs.aP @d2 @d3 @XY @XW) ?_;rw[RG]
   ·have d3:decide (n≠[])=true:=Xz hn;rw[XG hn]at RG;refine Rs (F0 t0 t1 @qa @ld0 @ix1 @UW @bT @QY @hP @zG @zD @zE @zF hs.aP @d2 @d3 @XY @XW) ?_;rw[Rg];exact FU T (n:=n) o w hl Z pw hq Xx (m6 Xx) (Sq t0) (Sq t0) (Sq t0) (Sq t0) (by rw[RG];simp)
  ·have d2:decide ((ws.length:Int)=2)=false:=Xu Om;have RG:mS V.bS.now ws (i,true,wt)= ([],25):=by
    unfold mS;simp[e2]
   refine Rs (Cu t0 t1 @qa @ld0 @bT @QY @hP @zG @zD @zE @zF hs.aP @d2 @XY @XW) ?_;rw[RG]
end
def lU(B h0:ah)(b:Nat)(V:HV)(R:ki×By×Int)(v:AV)(k:ah):Prop:=∃g' V',k=B++g'∧v= .dJ [.str R.2.1,.i R.2.2]∧cF B.length (B++g') b V'∧V'.bS=R.1∧
 (∀i,i < h0.length→some i∉V.ex b→(B++g')[i]? =h0[i]?)∧∀j,some j∈V'.ex b→some j∈V.ex b∨h0.length≤j
def lU.same{B W k b V m c}(o:cF B.length W b V)(e:Ext B W)(e2:Ext W k){R}(hR:R= (V.bS,m,c)):lU B W b V R (.dJ [.str m,.i c]) k:=by
 obtain⟨z,rfl⟩:=e;obtain⟨y,rfl⟩:=e2;exact⟨z++y,V,by rw[Xt],by rw[hR],by rw[←Xt];exact o.app y,by rw[hR],fun i hi _=>by rw[←Xt,Xv hi],fun j hj=>.inl hj⟩
def lU.low{B h0 W k b V R v}(s:lU B W b V R v k)(e:Ext h0 W):lU B h0 b V R v k:=by
 obtain⟨g',V',h1,h2,h3,h4,h5,h6⟩:=s;obtain⟨z,rfl⟩:=e;refine⟨g',V',h1,h2,h3,h4,fun i hi hn=>?_,fun j hj=>?_⟩
 ·rw[h5 i (by rw[Xs];omega) hn,Xv hi]
 ·rcases h6 j hj with h| h
  ·exact .inl h
  ·exact .inr (by rw[Xs]at h;omega)
def qD(H:ki)(ws:List (By)):ki×By×Int:=
 if(dZ ws).2=false then(H,[],25)else
 if 1000≤H.de.length then(H,[],5)else
 if fG H { (dZ ws).1 with num:=(H.de.length:Int)+1 }≠0 then(H,[],fG H { (dZ ws).1 with num:=(H.de.length:Int)+1 })
 else(mT H { (dZ ws).1 with num:=(H.de.length:Int)+1 },[100,111,110,101,32]++jv ((H.de.length:Int)+1),0)
def BT{H s}:zt H s=if 4096 < s.length then(H,[],26)else if s= []then(H,[],25)else
  match kF ((bK 32 s).headD [])with
  | some q=>(H,mS H.now (bK 32 s) q)
  | none=>
   match gF ((bK 32 s).headD [])with
   | none=>(H,[],13)
   | some _=>qD H (bK 32 s):=by
 unfold zt;by_cases h1:4096 < s.length
 ·rw[XI h1,XI h1]
 rw[XG h1,XG h1];by_cases h2:s= []
 ·rw[XI h2,XI h2]
 rw[XG h2,XG h2];cases kF ((bK 32 s).headD [])with
 | some q=>rfl
 | none=>
  cases gF ((bK 32 s).headD [])with
  | none=>rfl
  | some d=>
   simp only;unfold qD;cases (dZ (bK 32 s)).2<;>rfl
def Iu(k:Nat):aj:=(fn43).body.dr k
def HC(k:Nat):aj:=(Iu k).hd
def Oy:fn43= ⟨97,2,[(4,none),(5,none)],.seq (HC 0) (.seq (HC 1) (.seq (HC 2) (.seq (HC 3) (.seq (HC 4) (.seq (HC 5) (Iu 6))))))⟩:=rfl
section
variable {P:Program} (T:fA P) {B W:ah} {ts:TS}
include T
theorem Lw{V b x}(he:Ext B W)(o:cF B.length W b V)(w:lz V.bS)(hl:V.de.length < 1000)(ox:bo W x)(hxl:x.ev.names.length≤2^40∧x.ev.cC.length≤2^40)(gl:Gl B):
  db P 112 [.ptr b 0,.agg x.row] W (fun v k=>IB B W b V x.ev v k):=by
 obtain⟨g,rfl⟩:=he;exact KY T o w hl ox hxl gl
theorem Ox{V b}(he:Ext B W)(o:cF B.length W b V)(w:lz V.bS)(hl:V.de.length≤1000)(gl:Gl B)(pw:Pw B)(Z:pZ P){sv ws}(hs:aK W sv 1 (ws.map au))(hwl:∀x∈ws,x.length≤2^40)
  (hlen:ts.length=97) (t0:slot ts 0= .ptr b 0) (t7:slot ts 7=sv):WC P bR (Iu 6) [] ts W (FQ [(4,none),(5,none)] fun v k=>lU B W b V (qD V.bS ws) v k):=by
 have RM:=uF ws;have TP:V.bS.de.length=V.de.length:=by simp[HV.bS]
 have lb:∀{k n a},Ext W k→ao n (.ptr b a) (fun z=>k[z]?)=cp n a (.b [V.se,V.sc,V.sr]):=fun {_ _ _} e=>an (e.some o.hb)
 have Tk:=o.rd.ie.aP;unfold Iu fn43;simp only[aj.j,aj.s,aj.r,aj.dr,aj.tl,aj.hd];refine Rs (A2 t0 t7) ?_;refine WF.res T.c111 (r111 T Z hs hwl) ?_;rintro _ g1 ⟨x,hx,rfl,fn,fv⟩;have ox:bo (W++g1) x:=⟨fn.a8,fv.a8⟩;obtain⟨x',Qt⟩:∃x':EV,x' = ⟨{ x.ev with num:=(V.de.length:Int)+1 },x.sn,x.sv⟩:=⟨_,rfl⟩;have hrow:x'.row=x.row.set 0 (.i ((V.de.length:Int)+1)):=by rw[Qt];rfl
 have R3:x'.ev.num= (V.de.length:Int)+1:=by rw[Qt]
 have hev: ({ (dZ ws).1 with num:=(V.bS.de.length:Int)+1 }:gy)=x'.ev:=by rw[Qt,hx,TP]
 have Vv:bo (W++g1) x':=by rw[Qt];exact⟨ox.n,ox.v⟩
 have Qs:qD V.bS ws=if(dZ ws).2=false then(V.bS,[],25)else if 1000≤V.de.length then(V.bS,[],5)else if fG V.bS x'.ev≠0 then(V.bS,[],fG V.bS x'.ev)else(mT V.bS x'.ev,[100,111,110,101,32]++jv ((V.de.length:Int)+1),0):=by
  unfold qD;rw[hev,TP]
 have st:∀{b':Nat} {a0 a1 a2 a3 a4:AV},kL 5 0 (.agg x.row) b' (.b [a0,a1,a2,a3,a4])=some (aB,.set b' (.b x.row)):=fun {_ _ _ _ _ _}=>ox.st
 have kE:∀{b':Nat},kL 1 0 (.i ((V.de.length:Int)+1)) b' (.b x.row)=some (aB,.set b' (.b x'.row)):=fun {b'}=>by
  rw[hrow];exact bV rfl (by show 0+1≤5;omega)
 have hpost:qD V.bS ws=qD V.bS ws:=rfl;generalize hfm: (dZ ws).2=fm at Qs ⊢;cases fm with
 | false=>
  refine Rs (A4 t0 t7 @st @XY) ?_;refine WF.ce T.c85 (r85 T _ _) fun g2=>?_
  refine Rs (A4 t0 t7 @lb @Tk) ?_;refine WF.ce T.c85 (r85 T _ _) fun g3=>?_
  refine Rs (A2 t0 t7) ?_;refine WF.ce T.c74 (r74 T (b9 [_,_]) Si) fun g4=>?_
  have e0:∀c,aX [bX true 25,bX c 5]=25:=fun c=>by cases c<;>rfl
  have d0:decide ((25:Int)≠0)=true:=rfl;refine Rs (A3 t0 e0 @d0) ?_;exact lU.same o he Xx (by rw[Qs];rfl)
 | true=>
  rw[XG Si]at Qs;refine Rs (A4 t0 t7 @st @XW) ?_;refine WF.ce T.c85 (r85 T _ _) fun g2=>?_
  refine Rs (A4 t0 t7 @lb @Tk) ?_;refine WF.ce T.c85 (r85 T _ _) fun g3=>?_
  refine Rs (A2 t0 t7) ?_;refine WF.ce T.c74 (r74 T (b9 [_,_]) Si) fun g4=>?_
  by_cases hk:1000≤V.de.length
  ·have dk:decide ((1000:Int)≤(V.de.length:Int))=true:=Xz Om;have e0:aX [bX false 25,bX true 5]=5:=rfl;have d0:decide ((5:Int)≠0)=true:=rfl;rw[XI hk]at Qs;refine Rs (A4 t0 @dk e0 @d0) ?_;exact lU.same o he Xx Qs
  ·have dk:decide ((1000:Int)≤(V.de.length:Int))=false:=Xu Om;have e0:aX [bX false 25,bX false 5]=0:=rfl;have d0:decide ((0:Int)≠0)=false:=rfl;rw[XG hk]at Qs;have w1:IntKind.i64.wrap ((V.de.length:Int)+1)= (V.de.length:Int)+1:=bp Om Om;refine Rs (A9 t0 @dk e0 @d0 @lb @Tk @w1 @kE @cg) ?_;obtain⟨Y,hY⟩:∃Y,Y=W++g1++ [aq.b x'.row]++g2++g3++ [aq.cells [.i (bX false 25),.i (bX false 5)] true true]++g4:=⟨_,rfl⟩;rw[←hY];have UM:Ext W Y:=by rw[hY];exact Xx
   have oY:cF B.length Y b V:=by obtain⟨z,hz⟩:=UM;rw[hz];exact o.app z
   have oxY:bo Y x':=by rw[hY];exact Vv.ext Xx
   have m12:Y[(W++g1).length]? =some (.b x'.row):=by rw[hY];exact Ext.some (h:=W++g1++ [aq.b x'.row]) Xx (by rw[XE (XH _),Yy];rfl)
   refine WF.gen T.c112 (Lw T (he.trans UM) oY w Om oxY ⟨by rw[Qt];show x.ev.names.length≤_;rw[hx];omega,by rw[Qt];show x.ev.cC.length≤_;rw[hx];omega⟩ gl) ?_;rintro _ _ ⟨g',V',rfl,rfl,Wp,Vn,hkp,hexn⟩;have hYl:W.length≤Y.length:=by obtain⟨z,hz⟩:=UM;rw[hz,Xs];omega
   have hkW:∀i,i < W.length→some i∉V.ex b→(B++g')[i]? =W[i]? :=fun i hi hn=>by
    rw[hkp i Om hn];obtain⟨z,hz⟩:=UM;rw[hz,Xv hi]
   have hexW:∀j,some j∈V'.ex b→some j∈V.ex b∨W.length≤j:=fun j hj=>(hexn j hj).imp id fun h=>by omega
   by_cases So:fG V.bS x'.ev=0
   ·have d:decide (fG V.bS x'.ev≠0)=false:=Xu (fun z=>z So);rw[XI So]at Vn;rw[XG (fun z=>z So)]at Qs;have m12': (B++g')[(W++g1).length]? =some (.b x'.row):=by
     rw[hkp _ (Xr.1 m12).1 (fun hj=>by have:=o.BO hj;simp only[Xs]at this;omega)];exact m12
    have l12:ao none (.ptr (W++g1).length 0) (fun z=>(B++g')[z]?)=some (.i ((V.de.length:Int)+1),.az):=by rw[an m12',←R3];rfl
    refine Rs (A3 t0 @d @l12) ?_;refine WF.ce T.c113 (Z.itoa Om Om (pw.ext ⟨_,rfl⟩)) fun g5=>?_
    have hdl:=lL (k:=7) (u:=((V.de.length:Int)+1).toNat) Om;rw[gj Om];have hdl: (jv ((V.de.length:Int)+1)).length≤8:=by rw[j9];exact hdl
    have hbc: ([100,111,110,101,32] :By).length+ (jv ((V.de.length:Int)+1)).length < 2^62:=by
     simp only[Xy,XA];omega
    have bc:=jy hbc;refine Rs (A2 t0 @bc) ?_;exact⟨g'++g5,V',by rw[Xt],by rw[Qs],by rw[←Xt];exact Wp.app g5,by rw[Qs,Vn],fun i hi hn=>by
     rw[←Xt,←hkW i hi hn];have hil:i < (B++g').length:=by
      have e:=hkW i hi hn;rw[Xw hi]at e;exact(Xr.1 e).1
     exact Xv hil,hexW⟩
   ·have d:decide (fG V.bS x'.ev≠0)=true:=Xz So;rw[XG So]at Vn;rw[XI So]at Qs;refine Rs (A2 t0 @d) ?_;exact⟨g',V',rfl,by rw[Qs],Wp,by rw[Qs,Vn],hkW,hexW⟩
end
def cF.ext{N h k b V}(o:cF N h b V)(e:Ext h k):cF N k b V:=by obtain⟨z,rfl⟩:=e;exact o.app z
def tJ{b o}:o6 O3.wS (.ptr b o) .nilPtr=some false:=rfl
section
variable {P:Program} (T:fA P) {B g:ah}
include T
theorem P5{V b}(o:cF B.length (B++g) b V)(w:lz V.bS)(hl:V.de.length≤1000)(gl:Gl B)(pw:Pw B)(X:Cj P)(Z:pZ P)(s:By)(hs:s.length≤2^36):
  db P 43 [.ptr b 0,.str s] (B++g) (fun v k=>lU B (B++g) b V (zt V.bS s) v k):=by
 refine .of T.mix (Z6 T.c43 (X6 some Oy)) ?_;obtain⟨ts,Qn⟩:∃ts,ts=aT 97 [.ptr b 0,.str s]:=⟨_,rfl⟩;have hlen:ts.length=97:=by rw[Qn];rfl
 have t0:slot ts 0= .ptr b 0:=by rw[Qn];rfl
 have t1:slot ts 1= .str s:=by rw[Qn];rfl
 obtain⟨RR,Rg⟩:∃RR,RR=Iu 6:=⟨_,rfl⟩;show WC P bR _ [] (aT 97 [.ptr b 0,.str s]) (B++g) (FQ _ (fun v k=>lU B (B++g) b V (zt V.bS s) v k));rw[←Qn,←Rg];clear Qn;have he:Ext B (B++g):=⟨g,rfl⟩;obtain⟨W,hW⟩:∃W,W=B++g:=⟨_,rfl⟩;rw[←hW]at o he ⊢;have eW:Ext W W:=Ext.refl W;have hregs:V.cO.length≤1000:=by
  have e1:=w.ln;have e2:=w.le;exact Jr
 have R5:=BT (H:=V.bS) (s:=s);unfold HC Iu fn43;simp only[aj.j,aj.s,aj.r,aj.dr,aj.tl,aj.hd];refine Rs (A3 t0 t1 @tJ) ?_;refine WF.ce T.c85 (r85 T _ _) fun g1=>?_
 refine Rs (A2 t0 t1) ?_;refine WF.ce T.c85 (r85 T _ _) fun g2=>?_
 refine Rs (A2 t0 t1) ?_;refine WF.ce T.c74 (r74 T (b9 [_,_]) Si) fun g3=>?_
 by_cases h1:4096 < s.length
 ·have d1:decide ((4096:Int)< (s.length:Int))=true:=Xz Om;have e0:∀c,aX [bX true 26,bX c 25]=26:=fun c=>by cases c<;>rfl
  have d0:decide ((26:Int)≠0)=true:=rfl;rw[XI h1]at R5;refine Rs (A5 t0 t1 @d1 e0 @d0) ?_;exact lU.same o he Xx R5
 have d1:decide ((4096:Int)< (s.length:Int))=false:=Xu Om;rw[XG h1]at R5;by_cases h2:s= []
 ·have d2:decide (s= [])=true:=Xz h2;have e0:aX [bX false 26,bX true 25]=25:=rfl;have d0:decide ((25:Int)≠0)=true:=rfl;rw[XI h2]at R5;refine Rs (A6 t0 t1 @d1 @d2 e0 @d0) ?_;exact lU.same o he Xx R5
 have d2:decide (s= [])=false:=Xu h2;rw[XG h2]at R5;have e0:aX [bX false 26,bX false 25]=0:=rfl;have d0:decide ((0:Int)≠0)=false:=rfl;refine Rs (A6 t0 t1 @d1 @d2 e0 @d0) ?_;refine WF.res T.c64 (r64 T X s 32 Om) ?_;intro sv g4 hv;have hwl:=rW (c:=32) (s:=s) (n:=2^40) Om;have hwn: (bK 32 s).length≤s.length+1:=by
  rw[qw];have:=List.count_le_length (a:=(32:UInt8)) (l:=s);omega
 have hne:0 < (bK 32 s).length:=Zr.2 jH;obtain⟨ws,TX⟩:∃ws,ws=bK 32 s:=⟨_,rfl⟩;rw[←TX]at hv hwl hwn hne R5;have Ww:ws[0]=ws.headD []:=by
  clear hv hwl hwn R5 TX;cases ws with| nil=>simp at hne| cons a r=>rfl
 obtain⟨Y,hY⟩:∃Y,Y=W++g1++g2++ [aq.cells [.i (bX false 26),.i (bX false 25)] true true]++g3++g4:=⟨_,rfl⟩;rw[←hY]at hv ⊢;have UM:Ext W Y:=by rw[hY];exact Xx
 have oY:cF B.length Y b V:=o.ext UM;have eB:=he.trans UM;have qa:=hv.qa (kk:=.i64) hne;have ld0:∀{k:ah},Ext Y k→ao none (cV sv 1 0) (fun b=>k[b]?)=some (.str (ws.headD []),.az):=fun {k} e=>by rw[←Ww];exact hv.kO (i:=0) hne rfl e
 clear o he;refine Rs (A2 t0 t1) ?_;refine WF.res T.c109 (r109 T) ?_;rintro _ g5 ⟨rfl,hg⟩;have hg:g5= [.bn Bg]:=Zk hg;subst hg;have lk:∀{z:AV},gV .s z true (.map Y.length) (.str (ws.headD [])) (fun b=>(Y++ [aq.bn Bg])[b]?)=k5 z true ((kF (ws.headD [])).map ji):=Bv (by rw[XE (XH _),Yy];rfl);cases hq:kF (ws.headD [])with
 | some q=>
  obtain⟨i,nm,wt⟩:=q;rw[hq]at lk R5;have QY:∀{z:AV},_=some (AV.dJ [.agg [.bool nm,.i (wt:Nat),.func (.func (qF i)) [] []],.bool true],ia.az):=@lk;refine Rs (A7 t0 t1 @qa @ld0 @bT @QY @hP) ?_;refine WF.ce T.c110 (r110 T (oY.rd.ext Xx) w hregs Z (pw.ext (eB.trans Xx)) (hv.ext Xx) hne Om hq) fun g6=>?_
  refine Rs t0 ?_;exact(lU.same oY eB Xx R5).low UM
 | none=>
  rw[hq]at lk R5;have QY:∀{z:AV},_=some (AV.dJ [z,.bool false],ia.az):=@lk;refine Rs (A7 t0 t1 @qa @ld0 @bT @QY @hP) ?_;clear lk QY;refine WF.res T.c90 (r90 T) ?_;rintro _ g6 ⟨vf,rfl,hk⟩;obtain⟨Y2,SL⟩:∃Y2,Y2=Y++ [aq.bn Bg]++ [aq.b [.bool false,.i 0,.nilFunc]]:=⟨_,rfl⟩;rw[←SL]at hk ⊢;have Te:Ext Y Y2:=by rw[SL];exact Xx
  have ld2:∀{k:ah},Ext Y2 k→ao none (cV sv 1 0) (fun b=>k[b]?)=some (.str (ws.headD []),.az):=fun {k} e=>ld0 (Te.trans e)
  have lk:∀{z:AV},gV .s z true (.map Y2.length) (.str (ws.headD [])) (fun b=>(Y2++g6)[b]?)=k5 z true ((gF (ws.headD [])).map vf):=hk.look;cases hd:gF (ws.headD [])with
  | none=>
   rw[hd]at lk R5;have QY:∀{z:AV},_=some (AV.dJ [z,.bool false],ia.az):=@lk;refine Rs (A8 t0 t1 @qa @ld2 @bT @QY @hP @XY) ?_;exact(lU.same oY eB (Te.trans Xx) R5).low UM
  | some d=>
   rw[hd]at lk R5;have QY:∀{z:AV},_=some (AV.dJ [vf d,.bool true],ia.az):=@lk;obtain⟨rs,a,hvf,hr,ha,hab⟩:=(hk.k d).ex;rw[hvf]at QY;have c1:=lJ d;have c2:=k9 d;have c3:=hr.one;refine Rs (mX t0 t1 @qa @ld2 @bT @QY @XW @c1 @c2 @c3 @ha) ?_;have R5:zt V.bS s=qD V.bS ws:=R5;rw[Rg,R5];refine WC.Ft (Ox T (eB.trans (Te.trans Xx)) (oY.ext (Te.trans Xx)) w hl gl pw Z (hv.ext (Te.trans Xx)) hwl (Sq t0) (Sq t0) (Sq t0)) ?_;rintro e ts' h' ⟨q1,v,q2,q3⟩;exact⟨q1,v,q2,lU.low q3 (UM.trans (Te.trans Xx))⟩
end
def V0:HV:=⟨[],[],[],.af,.af,.af⟩
def LF{h}:cF h.length (h++ [.b [.af,.af,.af]]) h.length V0:=
 ⟨XH _,by rw[XE (XH _),Yy];rfl,.nil,.nil,.nil,rh.2 ⟨fun _ _=>⟨by simp[sB,V0],by simp[sB,V0],by simp[sB,V0]⟩,fun _ z=>by simp[sB,V0]at z,fun _ z=>by simp[sB,V0]at z⟩,
  fun x hx=>(by cases hx),fun x hx=>(by cases hx),fun x hx=>(by cases hx),fun x hx=>(by cases hx)⟩
def LG{b}:∀j,some j∈V0.ex b→j=b:=fun j hj=>by
 simp only[HV.ex,V0,sB,X9,Yt,Y7,X1,reduceCtorEq]at hj;exact hj
def Gd{H ws}(w:lz H):lz (qD H ws).1∧(qD H ws).1.de.length≤H.de.length+1:=by
 unfold qD;split
 ·exact⟨w,Z4 _⟩
 split
 ·exact⟨w,Z4 _⟩
 split
 ·exact⟨w,Z4 _⟩
 ·rename_i h;exact⟨w.add (Zl.1 h),by rw[vL];omega⟩
def Jy{H s}(w:lz H):lz (zt H s).1∧(zt H s).1.de.length≤H.de.length+1:=by
 rw[BT];split
 ·exact⟨w,Z4 _⟩
 split
 ·exact⟨w,Z4 _⟩
 split
 ·exact⟨w,Z4 _⟩
 split
 ·exact⟨w,Z4 _⟩
 exact Gd w
def sg(x:By×By×Int):List AV:=[.str x.1,.str x.2.1,.i x.2.2]
def ml:ki→List (By×By×Int)→Option ki
 | H,[]=>some H
 | H,x::r=>if(zt H x.1).2.1=x.2.1∧(zt H x.1).2.2=x.2.2 then ml (zt H x.1).1 r else none
section
variable {P:Program} (T:fA P) {h:ah}
include T
theorem r70:aA P 70 [] h (fun v h'=>v= .ptr h.length 0∧h' =h++ [.b [.af,.af,.af]]):=by
 refine .of T.mix T.c70 ?_;unfold fn70;exact Wn Tv
theorem r44{V b}(o:yK h b V)(w:lz V.bS)(hl:V.de.length≤1000):
  aA P 44 [.ptr b 0] h (fun v h'=>∃L':List EV,L'.map EV.ev=V.bS.de∧fH h' L' v):=by
 refine .kE 11 T.mix T.c44 ?_;intro ts hlen t0;unfold fn44;have lb:∀{k n a},Ext h k→ao n (.ptr b a) (fun z=>k[z]?)=cp n a (.b [V.se,V.sc,V.sr]):=fun {_ _ _} e=>an (e.some o.hb)
 refine Rs (A3 t0 @tJ @lb) ?_;refine WF.res T.c87 (r87 T ⟨o.ie,o.ae⟩ Om (fun x hx=>by
  obtain⟨d,we⟩:=w.ev x.ev (XZ hx);have h3: (bL d).length≤3∧cB d≤3:=by cases d<;>decide
  have:=we.nl;have:=we.vl;exact⟨Om,Om⟩)) ?_
 rintro v g ⟨L',hL,hf,hx⟩;refine Rs t0 ?_;exact⟨L',hL,hf.a8,fun x Qt=>(hx x Qt).ok⟩
end
def Hc(d:Kd): (bz d).length≤16:=by cases d<;>decide
def BP{e d}(we:kC e d):O2 e∧(iC e).length≤520:=by
 have h3: (bL d).length≤3∧cB d≤3:=by cases d<;>decide
 have h1:=we.nl;have h2:=we.vl;have h4:=we.nu;have dl:∀{y:Int},0≤y→y≤999999999→(jv y).length≤64:=fun {y} h0 h1=>by have:=lL (k:=9) (u:=y.toNat) Om;rw[j9];omega
 have hb: (iC e).length≤520:=by
  have hj:=oZ (c:=32) (l:=vH e) fun x hx=>by
   unfold vH at hx;simp only[XC,X9,Yt,Y7,X2]at hx;rcases hx with((rfl| rfl)| hx)| ⟨y,hy,rfl⟩
   ·exact z171
   ·have:=Hc d;rw[cw we.kd];omega
   ·have:=uN (we.nm x hx);omega
   ·have:=we.vr y hy;exact dl Om Om
  have hl: (vH e).length≤8:=by
   unfold vH;simp only[Xs,Xy,XA,XB];omega
  unfold iC;omega
 exact⟨⟨Om,fun x hx=>by have:=we.vr x hx;omega,Om,Om,Om⟩,hb⟩
section
variable {P:Program} (T:fA P) {h:ah}
include T
theorem r45(Z:pZ P)(pw:Pw h){V b}(o:yK h b V)(w:lz V.bS)(hl:V.de.length≤1000):
  aA P 45 [.ptr b 0] h (fun v _=>v= .str (uS V.bS.de)):=by
 refine .kE 12 T.mix T.c45 ?_;intro ts hlen t0;unfold fn45;have lb:∀{k n a},Ext h k→ao n (.ptr b a) (fun z=>k[z]?)=cp n a (.b [V.se,V.sc,V.sr]):=fun {_ _ _} e=>an (e.some o.hb)
 refine Rs (A3 t0 @tJ @lb) ?_;refine WF.res T.c115 (r115 T o.ie (fun x hx=>⟨(o.ae x hx).n.one,(o.ae x hx).v.one⟩) Om (fun x=>uE x.ev) (fun x hx k e=>by
  obtain⟨d,we⟩:=w.ev x.ev (XZ hx);exact bG.of (a:=[]) (c:=[]) T.c97 (r97 T Z ((o.ae x hx).ext e) (BP we).1 (pw.ext e)))) ?_
 rintro v g hf;refine Rs t0 ?_;have QT: (V.de.map fun x=>uE x.ev).flatten.length≤V.de.length * 529:=by
  have:∀L:List EV,(∀x∈L,(uE x.ev).length≤529)→(L.map fun x=>uE x.ev).flatten.length≤L.length * 529:=by
   intro L
   induction L with
   | nil=>intro _;simp
   | cons x r ih=>
    intro hx;have h1:=ih fun y hy=>hx y (Yb _ hy)
    have h2:=hx x Si;rw[Yr,YF,Xs,Xy,YK];omega
  refine this _ fun x hx=>?_
  obtain⟨d,we⟩:=w.ev x.ev (XZ hx);have:=(BP we).2;rw[Bd T Z];omega
 refine WF.ce T.c114 (Z.join hf.a8 ⟨by rw[BD];omega,by rw[XB];omega⟩) fun g2=>?_
 refine Rs t0 ?_;rw[BD,uS,HV.bS,Za];rfl
end
section
variable {P:Program} (T:fA P) {B:ah}
include T
theorem Ov{W V b}(he:Ext B W)(o:cF B.length W b V)(w:lz V.bS)(hl:V.de.length≤1000)(gl:Gl B)(pw:Pw B)(X:Cj P)(Z:pZ P)(s:By)(hs:s.length≤2^36):
  db P 43 [.ptr b 0,.str s] W (fun v k=>lU B W b V (zt V.bS s) v k):=by
 obtain⟨g,rfl⟩:=he;exact P5 T o w hl gl pw X Z s hs
omit T in
theorem CL{h k s es cs}(hs:aK h s es cs)(hk:∀j,sB s=some j→j < h.length→k[j]? =h[j]?):aK k s es cs:=by
 cases hs with
 | nil=>exact .nil
 | mk hb hf ho he=>
  have:=hk _ rfl (Xr.1 hb).1;exact .mk (this.trans hb) hf ho he
omit T in
theorem JN{h s es cs}(hs:aK h s es cs){j}(hj:sB s=some j):j < h.length:=by
 cases hs with
 | nil=>cases hj
 | mk hb _ _ _=>cases hj;exact(Xr.1 hb).1
theorem P4{g V b}(o:cF B.length (B++g) b V)(w:lz V.bS)(gl:Gl B)(pw:Pw B)(X:Cj P)(Z:pZ P){s L}(hs:aK (B++g) s 3 (L.map sg))(hns:∀j,sB s=some j→some j∉V.ex b)
  (hlL:V.de.length+L.length≤1000) (bS:∀x∈L,x.1.length≤2^36) {H'} (ha:ml V.bS L=some H'):
  db P 71 [.ptr b 0,s] (B++g) (fun v k=>v= .bool true∧∃g' V',k=B++g'∧cF B.length (B++g') b V'∧V'.bS=H'∧lz V'.bS∧V'.de.length≤1000):=by
 refine .eF 35 T.mix T.c71 ?_;intro ts hlen t0 t1;unfold fn71;refine Rs (A4 t0 t1 @tJ hs.aP) ?_;refine WL.inv T.mix (fun n ts h'=>∃ (k:Nat) (V':HV) (g':ah),k≤L.length∧n=L.length - k∧h' =B++g'∧cF B.length (B++g') b V'∧lz V'.bS∧V'.de.length≤V.de.length+k∧ml V'.bS (L.drop k)=some H'∧aK (B++g') s 3 (L.map sg)∧(∀j,sB s=some j→some j∉V'.ex b)∧
   ts.length=35∧slot ts 0= .ptr b 0∧slot ts 11=s∧slot ts 12= .i L.length∧slot ts 13= .i k) L.length
  ⟨0,V,g,Om,rfl,rfl,o,w,Om,ha,hs,hns,Sn,(Sq t0),(Sq t1),(Sq t0),iF⟩ ?_
 clear t0 t1 hlen o w hs hns ha;clear ts;rintro _ ts _ ⟨k,V',g',hk,rfl,rfl,o,w,hVl,ha,hs,hns,hlen,t0,t11,t12,t13⟩;by_cases hlt:k < L.length
 ·have e3:=fk hlt;have e5:IntKind.i64.wrap ((k:Int)+1)= ((k+1:Nat):Int):=wrapN Om;have ix:=hs.dG (kk:=.i64) hlt;have ld:∀{k'},Ext (B++g') k'→ao (some 3) (cV s 3 k) (fun b=>k'[b]?)=some (.agg (sg L[k]),.az):=fun {k'} e=>hs.kB hlt e
  obtain⟨⟨a,m,c⟩,hx⟩:∃x,x=L[k]:=⟨_,rfl⟩;have hm: (a,m,c)∈L:=by rw[hx];exact XJ _
  have hd:L.drop k= (a,m,c)::L.drop (k+1):=by rw[hx];simp
  rw[←hx]at ld;unfold sg at ld;rw[hd,ml]at ha;split at ha
  case isFalse=>cases ha
  case isTrue hc=>
  have hc1: (zt V'.bS a).2.1=m:=hc.1;have Xl: (zt V'.bS a).2.2=c:=hc.2;have hwd:=Jy (s:=a) w;obtain⟨W,hW⟩:∃W,W=B++g'++ [aq.b [.str a,.str m,.i c]]:=⟨_,rfl⟩;have eW:Ext (B++g') W:=by rw[hW];exact Xx
  have mW:W[(B++g').length]? =some (.b [.str a,.str m,.i c]):=by rw[hW,XE (XH _),Yy];rfl
  have lW:∀{kk:ah} {n':Option Nat} {q:Nat},kk[(B++g').length]? =some (.b [.str a,.str m,.i c])→ao n' (.ptr (B++g').length q) (fun z=>kk[z]?)=cp n' q (.b [.str a,.str m,.i c]):=fun e=>an e
  refine Rs (A7 t0 t11 t12 t13 e3 ix @ld) ?_;rw[←hW];have lW1:=fun {n':Option Nat} {q:Nat}=>@lW W n' q mW
  refine Rs (A5 t0 t11 t12 t13 @lW1) ?_;refine WF.gen T.c43 (Ov T ((Ext.app _ (Ext.refl _):Ext B (B++g')).trans eW) (o.ext eW) w Om gl pw X Z a (bS _ hm)) ?_;rintro _ _ ⟨g2,V2,rfl,rfl,o2,hV2,hkp,hex⟩;have hWl:W.length= (B++g').length+1:=by rw[hW,Xs];rfl
  have m2: (B++g2)[(B++g').length]? =some (.b [.str a,.str m,.i c]):=by
   rw[hkp _ Om (fun hj=>by have:=o.BO hj;omega)];exact mW
  have lW2:=fun {n':Option Nat} {q:Nat}=>@lW (B++g2) n' q m2
  have d1:decide (m≠m)=false:=Xu (fun z=>z rfl);have d2:decide (c≠c)=false:=Xu (fun z=>z rfl);rw[hc1,Xl];refine Rs (A8 t0 t11 t12 t13 @lW2 @d1 @d2 e5) ?_;have hsW:=hs.ext eW;refine⟨L.length - (k+1),Om,k+1,V2,g2,Om,rfl,rfl,o2,by rw[hV2];exact hwd.1,?_,by rw[hV2];exact ha,CL hsW fun j hj hl=>hkp j hl (hns j hj),fun j hj hx=>?_,rfl⟩
  ·have e1:V2.de.length=V2.bS.de.length:=by simp[HV.bS]
   have e2:V'.de.length=V'.bS.de.length:=by simp[HV.bS]
   have:=hwd.2;rw[←hV2]at this;omega
  ·rcases hex j hx with hx| hx
   ·exact hns j hj hx
   ·have:=JN hs hj;omega
 ·have e3:=gq hlt;have e4:k=L.length:=Om
  rw[e4,Ys,ml]at ha;cases ha;refine Rs (A5 t0 t11 t12 t13 e3) ?_;exact⟨g',V',rfl,o,rfl,w,Om⟩
end
def Ix:List (By×By×Int):=[
 ([116,97,112,101,32,97,32,49,32,49,48],[100,111,110,101,32,49],0),
 ([116,97,112,101,32,98,32,53,32,49,48,48],[100,111,110,101,32,50],0),
 ([108,105,110,101,32,108,49,32,53,32,50],[100,111,110,101,32,51],0),
 ([115,104,111,116,32,115,49,32,108,49,32,97,32,54],[100,111,110,101,32,52],0),
 ([115,104,111,116,32,115,50,32,108,49,32,98,32,55],[100,111,110,101,32,53],0),
 ([99,111,112,121,32,97,32,98,32,56],[100,111,110,101,32,54],0),
 ([116,97,112,101,115,32,115,49],[97,32,98],0),
 ([99,111,112,121,32,97,32,98,32,49,50],[],30),
 ([119,97,110,116,32,108,49],[50,32,50,32,111,112,101,110],0),
 ([97,99,99,101,112,116,32,108,49,32,57],[100,111,110,101,32,55],0),
 ([115,104,111,116,32,115,51,32,108,49,32,98,32,57],[],23),
 ([115,111,117,114,99,101,32,109,49,32,108,49,32,57],[100,111,110,101,32,56],0),
 ([109,111,100,117,108,101,32,109,50,32,109,49,32,57,32,50],[100,111,110,101,32,57],0),
 ([109,111,100,117,108,101,32,109,51,32,109,50,32,57,32,51],[100,111,110,101,32,49,48],0),
 ([109,111,100,117,108,101,32,109,52,32,109,49,32,57,32,51],[],2),
 ([109,101,114,103,101,32,109,52,32,109,49,32,109,50,32,57],[],2),
 ([114,117,110,32,106,49,32,109,51,32,49,48,32,51],[100,111,110,101,32,49,49],0),
 ([116,105,108,101,32,106,49,32,49,48,32,50,32,55],[100,111,110,101,32,49,50],0),
 ([116,105,108,101,32,106,49,32,49,48,32,48,32,53],[100,111,110,101,32,49,51],0),
 ([108,101,102,116,32,106,49],[49],0),
 ([102,97,105,108,32,106,49,32,49,49,32,50],[100,111,110,101,32,49,52],0),
 ([108,101,102,116,32,106,49],[49,32,50],0),
 ([112,105,99,116,117,114,101,32,112,49,32,106,49,32,49,49],[],32),
 ([116,105,108,101,32,106,49,32,49,49,32,49,32,54],[100,111,110,101,32,49,53],0),
 ([116,105,108,101,32,106,49,32,49,49,32,50,32,55],[100,111,110,101,32,49,54],0),
 ([112,105,99,116,117,114,101,32,112,49,32,106,49,32,49,50],[100,111,110,101,32,49,55],0),
 ([102,114,111,109,32,112,49],[115,49,32,115,50],0),
 ([108,105,110,101,115,32,109,51],[108,49],0),
 ([117,110,115,97,102,101],[110,111,110,101],0),
 ([114,101,108,101,97,115,101,32,112,49,32,49,50],[100,111,110,101,32,49,56],0),
 ([117,110,100,111],[],21),
 ([114,101,108,101,97,115,101,100],[112,49,32,53,50,57,49,55,52],0)]
def ue:ki:=(ml ki.zero Ix).getD ki.zero
set_option maxRecDepth 100000 in
def Ll: (ml ki.zero Ix).isSome=true:=by decide+kernel
set_option maxRecDepth 100000 in
def HN:ue.de.length=18:=by decide+kernel
set_option maxRecDepth 100000 in
def B8:kT (ue.de.take 5) [115,49] 12= (false,0):=by decide+kernel
set_option maxRecDepth 100000 in
def B7:kT ue.de [115,49] 105= (true,0):=by decide+kernel
set_option maxRecDepth 100000 in
def HJ:fp ue.de 106= ([[115,49],[115,50]],0):=by decide+kernel
set_option maxRecDepth 100000 in
def Ep:yh ue.de [109,51]= ([[109,49],[109,50],[109,51]],0):=by decide+kernel
set_option maxRecDepth 100000 in
def HO:DX [5,6,7]= (529174,0):=by decide+kernel
set_option maxRecDepth 100000 in
def vJ: (mA ue.de [108,49]).1.length=8∧(mA ue.de [108,49]).2=0:=by decide+kernel
set_option maxRecDepth 100000 in
def HM: (uS ue.de).length≤100000:=by decide+kernel
set_option maxRecDepth 100000 in
def HL: (kV (uS ue.de++ [49])).2.2=28∧(kV (uS ue.de++ [49])).1.length=18∧(kV (uS ue.de++ [49])).2.1= (uS ue.de).length:=by decide+kernel
set_option maxRecDepth 100000 in
def HK:na [49,49]= [48,49,51,49,53,56,49]:=by decide+kernel
def yy{h c N}:mi .Iv (.slice h.length 0 1 1) (fun b=>(h++ [aq.cells [.int .u8 c] true true])[b]?) N=some (.str [UInt8.ofNat c.toNat],.az):=by
 simp only[mi,eT,XR,bf];rfl
def yv{n}(h0:0≤n)(h1:n < 10):UInt8.ofNat (IntKind.u8.wrap (IntKind.i64.wrap (48+n))).toNat=UInt8.ofNat (48+n.toNat):=by
 rw[bp Om Om,Gb Om Om];congr 1;omega
section
variable {P:Program} (T:fA P)
include T
set_option maxRecDepth 10000 in
theorem r197:∀{k} {n} {h},0≤n→n < 10^ (k+1)→k≤15→aA P 197 [.i n] h (fun v _=>v= .str (jv n)):=by
 intro k
 induction k with
 | zero=>
  intro n h h0 h1 _;refine .of T.mix T.c197 ?_;unfold fn197;have h10:n < 10:=by simpa using h1
  have d0:decide (n < 0)=false:=Xu Om;exact O9
 | succ k ih=>
  intro n h h0 h1 hk;refine .of T.mix T.c197 ?_;unfold fn197;have d0:decide (n < 0)=false:=Xu Om;by_cases h10:n < 10
  ·exact O9
  ·have d1:decide (n < 10)=false:=Xu h10;have hb:n≤10^17:=by
    have: (10:Int)^ (k+1+1)≤10^17:=by
     have:=Nat.pow_le_pow_right (n:=10) De (show k+1+1≤17 by omega)
     exact_mod_cast this
    omega
   have eq:n.tdiv 10=n / 10:=Int.tdiv_eq_ediv_of_nonneg h0;have em:n.tmod 10=n % 10:=Int.tmod_eq_emod_of_nonneg h0;have w1:IntKind.i64.wrap (n / 10)=n / 10:=bp Om Om;have bq:dW .quo (.i n) (.i 10)=some (.i (n / 10)):=by rw[Ec De,eq,w1]
   have bm:dW .rem (.i n) (.i 10)=some (.i (n % 10)):=by rw[nU De,em]
   refine Ws (A4 @d0 @d1 @bq @bm) ?_;refine WF.ce T.c197 (ih Om (by rw[Int.pow_succ]at h1;omega) Om) fun g1=>?_
   have hd:=lL (k:=k) (u:=(n / 10).toNat) (by
    have h2:n / 10 < 10^ (k+1):=by rw[Int.pow_succ]at h1;omega
    have h3: (((n / 10).toNat:Nat):Int)< ((10^ (k+1):Nat):Int):=by rw[Int.toNat_of_nonneg Om];exact_mod_cast h2
    exact_mod_cast h3)
   have bc:∀{c:UInt8},dW .add (.str (jv (n / 10))) (.str [c])=some (.str (jv (n / 10)++ [c])):=jy (by rw[j9];simp;omega);refine Ws (A5 @bq @bm @tZ @yy @bc) ?_;rw[yv Om Om,j9,j9,Lib.decDigits.eq_def n.toNat,dif_neg Om];congr 3
   ·omega
   ·congr 2;omega
theorem r108{k n h}(h0:0≤n)(h1:n < 10^ (k+1))(hk:k≤15):aA P 108 [.i n] h (fun v _=>v= .str (jv n)):=by
 refine .of T.mix T.c108 ?_;unfold fn108 Aq;refine Wn ?_;refine WF.ce T.c197 (r197 T h0 h1 hk) fun g=>?_
 exact Wn Tv
set_option maxRecDepth 10000 in
theorem r72{h}(s:By)(hs:s.length≤2^40):aA P 72 [.str s] h (fun v _=>v= .str (na s)):=by
 refine .kE 28 T.mix T.c72 ?_;intro ts hlen t0;unfold fn72;refine Rs t0 ?_;refine WL.inv T.mix (fun n ts' h'=>∃k:Nat,k≤s.length∧n=s.length - k∧h' =h∧ts'.length=28∧slot ts' 0= .str s∧slot ts' 3= .i (hO (s.take k))∧slot ts' 4= .i k) s.length
  ⟨0,Om,rfl,rfl,(Sq t0),(Sq t0),iF,iF⟩ ?_
 rintro _ ts' hz ⟨k,hk,rfl,hh,Ry,u0,u3,u4⟩;rw[hh];clear hh hz;clear hlen t0;have hlen:=Ry;clear Ry;by_cases hlt:k < s.length
 ·have e3:=fk hlt;have hb:=nf (s.take k);have hcn:=UInt8.toNat_lt s[k];have w1:IntKind.i64.wrap (339 * hO (s.take k))=339 * hO (s.take k):=bp Om Om;have w2:IntKind.i64.wrap (s[k].toNat:Int)= (s[k].toNat:Int):=bp Om Om;have w3:IntKind.i64.wrap (339 * hO (s.take k)+ (s[k].toNat:Int))=339 * hO (s.take k)+ (s[k].toNat:Int):=bp Om Om;have er:=nU (k:=.i64) (a:=339 * hO (s.take k)+ (s[k].toNat:Int)) (b:=9999749) De;rw[←uo,←mz hlt]at er
  repeat (first| simp (config:={ maxSteps:=1000000 }) only[aV,bd,bD,bE,reduceAdd,reduceMul,reduceLeDiff,reduceEqDiff,bF,hlen,XO,XR,u0,u3,u4,e3,jB hlt,w1,w2,w3,er,wrapN (show k+1 < 2^63 by omega)]| simp (config:={ maxSteps:=1000000 }) (disch:=first| (simp only[Xs,Xy,XA]<;>omega)| rfl| omega| fail) only[fM,aV,bd,bD,bE,reduceAdd,reduceMul,reduceLeDiff,reduceEqDiff,bF,hlen,XO,XR,u0,u3,u4,e3,jB hlt,w1,w2,w3,er,wrapN (show k+1 < 2^63 by omega)])
  exact IZ
 ·have e3:=gq hlt;have ek:k=s.length:=Om
  rw[ek,X8]at u3;have hb:=nf s;have hl:=tj s;refine Rs (A4 @u0 @u3 @u4 e3) ?_;refine WF.ce T.c108 (r108 T (k:=7) hb.1 Om Om) fun g=>?_
  refine Rs @u0 ?_;generalize hd:jv (hO s)=d at hl;have hT:na s=List.replicate (7 - d.length) 48++d:=by unfold na;rw[hd]
  refine WL.inv T.mix (fun n ts' h'=>∃j:Nat,d.length+j≤7∧n=7 - (d.length+j)∧Ext h h'∧ts'.length=28∧slot ts' 5= .str (List.replicate j 48++d)) (7 - d.length)
   ⟨0,Om,rfl,Xx,(Sq @u0),iF⟩ ?_
  rintro _ TD _ ⟨j,hj,rfl,⟨g2,rfl⟩,Uf,v5⟩;clear hlen;have hlen:=Uf;by_cases h7:d.length+j < 7
  ·have e7:decide (((List.replicate j (48:UInt8)++d).length:Int)< 7)=true:=Xz (by rw[Xs,YB];omega);have hbc: ([48] :By).length+ (List.replicate j (48:UInt8)++d).length < 2^62:=by rw[Xs,YB];simp only[Xy,XA];omega
   have bc:=jy hbc;refine Rs (A3 @v5 e7 @bc) ?_;exact⟨7 - (d.length+ (j+1)),Om,j+1,Om,rfl,rfl⟩
  ·have e7:decide (((List.replicate j (48:UInt8)++d).length:Int)< 7)=false:=Xu (by rw[Xs,YB];omega);have ej:j=7 - d.length:=Om
   refine Rs (A2 @v5 e7) ?_;rw[hT,ej]
end
def Iw(k:Nat):aj:=(fn15).body.dr k
def En(k:Nat):aj:=(Iw k).hd
def Lk:fn15= ⟨158,0,[(0,none)],.seq (En 0) (.seq (En 1) (.seq (En 2) (Iw 3)))⟩:=rfl
def vd{h:ah}{M:List (By)}:aK (h++ [aq.cells (M.map au).flatten true true]) (.slice h.length 0 (M.map au).length 1) 1 (M.map au):=(Fr.push (es:=1) (N:=0) (X3 _) (M.map au) (by simp[au])).a8
section
variable {P:Program} (T:fA P) {h:ah}
include T
omit T in
theorem Eo:ml ki.zero Ix=some ue:=by
 have:=Ll;unfold ue;generalize ml ki.zero Ix=o at this ⊢;cases o with
 | none=>cases this
 | some x=>rfl
theorem Lp{B W V b}(he:Ext B W)(o:cF B.length W b V)(w:lz V.bS)(gl:Gl B)(pw:Pw B)(X:Cj P)(Z:pZ P){s L}(hs:aK W s 3 (L.map sg))(hns:∀j,sB s=some j→some j∉V.ex b)
  (hlL:V.de.length+L.length≤1000) (bS:∀x∈L,x.1.length≤2^36) {H'} (ha:ml V.bS L=some H'):
  db P 71 [.ptr b 0,s] W (fun v k=>v= .bool true∧∃g' V',k=B++g'∧cF B.length (B++g') b V'∧V'.bS=H'∧lz V'.bS∧V'.de.length≤1000):=by
 obtain⟨g,rfl⟩:=he;exact P4 T o w gl pw X Z hs hns hlL bS ha
theorem OL(X:Cj P)(Z:pZ P){W:ah}(gl:Gl W)(pw:Pw W){V:HV}{b:Nat}(o:yK W b V)(w:lz V.bS)(hl:V.de.length≤1000)(hV:V.bS=ue){ts:TS}(hlen:ts.length=158)(t1:slot ts 1= .ptr b 0)(he:Ext h W):
  WC P bR (Iw 3) [] ts W (FQ [(0,none)] fun v k=>Ext h k∧v= .bool true):=by
 unfold Iw fn15;simp only[aj.j,aj.s,aj.r,aj.dr,aj.tl,aj.hd];refine Rs t1 ?_;refine WF.res T.c44 (r44 T o w hl) ?_;rintro sv g1 ⟨L,hL,oL⟩;rw[hV]at hL;have Vp:L.length=18:=by have:=X6 List.length hL;rw[XB,HN]at this;exact this
 have hsh:∀x∈L,x.ev.names.length≤2^30∧x.ev.cC.length≤2^30:=fun x hx=>by
  obtain⟨d,we⟩:=w.ev x.ev (by rw[hV,←hL];exact XZ hx);have h3: (bL d).length≤3∧cB d≤3:=by cases d<;>decide
  have:=we.nl;have:=we.vl;exact⟨Om,Om⟩
 have sh:Aa L:=⟨Om,hsh⟩;have d18:decide ((L.length:Int)≠18)=false:=Xu (fun z=>z Om);obtain⟨s5,e5,h5⟩:=oL.sl.Fc (lo:=none) (hi:=some (.i 5)) (l:=0) (u:=5) (jw (k:=5) Om);have h5':aK (W++g1) s5 5 ((L.take 5).map EV.row):=h5;have o5:fH (W++g1) (L.take 5) s5:=⟨h5',fun x hx=>oL.all x (YA hx)⟩;have sh5:Aa (L.take 5):=⟨by rw[Yq];omega,fun x hx=>hsh x (YA hx)⟩;have m5: (L.take 5).map EV.ev=ue.de.take 5:=by rw[List.map_take,hL]
 refine Rs (A4 t1 oL.sl.aP @d18 e5) ?_;refine WF.ce T.c16 (r16 T o5 sh5 (gl.ext Xx) [115,49] 12) fun g2=>?_
 rw[m5,B8];refine Rs t1 ?_;refine WF.ce T.c16 (r16 T (oL.ext Xx) sh (gl.ext Xx) [115,49] 105) fun g3=>?_
 rw[hL,B7];refine Rs t1 ?_;refine WF.res T.c17 (r17 T (oL.ext Xx) sh (gl.ext Xx) 106) ?_;rintro _ g4 ⟨su,rfl,hu⟩;rw[hL,HJ]at hu ⊢;refine Rs t1 ?_;refine WF.res T.c51 (r51 T (oL.ext Xx) sh (gl.ext Xx) [109,51]) ?_;rintro _ g5 ⟨sn,rfl,hn⟩;rw[hL,Ep]at hn ⊢;refine Rs t1 ?_;refine WF.ce T.c27 (r27 T (b9 [5,6,7]) De) fun g6=>?_
 rw[HO];refine Rs t1 ?_;refine WF.res T.c26 (r26 T (oL.ext Xx) sh (gl.ext Xx) [108,49]) ?_;rintro _ g7 ⟨ss,Ls,rfl,os,hLs⟩;rw[hL]at hLs ⊢;have hLsl:Ls.length=8:=by have:=X6 List.length hLs;rw[XB,vJ.1]at this;exact this
 rw[vJ.2];refine Rs t1 ?_;refine WF.ce T.c45 (r45 T Z (pw.ext Xx) (o.ext Xx) w hl) fun g8=>?_
 rw[hV];have hlg:=HM;have hrc:=HL;generalize uS ue.de=lg at hlg hrc ⊢;have bc:=jy (show lg.length+ ([49] :By).length < 2^62 by simp only[Xy,XA];omega);refine Rs (A2 t1 @bc) ?_;refine WF.res T.c37 (r37 T X Z (pw.ext Xx) (lg++ [49]) (by rw[Xs];simp only[Xy,XA];omega)) ?_;rintro _ g9 ⟨Lr,sr,hLr,rfl,fr,-⟩;have hLrl:Lr.length=18:=by have:=X6 List.length hLr;rw[XB,hrc.2.1]at this;exact this
 rw[hrc.1,hrc.2.2];have d8:decide ((Ls.length:Int)=8)=true:=Xz Om;have d19:decide ((Lr.length:Int)=18)=true:=Xz Om;have wz:IntKind.i64.wrap ((0:Int)+0)=0:=rfl;have z0:decide ((0:Int)=0)=true:=rfl;refine Rs (A5 t1 @wz @z0 @XY @XS) ?_;refine WF.res T.c25 (r25 T (L:=[[115,49],[115,50]]) (M:=[[115,49],[115,50]]) ?hu (vd (M:=[[115,49],[115,50]])) De De) ?_
 case hu=>exact hu.ext Xx
 rintro _ k1 rfl;have q1:decide (([[115,49],[115,50]] :List (By))= [[115,49],[115,50]])=true:=rfl;have q2:decide (([[109,49],[109,50],[109,51]] :List (By))= [[109,49],[109,50],[109,51]])=true:=rfl;rw[q1];refine Rs (A2 t1 @XS) ?_;refine WF.res T.c25 (r25 T (L:=[[109,49],[109,50],[109,51]]) (M:=[[109,49],[109,50],[109,51]]) ?hn (vd (M:=[[109,49],[109,50],[109,51]])) De De) ?_
 case hn=>exact hn.ext Xx
 rintro _ k2 rfl;rw[q2];have q3:decide ((529174:Int)=529174)=true:=rfl;have q4:decide ((28:Int)=28)=true:=rfl;have q5:decide ((lg.length:Int)= (lg.length:Int))=true:=Xz rfl;refine Rs (A9 t1 q3 q4 q5 @d8 @d19 os.sl.aP fr.a8.aP @XS) ?_;refine WF.ce T.c72 (r72 T [49,49] De) fun k3=>?_
 have q6:decide (([48,49,51,49,53,56,49] :By)= [48,49,51,49,53,56,49])=true:=Xz rfl;rw[HK];refine Rs (A3 t1 q6 @XS) ?_;exact⟨he.trans Xx,trivial⟩
theorem r15(X:Cj P)(Z:pZ P)(gl:Gl h)(pw:Pw h):aA P 15 [] h (fun v _=>v= .bool true):=by
 refine .of T.mix (Z6 T.c15 (X6 some Lk)) ?_;obtain⟨ts,Qn⟩:∃ts,ts=aT 158 []:=⟨_,rfl⟩;have hlen:ts.length=158:=by rw[Qn];rfl
 obtain⟨RR,Rg⟩:∃RR,RR=Iw 3:=⟨_,rfl⟩;show WC P bR _ [] (aT 158 []) h (FQ _ _);rw[←Qn,←Rg];clear Qn;unfold En Iw fn15;simp only[aj.j,aj.s,aj.r,aj.dr,aj.tl,aj.hd];refine Rs @hlen ?_;refine WF.res T.c70 (r70 T) ?_;rintro _ g0 ⟨rfl,hg⟩;have hg:g0= [.b [.af,.af,.af]]:=Zk hg;subst hg;refine Rs @hlen ?_;refine WF.gen T.c71 (Lp T (B:=h) (V:=V0) (b:=h.length) (L:=Ix) (H':=ue) Xx (LF.app _) lz.zero gl pw X Z (Fr.push (N:=0) (h:=h++ [aq.b [.af,.af,.af]]) (es:=3) (X3 _) (Ix.map sg) (fun x hx=>by obtain⟨y,_,rfl⟩:=X2.1 hx;rfl)).a8 (fun j hj hx=>by
  have:=LG j hx;have e: (h++ [aq.b [.af,.af,.af]]).length=j:=Yu hj;rw[Xs]at e;simp at e;omega) De De Eo) ?_
 rintro _ _ ⟨rfl,g',V',rfl,oV,hV,wV,hVl⟩;refine Rs (A2 @hlen @XW) ?_;rw[Rg];exact OL T X Z (gl.ext ⟨_,rfl⟩) (pw.ext ⟨_,rfl⟩) oV.rd wV hVl hV (Sq @hlen) (Sq @hlen) ⟨_,rfl⟩
end
def wQ:Go.Proofs.Tryz.prog.globals.size=9:=by kernel_rfl
def DQ:DR Go.Proofs.Tryz.prog 2=20:=by kernel_rfl
open Go.RowKit in
def DK{h:ah}{n:Int}(h0:-9223372036854775808≤n)(h1:n≤9223372036854775807){mu tl:Bool}(hb:h[2]? =some (.cells (Lib.pow10Tab.map (AV.int .u64)) mu tl)):
  lA Go.Proofs.Tryz.prog 113 [.int .i64 n] h (.str (Lib.itoa n)) h:=by
 intro m w vs hr ha;obtain⟨v,vs1,rfl,hv,hr1⟩:=aS.1 ha;rw[bC]at hr1;subst hr1;rw[VR]at hv;subst hv;obtain⟨e,he,hcb,hd,-,dX⟩:=hr.fN 2 (by rw[wQ];omega);obtain⟨cc,el,fz,hw,⟨hle,SW,hsz2⟩,Qw,-,-⟩:=hr.dN 2 e _ he hb;have htab:Lib.TabIs Go.Proofs.Tryz.prog w "internal/strconv.uint64pow10" .u64 Lib.pow10Tab:=by
  unfold Lib.TabIs World.var?;rw[Go.Proofs.Tryz.yj.m17];show(match w.heap[2]? with| some (.cells cs _ _)=>some cs| _=>none)=_;rw[hcb]at hw;rw[hw];have h20:cc.size=20:=by rw[hsz2,dX,DQ]
  refine X6 some (Array.ext_getElem? fun i=>?_);by_cases hi:i < 20
  ·have hl:i < Lib.pow10Tab.length:=by rw[Lib.pow10Tab_length];exact hi
   obtain⟨_,cv,Sk,Qr⟩:=Qw i (.int .u64 Lib.pow10Tab[i]) (by rw[YU,Xw hl];rfl);rw[VR]at Qr;rw[hd,Yk]at Sk;rw[Sk,Qr,YT,YU,Xw hl];rfl
  ·rw[YW Om,YW (by rw[List.size_toArray,XB,Lib.pow10Tab_length];omega)]
 refine(Go.Proofs.Any.strconv_Itoa Go.Proofs.Tryz.yj n h0 h1 w htab).mono ?_;rintro e' w' ⟨rfl,k,os,rfl⟩;have hh:∀i,i < w.heap.size→(Go.Sort.grow (w.drewN k) os).heap[i]? =w.heap[i]? :=fun i hi=>by
  show(w.heap++os)[i]? =_;rw[Array.getElem?_append_left hi]
 have hs:w.heap.size≤(Go.Sort.grow (w.drewN k) os).heap.size:=by
  show w.heap.size≤(w.heap++os).size;simp
 exact⟨_,m,rfl,rfl,⟨hr.cI,fun b' e' k' a1 a2=>(hr.dN b' e' k' a1 a2).heap (hh _ (hr.lt b' e' a1)),hr.sep,hr.fN,fun b' e' a1=>Ym (hr.lt b' e' a1) hs⟩,
  ⟨fun _ _=>rfl,XH _,fun b' e' a1 a2=>absurd (hr.cI b' e' a2) Om,fun _ _ x=>x,hs,rfl,rfl,rfl,fun i hi _=>hh i hi⟩⟩
theorem rT:∀xs:List (By),(xs.map fun x=>[AV.str x]).flatten=xs.map AV.str
 | []=>rfl
 | x::xs=>by rw[Yr,YF,rT xs];rfl
def aK.inv{h:ah}{b o n e es:Nat}{cs:List (List AV)}(hs:aK h (.slice b o n e) es cs):n=cs.length∧∃c mu tl,h[b]? =some (.cells c mu tl)∧(c.drop o).take (cs.length * es)=cs.flatten:=by
 generalize hx:AV.slice b o n e=x at hs;cases hs with
 | nil=>cases hx
 | mk hb hf ho he=>cases hx;exact⟨rfl,_,_,_,hb,hf⟩
open Go.RowKit in
def DJ{h:ah}{s:AV}{sep:By}{xs:List (By)}(hs:aK h s 1 (xs.map fun x=>[AV.str x]))(hl: (Lib.join xs sep).length≤140737488355328∧xs.length≤140737488355328):lA Go.Proofs.Tryz.prog 114 [s,.str sep] h (.str (Lib.join xs sep)) h:=by
 intro m w vs hr hargs;obtain⟨v1,vs1,rfl,UE,hr1⟩:=aS.1 hargs;obtain⟨v2,vs2,rfl,T2,Rv⟩:=aS.1 hr1;rw[bC]at Rv;subst Rv;rw[VR]at T2;subst T2;have fin:∀e w',(e= .returned (.string ⟨(Lib.join xs sep).toArray⟩)∧Below w.heap.size w w')→Rel Go.Proofs.Tryz.prog m h w (.str (Lib.join xs sep)) h e w':=by
  rintro e w' ⟨rfl,hb⟩;exact⟨_,m,rfl,rfl,⟨hr.cI,fun b e k h1 h2=>(hr.dN b e k h1 h2).heap (hb.block _ (hr.lt b e h1)),hr.sep,hr.fN,fun b e h1=>Ym (hr.lt b e h1) hb.size⟩,
   ⟨fun _ _=>rfl,XH _,fun b e h1 h2=>absurd (hr.cI b e h2) Om,fun _ _ h=>h,hb.size,hb.os,hb.output,hb.tape,fun i hi _=>hb.block i hi⟩⟩
 have zero:xs= []→∀ (a:Option Addr) (c:Nat),Calls Go.Proofs.Tryz.prog 114 #[.slice a 0 c,.string ⟨⟨sep⟩⟩] w (Rel Go.Proofs.Tryz.prog m h w (.str (Lib.join xs sep)) h):=fun hx a c=>by
  refine(Go.Proofs.Tryz.strings_Join_none a c ⟨⟨sep⟩⟩ w).mono fun e w' ⟨he,hw⟩=>fin e w' ⟨?_,hw▸Below.refl _ _⟩
  rw[he,hx];rfl
 have hlen:=hs.aP (fun _=>none);cases s with
 | af=>
  rw[VR]at UE;subst UE;simp only[Go.Abs.iL,XR,X1]at hlen;exact zero (Yw.1 hlen.symm) none 0
 | slice b o n es=>
  simp only[Go.Abs.iL,XR,X1]at hlen;subst hlen;rw[VR]at UE;obtain⟨ent,ca,cap,he,rfl,hcap,Q1,dX⟩:=UE;by_cases hz:xs.length=0
  ·have Sc:=Yw.1 hz;have:=zero Sc (some ca) cap;rw[hz];exact this
  ·have hca':=Q1 Om;subst hca';generalize SK:xs.map (fun x=>[AV.str x])=cs at hs;have hcl:cs.length=xs.length:=by rw[←SK];simp
   obtain⟨_,c,mu,tl,hb,hf⟩:=hs.inv
   ·obtain⟨cc,el,fz,hheap,_,Rb,_⟩:=hr.dN b ent _ he hb;have key:=Go.Proofs.Tryz.strings_Join ent.cb (o+ent.d) cap (xs.map fun l=>⟨⟨l⟩⟩) ⟨⟨sep⟩⟩ w ?_ (hr.lt b ent he) (by rw[XB];exact hl.2) (by rw[XB];omega) ?_
    ·rw[XB]at key;refine key.mono fun e w' ⟨he,hw⟩=>fin e w' ⟨?_,hw⟩
     rw[he,Za];simp[ZS]
    ·intro j x hx;rw[YU,XQ]at hx;obtain⟨l,Qz,rfl⟩:=hx;have hj:j < xs.length:=(Xr.1 Qz).1;have VQ:cs.flatten[j]? =some (.str l):=by
      rw[←SK];have:=rT xs;rw[this,YU,Qz];rfl
     rw[←hf,List.getElem?_take,XI Om,ZN]at VQ;obtain⟨_,cv,Sk,Qr⟩:=Rb _ _ VQ;rw[VR]at Qr;subst Qr;simp only[World.cell?,hheap,Option.isSome_none,Yj,XO];rw[show o+ent.d+j=ent.d+ (o+j) by omega];exact Sk
    ·rw[Za]
     simpa [ZS]using hl.1
 | _=>cases hs
open Go.RowKit in
def sd{P:Program}{m:bY}{h:ah}{w:World}(hr:HR P m h w){a:AV}{v:Value}{e:Ending}{w':World}(hv:VR m a v)(he:e= .returned v)(hb:Below w.heap.size w w'):Rel P m h w a h e w':=
 ⟨v,m,he,hv,⟨hr.cI,fun b e k h1 h2=>(hr.dN b e k h1 h2).heap (hb.block _ (hr.lt b e h1)),hr.sep,hr.fN,fun b e h1=>Ym (hr.lt b e h1) hb.size⟩,
  ⟨fun _ _=>rfl,XH _,fun b e h1 h2=>absurd (hr.cI b e h2) Om,fun _ _ h=>h,hb.size,hb.os,hb.output,hb.tape,fun i hi _=>hb.block i hi⟩⟩
theorem pQ:∀{s:By} {a:Nat},s.all eQ=true→∃n,Lib.decFrom a s=some n∧(n:Int)=s.foldl (fun n c=>10 * n+ ((c.toNat:Int) - 48)) (a:Int)
 | [],a,_=>⟨a,rfl,rfl⟩
 | c::s,a,h=>by
  simp only[YY,X4]at h;have hc:=j8.1 h.1;have hd:Lib.digitVal c=some (c.toNat - 48):=by unfold Lib.digitVal;rw[XI hc]
  obtain⟨n,h1,h2⟩:=pQ (s:=s) (a:=a * 10+ (c.toNat - 48)) h.2;refine⟨n,by rw[Lib.decFrom,hd];exact h1,?_⟩;rw[h2,Z2];congr 1;omega
def Ca{s:By}(h:s.all eQ=true)(hn:s≠[]):Lib.atoi s=some (BU s):=by
 obtain⟨n,h1,h2⟩:=pQ (a:=0) h;cases s with
 | nil=>exact absurd rfl hn
 | cons c r=>
  have hc:=j8.1 (by simp only[YY,X4]at h;exact h.1);have n1: (c==45)=false:=by
   exact z182
  have n2: (c==43)=false:=by
   exact z182
  rw[Lib.atoi,n1,n2,XG De,XG De,Lib.decNat,XG Si,h1,Zp,h2];rfl
open Go.RowKit in
def Er{h:ah}{s:By}(hd:s.all eQ=true)(hn:s≠[])(hl:s.length≤9):lA Go.Proofs.Tryz.prog 254 [.str s] h (.dJ [.int .i64 (BU s),.jY]) h:=by
 intro m w vs hr ha;obtain⟨v,vs1,rfl,hv,hr1⟩:=aS.1 ha;rw[bC]at hr1;subst hr1;rw[VR]at hv;subst hv;refine(Go.Proofs.Any.strconv_Atoi Go.Proofs.Tryz.DA ⟨⟨s⟩⟩ (BU s) (by show s.length≤18;omega) (Ca hd hn) w).mono ?_;rintro e' w' ⟨rfl,t,rfl⟩;exact sd hr ⟨_,rfl,aS.2 ⟨_,_,rfl,rfl,aS.2 ⟨_,_,rfl,rfl,rfl⟩⟩⟩ rfl (Lib.bytesWorld_below _ _ _)
open Go.RowKit in
def GA{h:ah}{n:Nat}(hn:n≤7):lA Go.Proofs.Tryz.prog 252 [.str [48],.int .i64 (n:Nat)] h (.str (List.replicate n 48)) h:=by
 intro m w vs hr ha;obtain⟨v1,vs1,rfl,UE,hr1⟩:=aS.1 ha;obtain⟨v2,vs2,rfl,T2,Rv⟩:=aS.1 hr1;rw[bC]at Rv;subst Rv;have UE:v1= .string ⟨⟨[48]⟩⟩:=UE;have T2:v2= .int .i64 (n:Int):=T2;subst UE;subst T2;have hs: (⟨⟨[48]⟩⟩:ByteArray).size=1:=rfl;refine(Go.Proofs.Any.strings_Repeat Go.Proofs.Tryz.DB Go.Proofs.Tryz.oD ⟨⟨[48]⟩⟩ n w Om (by rw[hs];omega)).mono ?_;rintro e' w' ⟨rfl,hb⟩;have er:Lib.repeatL [48] n=List.replicate n 48:=by
  have:=Lib.repeatL_replicate 48 1 n;rw[ZG]at this;exact this
 refine sd (v:=.string ⟨(Lib.repeatL [48] n).toArray⟩) hr ?_ rfl hb;show Value.string ⟨(Lib.repeatL [48] n).toArray⟩= .string ⟨⟨List.replicate n 48⟩⟩;rw[er]
def P2:pZ Go.Proofs.Tryz.prog:=by
 refine⟨fun h0 h1 w=>?_,fun hs hl=>⟨_,[],by rw[XU];exact DJ hs hl,rfl⟩,fun h1 h2 h3=>⟨_,[],by rw[XU];exact Er h1 h2 h3,rfl⟩,fun h1=>⟨_,[],by rw[XU];exact GA h1,rfl⟩⟩;obtain⟨mu,tl,hb⟩:=w;exact⟨_,[],by rw[XU];exact DK h0 h1 hb,rfl⟩
def PU:Cj Go.Proofs.Tryz.prog:=
 ⟨run_callFunc_extern Go.Proofs.Tryz.func288 (by kernel_rfl) (by kernel_rfl) (by kernel_rfl) (by kernel_rfl),run_callFunc_extern Go.Proofs.Tryz.func262 (by kernel_rfl) (by kernel_rfl) (by kernel_rfl) (by kernel_rfl)⟩
open Go.ChangeShapes Go.WideShapes Go.Deep
inductive CT where
 | int (k:IntKind)
 | bool
 | str
 | sl (row:List CT)
def lq(P:Program)(f:TypeId→Option (List CT)):List Field→Nat→Option (List CT)
 | [],_=>some []
 | x::r,o=>
  match f x.type with
  | some a=>
   if x.offset=o∧a.length=P.cellsOf x.type then
    match lq P f r (o+a.length)with
    | some b=>some (a++b)
    | none=>none
   else none
  | none=>none
def zw(P:Program):Nat→TypeId→Option (List CT)
 | 0,_=>none
 | n+1,t=>
  match P.underlying t with
  | some (.int k)=>some [.int k]
  | some .bool=>some [.bool]
  | some .string=>some [.str]
  | some (.slice e)=>
   match zw P n e with
   | some r=>if r.length=P.cellsOf e∧0 < r.length then some [.sl r]else none
   | none=>none
  | some (.struct fs)=>
   match lq P (zw P n) fs.toList 0 with
   | some r=>if r.length=P.cellsOf t then some r else none
   | none=>none
  | _=>none
mutual
def TY(h:ah):CT→AV→Prop
 | .int k,a=>∃z,a= .int k z∧(Lit.int k z).wf=true
 | .bool,a=>∃b,a= .bool b
 | .str,a=>∃s:By,a= .str s∧s.length≤maxLen
 | .sl r,a=>∃cs:List (List AV),aK h a r.length cs∧cs.length≤maxLen∧∀c∈cs,iR h r c
def iR(h:ah):List CT→List AV→Prop
 | [],l=>l= []
 | t::ts,l=>∃a l',l=a::l'∧TY h t a∧iR h ts l'
end
mutual
theorem TY.ext{h k}(e:Ext h k):∀{t} {a},TY h t a→TY k t a
 | .int _,a,x=>x
 | .bool,a,x=>x
 | .str,a,x=>x
 | .sl r,a,x=>by
  rw[TY]at x ⊢;obtain⟨cs,h1,h2,h3⟩:=x;exact⟨cs,h1.ext e,h2,fun c hc=>iR.ext e (h3 c hc)⟩
theorem iR.ext{h k}(e:Ext h k):∀{ts} {l},iR h ts l→iR k ts l
 | [],l,x=>x
 | t::ts,l,x=>by
  rw[iR]at x ⊢;obtain⟨a,l',h1,h2,h3⟩:=x;exact⟨a,l',h1,TY.ext e h2,iR.ext e h3⟩
end
theorem TY.one{h}:∀{t} {a},TY h t a→a.one=true
 | .int _,a,x=>by rw[TY]at x;obtain⟨z,rfl,_⟩:=x;rfl
 | .bool,a,x=>by rw[TY]at x;obtain⟨z,rfl⟩:=x;rfl
 | .str,a,x=>by rw[TY]at x;obtain⟨z,rfl,_⟩:=x;rfl
 | .sl r,a,x=>by rw[TY]at x;obtain⟨z,h1,_⟩:=x;exact h1.one
theorem iR.one{h}:∀{ts} {l},iR h ts l→l.all AV.one=true
 | [],l,x=>by rw[iR]at x;subst x;rfl
 | t::ts,l,x=>by
  rw[iR]at x;obtain⟨a,l',rfl,h1,h2⟩:=x;rw[YY,h1.one,iR.one h2];rfl
theorem iR.length{h}:∀{ts} {l},iR h ts l→l.length=ts.length
 | [],l,x=>by rw[iR]at x;subst x;rfl
 | t::ts,l,x=>by
  rw[iR]at x;obtain⟨a,l',rfl,h1,h2⟩:=x;rw[Xy,Xy,iR.length h2]
theorem iR.append{h}:∀{ts us} {l m},iR h ts l→iR h us m→iR h (ts++us) (l++m)
 | [],us,l,m,x,y=>by rw[iR]at x;subst x;exact y
 | t::ts,us,l,m,x,y=>by
  rw[iR]at x;obtain⟨a,l',rfl,h1,h2⟩:=x;show iR h (t:: (ts++us)) (a:: (l'++m));rw[iR];exact⟨a,_,rfl,h1,iR.append h2 y⟩
def gp(E:List rQ):bY:=fun b=>E[b]?
def jO(E F:List rQ): (gp E).le (gp (E++F)):=fun b e hb=>by
 unfold gp at hb ⊢;rw[Xv (Xr.1 hb).1];exact hb
structure AW(P:Program)(w:World)(E:List rQ)(B:ah):Prop where
 len:E.length=B.length
 own:∀ (b:Nat) e,E[b]? =some e→e.own=false∧e.cb < w.heap.size
 dN:∀ (b:Nat) e k,E[b]? =some e→B[b]? =some k→BR P (gp E) w e k∧(k= .dead∨∃c,k= .cells c false false)
 fN:∀g,g < P.globals.size→∃e,E[g]? =some e∧e.cb=g∧e.d=0∧e.own=false∧e.sz=DR P g
variable {P:Program} {w:World} {E:List rQ} {B:ah}
def AW.hr(a:AW P w E B):HR P (gp E) B w where
 cI:=fun b e hb=>by rw[←a.len];exact(Xr.1 hb).1
 dN:=fun b e k hb hk=>(a.dN b e k hb hk).1
 sep:=fun b1 b2 e1 e2 k1 k2 _ h1 h2 hk1 Qq _=>by
  rcases(a.dN b1 e1 k1 h1 hk1).2 with rfl| ⟨c1,rfl⟩
  ·cases k2<;>trivial
  ·rcases(a.dN b2 e2 k2 h2 Qq).2 with rfl| ⟨c2,rfl⟩
   ·trivial
   ·exact⟨rfl,rfl,fun x=>by cases x⟩
 fN:=a.fN
 lt:=fun b e hb=>(a.own b e hb).2
def AW.push(a:AW P w E B){e k}(ho:e.own=false)(hlt:e.cb < w.heap.size)(hb:BR P (gp E) w e k)(hk:k= .dead∨∃c,k= .cells c false false):AW P w (E++ [e]) (B++ [k]) where
 len:=by simp[a.len]
 own:=fun b e' h=>by
  by_cases hlb:b < E.length
  ·rw[Xv hlb]at h;exact a.own b e' h
  ·have:=(Xr.1 h).1;simp at this;have:b=E.length:=Om
   subst this;simp at h;subst h;exact⟨ho,hlt⟩
 dN:=fun b e' k' h h'=>by
  by_cases hlb:b < E.length
  ·rw[Xv hlb]at h;rw[Xv (by rw[←a.len];exact hlb)]at h';exact⟨(a.dN b e' k' h h').1.mono (jO E [e]),(a.dN b e' k' h h').2⟩
  ·have:=(Xr.1 h).1;simp at this;have RJ:b=E.length:=Om
   have hbb:b=B.length:=by rw[RJ,a.len]
   rw[RJ]at h;rw[hbb]at h';simp at h h';subst h;subst h';exact⟨hb.mono (jO E [e]),hk⟩
 fN:=fun g hg=>by
  obtain⟨e',h1,h2⟩:=a.fN g hg;exact⟨e',jO E [e] g e' h1,h2⟩
def Laid(P:Program)(w:World)(E:List rQ)(B:ah)(row:List CT)(cs:List Value):Prop:=
 ∃F C ax,AW P w (E++F) (B++C)∧cH (gp (E++F)) ax cs∧iR (B++C) row ax
def Laid.app{row row2 cs Tm}(h1:Laid P w E B row cs)(h2:∀F C,AW P w (E++F) (B++C)→Laid P w (E++F) (B++C) row2 Tm):Laid P w E B (row++row2) (cs++Tm):=by
 obtain⟨F,C,ax,a1,a2,a3⟩:=h1;obtain⟨F',C',ax',b1,b2,b3⟩:=h2 F C a1;refine⟨F++F',C++C',ax++ax',by rw[←Xt,←Xt];exact b1,?_,?_⟩
 ·rw[←Xt];exact(cH.mono (jO _ _) _ _ a2).append b2
 ·rw[←Xt];exact iR.append (a3.ext ⟨C',rfl⟩) b3
def BA(a:AW P w E B):Laid P w E B [] []:=⟨[],[],[],by simpa using a,by rw[bC],rfl⟩
def nJ(a:AW P w E B){t x v}(hv:VR (gp E) x v)(ht:TY B t x):Laid P w E B [t] [v]:=
 ⟨[],[],[x],by simpa using a,by simpa using aS.2 ⟨v,[],rfl,hv,by rw[bC]⟩,by
  rw[XU,iR];exact⟨x,[],rfl,ht,rfl⟩⟩
section
variable {H:Type} {enc:TypeId×Value→H} {base:Nat} {held:Bool}
theorem sJ{es:Nat}{r:List CT}{a:Addr}{m:Nat}(row:∀i,i < m→∃cs,w.cells? base (a.add (i * es)) es=some cs∧∀E B,AW P w E B→Laid P w E B r cs):∀ (k:Nat) {E:List rQ} {B:ah},k≤m→AW P w E B→
  ∃ (F:List rQ) (C:ah) (rows:List (List AV)) (VL:List Value),AW P w (E++F) (B++C)∧rows.length=k∧cH (gp (E++F)) rows.flatten VL∧(∀c∈rows,iR (B++C) r c)∧VL.length=k * es∧∀i,i < k * es→w.cell? (a.add i)=VL[i]?
 | 0,E,B,_,aw=>⟨[],[],[],[],by rw[XU,XU];exact aw,rfl,rfl,fun c hc=>by(cases hc),by rw[ZC];rfl,fun i hi=>by rw[ZC]at hi;exact absurd hi (Nat.not_lt_zero _)⟩
 | k+1,E,B,hkm,aw=>by
  obtain⟨F,C,rows,VL,h1,h2,h3,h4,h5,h6⟩:=sJ row k Om aw;obtain⟨cs,SK,hl⟩:=row k Om;obtain⟨F',C',ax,a1,a2,a3⟩:=hl _ _ h1;obtain⟨_,hlen,Rb⟩:=World.cells?_some SK;refine⟨F++F',C++C',rows++ [ax],VL++cs,by rw[←Xt,←Xt];exact a1,by rw[Xs,h2];rfl,?_,?_,by rw[Xs,h5,hlen,YK],?_⟩
  ·rw[←Xt,Zc];refine(cH.mono (jO _ _) _ _ h3).append ?_;have: [ax].flatten=ax:=Si
   rw[this];exact a2
  ·intro c UN;rw[←Xt];rcases XC.1 UN with hm| hm
   ·exact(h4 c hm).ext ⟨C',rfl⟩
   ·rw[XT]at hm;subst hm;exact a3
  ·intro i hi;rw[YK]at hi;by_cases hlt:i < k * es
   ·rw[h6 i hlt,Xv Om]
   ·rw[XE Om,h5,←Rb (i - k * es) Om,add_add,show k * es+ (i - k * es)=i by omega]
theorem pK{f:TypeId→Option (List CT)}{cs:List Value}:∀ (l:List Field) (o:Nat) {row:List CT},lq P f l o=some row→
  (∀x∈l,∀a,f x.type=some a→∀E B,AW P w E B→Laid P w E B a ((cs.drop x.offset).take (P.cellsOf x.type)))→∀E B,AW P w E B→Laid P w E B row ((cs.drop o).take row.length)
 | [],o,row,h,_,E,B,aw=>by
  unfold lq at h;cases h;rw[XA,List.take_zero];exact BA aw
 | x::l,o,row,h,hf,E,B,aw=>by
  unfold lq at h;split at h
  case h_2=>cases h
  rename_i a ha;split at h
  case isFalse=>cases h
  rename_i hc;split at h
  case h_2=>cases h
  rename_i b hb;cases h;have h1:=hf x (Yn ..) a ha E B aw;rw[hc.1,←hc.2]at h1;rw[Xs,List.take_add,YX];exact h1.app fun F C aw'=>pK l _ hb (fun y hy=>hf y (Yb _ hy)) _ _ aw'
theorem iM(hz:∃ (z:Nat) (cc:Array Value) (el:TypeId) (fz:Nat×Nat),w.heap[z]? =some (Obj.cells cc el fz)):∀ (n:Nat) (t:TypeId) (row:List CT),zw P n t=some row→∀ (fuel:Nat) (cs:List Value) (x:DataW H×List MemPlace),
  DataW.trod enc P w base (fun _=>true) held fuel t cs=some x→∀E B,AW P w E B→Laid P w E B row cs
 | 0,t,row,h,_,_,_,_,_,_,_=>by cases h
 | n+1,t,row,h,fuel,cs,x,ht,E,B,aw=>by
  unfold zw at h;split at h
  ·rename_i k hu;cases h;obtain⟨z,rfl,_,hwf⟩:=DataW.trod_int hu ht;exact nJ aw (x:=.int k z) (by rw[VR]) (by rw[TY];exact⟨z,rfl,hwf⟩)
  ·rename_i hu;cases h;obtain⟨b,rfl,_⟩:=DataW.trod_bool hu ht;exact nJ aw (x:=.bool b) (by rw[VR]) (by rw[TY];exact⟨b,rfl⟩)
  ·rename_i hu;cases h;obtain⟨s,rfl,_,hs⟩:=DataW.trod_string hu ht;refine nJ aw (x:=.str s.data.toList) (by rw[VR]) (by rw[TY];exact⟨_,rfl,by simpa using hs⟩)
  ·rename_i e hu;split at h
   case h_2=>cases h
   rename_i r hr;split at h
   case isFalse=>cases h
   rename_i hc;cases h;obtain⟨RM,hpos⟩:=hc;rcases open_slice hu ht with⟨rfl,_⟩| ⟨a,len,cap,m,n',D,Pl,rfl,hb,hl,hm,U7,_,hx⟩
   ·exact nJ aw (x:=.af) (by rw[VR]) (by rw[TY];exact⟨[],.nil,X3 _,fun c hc=>by cases hc⟩)
   simp only[XR]at U7;subst U7;rw[←RM]at hx;by_cases hcap:m=0
   ·have QG:len=0:=Om
    subst QG;subst hcap;obtain⟨z,cc,el,fz,Wu⟩:=hz;have h0lt:z < w.heap.size:=(XM.1 Wu).1;have hbr:BR P (gp E) w ⟨z,0,cc.size,false⟩ (.cells [] false false):=
     ⟨cc,el,fz,Wu,⟨X3 _,X3 _,rfl⟩,fun i x hx=>by(rw[List.getElem?_nil]at hx;cases hx),⟨fun x=>absurd x Zv,fun x=>by rcases x with x| x<;>exact absurd x Zv⟩⟩
    have aw2:=aw.push (e:=⟨z,0,cc.size,false⟩) (k:=.cells [] false false) rfl h0lt hbr (.inr ⟨[],rfl⟩);refine⟨[⟨z,0,cc.size,false⟩],[.cells [] false false],[.slice B.length 0 0 r.length],aw2,?_,?_⟩
    ·refine aS.2 ⟨_,[],rfl,?_,by rw[bC]⟩;rw[VR];exact⟨⟨z,0,cc.size,false⟩,a,0,by unfold gp;rw[←aw.len];simp,rfl,XH _,fun x=>absurd x Om,by rw[ZC];exact X3 _⟩
    ·rw[iR];refine⟨_,[],rfl,?_,by rw[iR]⟩;rw[TY];refine⟨[],?_,X3 _,fun c hc=>by cases hc⟩;exact aK.mk (cs:=[]) (b:=B.length) (o:=0) (c:=[]) (mu:=false) (tl:=false) Si Si Si (fun x hx=>by cases hx)
   ·obtain⟨cs0,h00,_⟩:=hx 0 Om;obtain⟨csl,Sz,_⟩:=hx (m - 1) Om;obtain⟨_,QG,hc0⟩:=World.cells?_some h00;obtain⟨_,hlenl,hcl⟩:=World.cells?_some Sz;have Rf:=hc0 0 hpos;have hlast:=hcl (r.length - 1) Om;rw[add_add]at hlast;rw[add_add,ZC,ZZ]at Rf;have ha0:a.add 0=a:=by unfold Addr.add;simp
    rw[ha0,Xw Om]at Rf;unfold World.cell? at Rf;split at Rf
    case h_2=>cases Rf
    rename_i cc el fz SI;split at Rf
    ·cases Rf
    rename_i hspot;have Uq:a= ⟨a.block,a.off,none⟩:=by
     cases a with
     | mk b o s=>cases s with
      | none=>rfl
      | some s=>exact absurd rfl hspot
    have S9:∀i,a.add i= ⟨a.block,a.off+i,none⟩:=fun i=>by
     unfold Addr.add;by_cases hi:i=0
     ·subst hi;rw[XI rfl];exact Uq
     ·rw[XG hi]
    have Tl:∀i,w.cell? (a.add i)=cc[a.off+i]? :=fun i=>by
     rw[S9];unfold World.cell?;simp only[SI,Option.isSome_none,Yj,XO]
    have hmr: (m - 1) * r.length+ (r.length - 1)+1=m * r.length:=by
     obtain⟨m',rfl⟩:∃m',m=m'+1:=⟨m - 1,Om⟩;rw[YK];simp only[Nat.add_sub_cancel];omega
    have dX:a.off+m * r.length≤cc.size:=by
     rw[Tl,Xw Om]at hlast;have:=(XM.1 hlast).1;omega
    obtain⟨F,C,rows,VL,h1,h2,h3,h4,h5,h6⟩:=sJ (P:=P) (w:=w) (base:=base) (es:=r.length) (r:=r) (a:=a) (m:=m)
     (fun i hi=>by
      obtain⟨cs',q1,q2⟩:=hx i hi;exact⟨cs',q1,fun E B aw=>iM hz n e r hr _ _ _ q2 E B aw⟩) len hl aw
    have QT:rows.flatten.length=len * r.length:=by rw[←h5,h3.length]
    have hmul:len * r.length≤m * r.length:=Yz _ hl;have R9:∀c∈rows,c.length=r.length:=fun c hc=>(h4 c hc).length
    have hone:∀x∈rows.flatten,x.one=true:=fun x hx=>by
     obtain⟨c,hc,UD⟩:=List.mem_flatten.1 hx;exact X5.1 (h4 c hc).one x UD
    have hlt:a.block < w.heap.size:=(XM.1 SI).1;have hbr:BR P (gp (E++F)) w ⟨a.block,a.off,cc.size,false⟩ (.cells rows.flatten false false):=
     ⟨cc,el,fz,SI,⟨by rw[QT];show a.off+_≤_;omega,by rw[QT];show a.off+_≤cc.size;omega,rfl⟩,fun i x hx=>by
       refine⟨hone x (Yo hx),?_⟩;obtain⟨v,hv,Qr⟩:=h3.get hx;have hi:i < len * r.length:=by rw[←QT];exact(Xr.1 hx).1
       refine⟨v,?_,Qr⟩;show cc[a.off+i]? =some v;rw[←Tl,h6 i hi,hv],⟨fun x=>absurd x Zv,fun x=>by rcases x with x| x<;>exact absurd x Zv⟩⟩
    have aw2:=h1.push (e:=⟨a.block,a.off,cc.size,false⟩) (k:=.cells rows.flatten false false) rfl hlt hbr (.inr ⟨_,rfl⟩);rw[Xt,Xt]at aw2;refine⟨F++ [⟨a.block,a.off,cc.size,false⟩],C++ [.cells rows.flatten false false],[.slice (B++C).length 0 len r.length],aw2,?_,?_⟩
    ·refine aS.2 ⟨_,[],rfl,?_,by rw[bC]⟩;rw[VR];refine⟨⟨a.block,a.off,cc.size,false⟩,a,m,?_,rfl,hl,fun _=>?_,?_⟩
     ·unfold gp;rw[←h1.len,←Xt,XE (XH _),Yy];rfl
     ·show a= ⟨a.block,0+a.off,none⟩;rw[Yk];exact Uq
     ·show 0+a.off+m * r.length≤cc.size;omega
    ·rw[iR];refine⟨_,[],rfl,?_,by rw[iR]⟩;rw[TY];refine⟨rows,?_,Om,fun c hc=>?_⟩
     ·rw[←h2];refine aK.mk (c:=rows.flatten) (mu:=false) (tl:=false) ?_ ?_ ?_ R9
      ·rw[←Xt,XE (XH _),Yy];rfl
      ·rw[YO,h2,←QT,X8]
      ·rw[h2,QT];omega
     ·rw[←Xt];exact(h4 c hc).ext ⟨_,rfl⟩
  ·rename_i fs hu;split at h
   case h_2=>cases h
   rename_i r hr;split at h
   case isFalse=>cases h
   rename_i hc;cases h;obtain⟨xs,n',rfl,rfl,hlen,hxl,hf⟩:=DataW.trod_struct hu ht;have:=pK (P:=P) (w:=w) (cs:=cs) fs.toList 0 hr (fun x hx a ha E B aw=>by
    obtain⟨i,hi⟩:=List.getElem?_of_mem hx;have hi':fs[i]? =some x:=by rw[←YS];exact hi
    have hlt:i < xs.length:=by rw[hxl];exact(XM.1 hi').1
    have h1:=hf i x hi';rw[Xw hlt]at h1;exact iM hz n x.type a ha _ _ _ h1 E B aw) E B aw
   rw[YO,hc,←hlen,X8]at this;exact this
  ·cases h
inductive AT where
 | one (t:CT)
 | agg (r:List CT)
def FP(P:Program)(e:TypeId):Option CT:=
 match P.underlying e with
 | some (.int k)=>some (.int k)
 | some .string=>some .str
 | _=>none
def HQ(P:Program)(n:Nat)(t:TypeId):Option AT:=
 match P.underlying t with
 | some (.struct _)=>
  match zw P n t with
  | some r=>some (.agg r)
  | none=>none
 | some (.int k)=>some (.one (.int k))
 | some .bool=>some (.one .bool)
 | some .string=>some (.one .str)
 | some (.slice _)=>
  match zw P n t with
  | some [c]=>some (.one c)
  | _=>none
 | some (.array m e)=>
  match FP P e with
  | some c=>if P.cellsOf e=1∧P.cellsOf t=m then some (.agg (List.replicate m c))else none
  | none=>none
 | _=>none
def tw{w r b0}{t e:TypeId}{m v}(ht:P.underlying t=some (.array m e))(h:Value.okWide P w r b0 t v):∃cs,v= .agg cs∧cs.size=P.cellsOf t:=by
 simp only[Value.okWide,ht]at h;obtain⟨cs,h1,h2,_⟩:=h;exact⟨cs,h1,h2⟩
theorem sC{M B c}:∀ (L:List Value),(∀i (hi:i < L.length),∃a,VR M a L[i]∧TY B c a)→∃l:List AV,cH M l L∧iR B (List.replicate L.length c) l
 | [],_=>⟨[],by rw[bC],by rw[XA,ZW,iR]⟩
 | v::L,h=>by
  obtain⟨a,e,hz⟩:=h 0 Si;obtain⟨l,h1,h2⟩:=sC L fun i hi=>h (i+1) (by simpa using hi)
  simp only[List.getElem_cons_zero]at e;refine⟨a::l,aS.2 ⟨_,_,rfl,e,h1⟩,?_⟩;rw[Xy,Y5,iR];exact⟨_,_,rfl,hz,h2⟩
def sZ(P:Program)(n:Nat):List TypeId→Option (List AT)
 | []=>some []
 | t::ts=>
  match HQ P n t,sZ P n ts with
  | some a,some l=>some (a::l)
  | _,_=>none
def E6(h:ah):AT→AV→Prop
 | .one t,a=>TY h t a
 | .agg r,a=>∃l,a= .agg l∧iR h r l
theorem E6.ext{h k}(e:Ext h k):∀{t} {a},E6 h t a→E6 k t a
 | .one _,_,x=>TY.ext e x
 | .agg _,_,⟨l,e1,x⟩=>⟨l,e1,iR.ext e x⟩
def rN(h:ah):List AT→List AV→Prop
 | [],l=>l= []
 | t::ts,l=>∃a l',l=a::l'∧E6 h t a∧rN h ts l'
def BB(hz:∃ (z:Nat) (cc:Array Value) (el:TypeId) (fz:Nat×Nat),w.heap[z]? =some (Obj.cells cc el fz)){n}{t:TypeId}{at'}(h:HQ P n t=some at'){v d ps}(ht:DataW.Trod enc P w base (fun _=>true) held t v d ps)
  {r} {b0} (ho:Value.okWide P w r b0 t v) (aw:AW P w E B):∃ (F:List rQ) (C:ah) (a:AV),AW P w (E++F) (B++C)∧VR (gp (E++F)) a v∧E6 (B++C) at' a:=by
 obtain⟨fuel,ht⟩:=ht;unfold HQ at h;split at h
 ·rename_i fs hu;split at h
  case h_2=>cases h
  rename_i r hr;cases h;obtain⟨cs,rfl,_⟩:=okWide_struct hu ho;obtain⟨F,C,ax,h1,h2,h3⟩:=iM hz n t r hr fuel _ _ ht E B aw;refine⟨F,C,.agg ax,h1,?_,ax,rfl,h3⟩;rw[VR];exact⟨_,rfl,h2⟩
 ·rename_i k hu;cases h;obtain⟨z,rfl⟩:=okWide_int hu ho;obtain⟨z',e,_,hwf⟩:=DataW.trod_int hu ht;cases e;exact⟨[],[],.int k z,by rw[XU,XU];exact aw,by rw[VR],by show TY _ _ _;rw[TY];exact⟨z,rfl,hwf⟩⟩
 ·rename_i hu;cases h;obtain⟨z,rfl⟩:=okWide_bool hu ho;exact⟨[],[],.bool z,by rw[XU,XU];exact aw,by rw[VR],by show TY _ _ _;rw[TY];exact⟨z,rfl⟩⟩
 ·rename_i hu;cases h;obtain⟨s,rfl⟩:=okWide_string hu ho;obtain⟨s',e,_,hs⟩:=DataW.trod_string hu ht;cases e;exact⟨[],[],.str s.data.toList,by rw[XU,XU];exact aw,by rw[VR],by show TY _ _ _;rw[TY];exact⟨_,rfl,by simpa using hs⟩⟩
 ·rename_i e hu;split at h
  case h_2=>cases h
  rename_i c hc;cases h;obtain⟨a,len,cap,rfl⟩:=okWide_slice hu ho;obtain⟨F,C,ax,h1,h2,h3⟩:=iM hz n t _ hc fuel _ _ ht E B aw;rw[iR]at h3;obtain⟨x,l',rfl,h4,h5⟩:=h3;rw[iR]at h5;subst h5;obtain⟨y,ys,e,h6,_⟩:=aS.1 h2;cases e;exact⟨F,C,x,h1,h6,h4⟩
 ·rename_i m e hu;split at h
  case h_2=>cases h
  rename_i c hk;split at h
  case isFalse=>cases h
  rename_i hc;cases h;obtain⟨cs,rfl,SK⟩:=tw hu ho;obtain⟨xs,n',rfl,_,hlen,hxl,hf⟩:=DataW.trod_array hu ht;have hcl: (Value.agg cs).cells.toList=cs.toList:=rfl;rw[hcl]at hlen hf;rw[hc.2]at hlen;obtain⟨l,h1,h2⟩:=sC (M:=gp E) (B:=B) (c:=c) cs.toList fun i hi=>by
   have hi':i < xs.length:=Om
   have h3:=hf i Om;rw[hc.1,ZG,Xw hi',Zw hi,Zo,List.take_zero]at h3;unfold FP at hk;split at hk
   ·rename_i k hk';cases hk;obtain⟨z,e1,_,hwf⟩:=DataW.trod_int hk' h3;exact⟨.int k z,by rw[(List.cons.inj e1).1,VR],by rw[TY];exact⟨z,rfl,hwf⟩⟩
   ·rename_i hk';cases hk;obtain⟨s',e1,_,hs⟩:=DataW.trod_string hk' h3;exact⟨.str s'.data.toList,by rw[(List.cons.inj e1).1,VR],by rw[TY];exact⟨_,rfl,by simpa using hs⟩⟩
   ·cases hk
  rw[hlen]at h2;exact⟨[],[],.agg l,by rw[XU,XU];exact aw,by rw[VR,XU];exact⟨_,rfl,h1⟩,l,rfl,by rw[XU];exact h2⟩
 ·cases h
theorem sK(hz:∃ (z:Nat) (cc:Array Value) (el:TypeId) (fz:Nat×Nat),w.heap[z]? =some (Obj.cells cc el fz)){n r b0}:∀ (tys:List TypeId) {ats},sZ P n tys=some ats→∀ (vs:List Value) (ds:List (DataW H)) (ps:List MemPlace),
  DataW.TrodAll enc P w base (fun _=>true) held tys vs ds ps→(∀ (j:Nat) t v,tys[j]? =some t→vs[j]? =some v→Value.okWide P w r b0 t v)→∀{E} {B},AW P w E B→
  ∃ (F:List rQ) (C:ah) (ax:List AV),AW P w (E++F) (B++C)∧cH (gp (E++F)) ax vs∧rN (B++C) ats ax
 | [],ats,h,vs,ds,ps,ht,_,E,B,aw=>by
  unfold sZ at h;cases h;cases vs with
  | cons v vs=>cases ds<;>exact ht.elim
  | nil=>exact⟨[],[],[],by rw[XU,XU];exact aw,by rw[bC],by rw[rN]⟩
 | t::tys,ats,h,vs,ds,ps,ht,ho,E,B,aw=>by
  unfold sZ at h;split at h
  case h_2=>cases h
  rename_i a l ha hl;cases h;cases vs with
  | nil=>cases ds<;>exact ht.elim
  | cons v vs=>
   cases ds with
   | nil=>exact ht.elim
   | cons d ds=>
    obtain⟨p,q,h1,h2,_⟩:=ht;obtain⟨F,C,x,a1,a2,a3⟩:=BB hz ha h1 (ho 0 t v rfl rfl) aw;obtain⟨F',C',xs,b1,b2,b3⟩:=sK hz tys hl vs ds q h2 (fun j t v h h'=>ho (j+1) t v h h') a1;refine⟨F++F',C++C',x::xs,by rw[←Xt,←Xt];exact b1,?_,?_⟩
    ·rw[←Xt];exact aS.2 ⟨v,vs,rfl,VR.mono (jO _ _) _ _ a2,b2⟩
    ·rw[←Xt,rN];exact⟨x,xs,rfl,a3.ext ⟨C',rfl⟩,b3⟩
end
open Go.ChangeShapes Go.WideShapes Go.RowKit
def B9(f:DataW Unit→Option (List AV)):List (DataW Unit)→Option (List AV)
 | []=>some []
 | d::r=>
  match f d,B9 f r with
  | some a,some b=>some (a++b)
  | _,_=>none
def yz(P:Program):Nat→TypeId→DataW Unit→Option (List AV)
 | 0,_,_=>none
 | n+1,t,d=>
  match P.underlying t with
  | some (.int k)=>
   match d with
   | .lit (.int _ z)=>some [.int k z]
   | _=>none
  | some .string=>
   match d with
   | .lit (.string s)=>some [.str s]
   | _=>none
  | some (.array m e)=>
   match d with
   | .agg l=>
    match B9 (yz P n e) l with
    | some r=>if P.cellsOf t=m * P.cellsOf e then some r else none
    | none=>none
   | _=>none
  | _=>none
section
variable {P:Program} {w:World} {base:Nat} {sp:Nat→Bool} {held:Bool}
theorem yA{f:DataW Unit→Option (List AV)}{m:bY}{ce:Nat}{cs:List Value}{g:List Value→Option (DataW Unit×List MemPlace)}(hf:∀c d p ax,g c=some (d,p)→f d=some ax→cH m ax c∧ax.all AV.one=true):
  ∀ (l:List (DataW Unit×List MemPlace)) (o:Nat) {ax:List AV},B9 f (l.map (·.1))=some ax→(∀i (hi:i < l.length),g ((cs.drop ((o+i) * ce)).take ce)=some l[i])→cH m ax ((cs.drop (o * ce)).take (l.length * ce))∧ax.all AV.one=true
 | [],o,ax,h,_=>by
  unfold B9 at h;cases h;rw[XA,ZC,List.take_zero];exact⟨by rw[bC],rfl⟩
 | x::l,o,ax,h,hx=>by
  rw[Yr]at h;unfold B9 at h;split at h
  case h_2=>cases h
  rename_i a b ha hb;cases h;have h0:=hx 0 (by rw[Xy];omega);rw[ZZ,List.getElem_cons_zero]at h0;obtain⟨p1,p2⟩:=hf _ x.1 x.2 a h0 ha;obtain⟨q1,q2⟩:=yA hf l (o+1) hb (fun i hi=>by
   have:=hx (i+1) (by rw[Xy];omega);rw[List.getElem_cons_succ]at this;rw[show o+1+i=o+ (i+1) by omega];exact this)
  refine⟨?_,by rw[List.all_append,p2,q2];rfl⟩;rw[Xy,YK,Nat.add_comm (l.length * ce) ce,List.take_add,YX];refine p1.append ?_;rw[←YK];exact q1
theorem vK{m:bY}:∀ (n:Nat) (t:TypeId) (fuel:Nat) (cs:List Value) (d:DataW Unit) (p:List MemPlace) (ax:List AV),
  DataW.trod (fun _=>()) P w base sp held fuel t cs=some (d,p)→yz P n t d=some ax→cH m ax cs∧ax.all AV.one=true
 | 0,_,_,_,_,_,_,_,h=>by cases h
 | n+1,t,fuel,cs,d,p,ax,ht,h=>by
  unfold yz at h;split at h
  ·rename_i k hu;obtain⟨z,rfl,e,_⟩:=DataW.trod_int hu ht;cases e;cases h;exact⟨aS.2 ⟨_,[],rfl,by rw[VR],by rw[bC]⟩,rfl⟩
  ·rename_i hu;obtain⟨s,rfl,e,_⟩:=DataW.trod_string hu ht;cases e;cases h;exact⟨aS.2 ⟨_,[],rfl,rfl,by rw[bC]⟩,rfl⟩
  ·rename_i mm e hu;obtain⟨xs,m',_,ex,hlen,hxl,hf⟩:=DataW.trod_array hu ht;cases ex;simp only at h;split at h
   case h_2=>cases h
   rename_i r hr;split at h
   case isFalse=>cases h
   rename_i hc;cases h;have:=yA (m:=m) (ce:=P.cellsOf e) (cs:=cs) (g:=DataW.trod (fun _=>()) P w base sp held m' e) (fun c d p ax h1 h2=>vK n e m' c d p ax h1 h2) xs 0 hr (fun i hi=>by
    have:=hf i Om;rw[Xw hi]at this;rw[Yk];exact this)
   rw[ZC,YO,hxl,←hc,←hlen,X8]at this;exact this
  ·cases h
def FC(P:Program)(laid:List (String×DataW Unit))(n:Nat)(g:Nat):aq:=
 match laid.find? (fun x=>P.globalNamed x.1==some g)with
 | some x=>
  match (P.globals[g]?).map (·.type)with
  | some t=>
   match yz P n t x.2 with
   | some ax=>if ax.length=DR P g then .cells ax false false else .dead
   | none=>.dead
  | none=>.dead
 | none=>.dead
def sN(P:Program):List rQ:=(List.range P.globals.size).map fun g=>⟨g,0,DR P g,false⟩
def vk(P:Program)(laid:List (String×DataW Unit))(n:Nat):ah:=(List.range P.globals.size).map (FC P laid n)
theorem j5:∀{laid} {ps},DataW.LaidVars P w laid ps→∀x∈laid,∃g t cs fuel p,P.globalNamed x.1=some g∧(P.globals[g]?).map (·.type)=some t∧w.var? P x.1=some cs∧
  DataW.trod (fun _=>()) P w 0 (fun _=>true) false fuel t cs.toList=some (x.2,p)
 | [],_,_,x,hx=>by cases hx
 | (n,d)::r,ps,h,x,hx=>by
  obtain⟨g,t,cs,fuel,p,q,h1,h2,h3,h4,h5,_⟩:=h;rcases X9.1 hx with rfl| hx
  ·exact⟨g,t,cs,fuel,p,h1,h2,h3,h4⟩
  ·exact j5 h5 x hx
def xL{n g cs}(hg:P.globalNamed n=some g)(h:w.var? P n=some cs):∃el fz,w.heap[g]? =some (.cells cs el fz):=by
 unfold World.var? at h;rw[hg]at h;simp only[Option.bind_some]at h;split at h
 ·rename_i c el fz hb;cases h;exact⟨el,fz,hb⟩
 ·cases h
theorem AW.globals{Vx laid}(hl:laidMet P Vx w)(hsub:∀x∈laid,x∈Vx)(n:Nat){nm d}(hlast: (nm,d)∈laid)(hg:P.globalNamed nm=some (P.globals.size - 1)):
  AW P w (sN P) (vk P laid n)∧∃ (z:Nat) (cc:Array Value) (el:TypeId) (fz:Nat×Nat),w.heap[z]? =some (Obj.cells cc el fz):=by
 obtain⟨ps,hv,_,_⟩:=hl;obtain⟨g0,t0,cs0,_,_,a1,_,a3,_⟩:=j5 hv _ (hsub _ hlast);obtain⟨el0,fz0,Rx⟩:=xL a1 a3;have dX:P.globals.size - 1 < w.heap.size:=by
  have e:g0=P.globals.size - 1:=Yu (a1.symm.trans hg);rw[←e];exact(XM.1 Rx).1
 have hE:∀ (b:Nat) e,(sN P)[b]? =some e→b < P.globals.size∧e= ⟨b,0,DR P b,false⟩:=fun b e h=>by
  unfold sN at h;rw[YU]at h;have hb:b < P.globals.size:=by
   cases hr: (List.range P.globals.size)[b]? with
   | none=>rw[hr]at h;cases h
   | some y=>have:=(Xr.1 hr).1;simpa using this
  rw[List.getElem?_range hb]at h;exact⟨hb,(Yu h).symm⟩
 refine⟨⟨by simp[sN,vk],fun b e h=>?_,fun b e k h h'=>?_,fun g hg=>⟨⟨g,0,DR P g,false⟩,?_,rfl,rfl,rfl,rfl⟩⟩,⟨g0,cs0,el0,fz0,Rx⟩⟩
 ·obtain⟨hb,rfl⟩:=hE b e h;exact⟨rfl,by show b < _;omega⟩
 ·obtain⟨hb,rfl⟩:=hE b e h;unfold vk at h';rw[YU,List.getElem?_range hb]at h';have h':=(Yu h').symm;subst h';unfold FC;split
  case h_2=>exact⟨trivial,.inl rfl⟩
  rename_i x hx;split
  case h_2=>exact⟨trivial,.inl rfl⟩
  rename_i t ht;split
  case h_2=>exact⟨trivial,.inl rfl⟩
  rename_i ax has;split
  case isFalse=>exact⟨trivial,.inl rfl⟩
  rename_i hlen;refine⟨?_,.inr ⟨ax,rfl⟩⟩;obtain⟨g,t',cs,fuel,p,b1,b2,b3,b4⟩:=j5 hv x (hsub _ (List.mem_of_find?_eq_some hx));have hgb:P.globalNamed x.1=some b:=by have:=Z0 hx;simpa using this
  have e1:g=b:=Yu (b1.symm.trans hgb);subst e1;have e2:t' =t:=Yu (b2.symm.trans ht);subst e2;obtain⟨el,fz,SI⟩:=xL b1 b3;obtain⟨c1,c2⟩:=vK (m:=gp (sN P)) n t' fuel _ _ _ _ b4 has;have hcl:cs.size=ax.length:=by have:=c1.length;simpa using this
  refine⟨cs,el,fz,SI,⟨by show 0+_≤_;omega,by show 0+_≤DR P g;omega,by show cs.size=DR P g;omega⟩,fun i x hx=>?_,⟨fun x=>absurd x Zv,fun x=>by rcases x with x| x<;>exact absurd x Zv⟩⟩;refine⟨X5.1 c2 x (Yo hx),?_⟩;obtain⟨v,UE,T2⟩:=c1.get hx;refine⟨v,?_,T2⟩;show cs[0+i]? =some v;rw[Yk,←YS];exact UE
 ·unfold sN;rw[YU,List.getElem?_range hg];rfl
end
section
variable {P:Program} {W W':World} {E:List rQ} {B h':ah} {m':bY}
def AW.below(aw:AW P W E B)(g:Grow (gp E) B W m' h' W'):Below W.heap.size W W':=
 ⟨g.os,g.tape,g.out,g.size,fun k hk=>g.frame k hk fun b e hb ho=>by rw[(aw.own b e hb).1]at ho;cases ho⟩
def xB(b:Below W.heap.size W W')(may:MemPlace→Prop):W.keptBut W' may:=by
 refine⟨b.os,b.output,fun i hi=>?_⟩;rw[b.block i hi];split
 ·rename_i h1 h2;rw[h1]at h2;simp only[X1,Obj.cells.injEq]at h2;obtain⟨rfl,rfl,rfl⟩:=h2;exact⟨rfl,rfl,rfl,fun _ _=>rfl⟩
 ·rename_i h1 h2;rw[h1]at h2;simp only[X1,Obj.map.injEq]at h2;obtain⟨rfl,rfl⟩:=h2;exact .inr ⟨rfl,rfl⟩
 ·rfl
variable {H:Type} {enc:TypeId×Value→H}
theorem lX(hlo:laidOutB P=true)(hb:Below W.heap.size W W'){sp}:∀{tys} {vs} {ds} {ps},(∀t∈tys,P.readableRec t=true∧t < P.types.size)→
  DataW.TrodAll enc P W 0 (fun _=>true) true tys vs ds ps→(∀p∈ps,p.block < W.heap.size)→(∀p∈ps,sp p.block=true)→DataW.TrodAll enc P W' 0 sp true tys vs ds ps
 | [],[],[],ps,_,h,_,_=>h
 | [],[],_::_,_,_,h,_,_=>h.elim
 | [],_::_,_,_,_,h,_,_=>h.elim
 | _::_,[],_,_,_,h,_,_=>h.elim
 | _::_,_::_,[],_,_,h,_,_=>h.elim
 | t::tys,v::vs,d::ds,ps,hr,h,hl,hs=>by
  obtain⟨p,q,h1,h2,rfl⟩:=h;exact⟨p,q,WideElems.Trod_stays hlo (hr t (Yn ..)).1 (hr t (Yn ..)).2 h1 (fun x hx=>hb.same (hl x (List.mem_append_left _ hx))) (fun x hx=>hs x (List.mem_append_left _ hx)),
   lX hlo hb (fun t ht=>hr t (Yb _ ht)) h2 (fun x hx=>hl x (List.mem_append_right _ hx)) (fun x hx=>hs x (List.mem_append_right _ hx)),rfl⟩
def za{f:Func}{s:ChangeSpec}{apart fresh handsOn again:Bool}{args:Array Value}{ds gs:List (DataW H)}{before:List MemPlace}{tb:TypeId}
  (hlo:laidOutB P=true) (hpar:∀t∈f.params.toList,P.readableRec t=true∧t < P.types.size) (hrt:f.resultTypes=#[tb]) (htb:P.underlying tb=some .bool) (hvars:s.vars= [])
  (hfn: (s.fn H (ds++gs))={ results:=[.lit (.bool true)],args:=ds }) (hW:DataW.Whole enc P f.params.toList s.vars apart W args.toList ds gs before) (hb:Below W.heap.size W W'):
  s.post enc P f apart fresh handsOn again W args (.bool true) W':=by
 have hlt:=hW.lt;have hW':=hW;obtain⟨p,q,hA,hV,rfl,hz,hn⟩:=hW';rw[hvars]at hV;obtain⟨rfl,rfl⟩:=trodVars_none hV;rw[XU]at hlt;have hres:∀ (b:Nat) (sp:Nat→Bool) (hd:Bool),DataW.TrodAll enc P W' b sp hd f.resultTypes.toList ((Value.bool true).resultList f.resultTypes.size) (s.fn H (ds++ [])).results []:=fun b sp hd=>by
  rw[hfn,hrt];exact trodAll_mk1 (shut_bool htb _)
 have hargs:∀sp:Nat→Bool,(∀x∈p,sp x.block=true)→DataW.TrodAll enc P W' 0 sp true f.params.toList args.toList (s.fn H (ds++ [])).args p:=fun sp hs=>by
  rw[hfn];exact lX hlo hb hpar hA hlt hs
 have Re:∀sp:Nat→Bool,DataW.TrodVars enc P W' sp s.vars (s.fn H (ds++ [])).vars []:=fun sp=>by
  rw[hfn,hvars];rfl
 refine⟨ds,[],p++ [],[],p,[],hW,hres _ _ _,hargs _ (fun x hx=>by simpa using hlt x hx),Re _,xB hb _,fun _=>?_⟩;refine⟨?_,_,_,([]++p)++ [],⟨[]++p,[],trodAll_append (hargs _ (fun _ _=>rfl)) (hres _ _ _),Re _,rfl,?_,?_⟩,?_⟩
 ·exact ok_one hrt rfl (okWide_bool_mk htb _)
 ·intro b off hp;have hp:MemPlace.cell b off∈p:=by simpa using hp
  have:=hz b off (by simpa using hp);unfold World.frozen? at this ⊢;rw[hb.block b (hlt _ hp)];exact this
 ·intro ha;have:=hn ha
  simpa using this
 ·intro x hx _
  simpa using hx
def AY{f:Func}{fid:FuncId}{s:ChangeSpec}{apart fresh handsOn again:Bool}{args:Array Value}{ds gs:List (DataW H)}{before:List MemPlace}{tb:TypeId}{n:Nat}{ats:List AT}{r:Reach}{b0:Nat}
  (hlo:laidOutB P=true) (hpar:∀t∈f.params.toList,P.readableRec t=true∧t < P.types.size) (hrt:f.resultTypes=#[tb]) (htb:P.underlying tb=some .bool) (hvars:s.vars= [])
  (hfn: (s.fn H (ds++gs))={ results:=[.lit (.bool true)],args:=ds }) (hats:sZ P n f.params.toList=some ats)
  (hval:∀ (j:Nat) t v,f.params[j]? =some t→args[j]? =some v→Value.okWide P W r b0 t v)
  (hW:DataW.Whole enc P f.params.toList s.vars apart W args.toList ds gs before) (aw:AW P W E B) (hz:∃ (z:Nat) (cc:Array Value) (el:TypeId) (fz:Nat×Nat),W.heap[z]? =some (Obj.cells cc el fz))
  (call:∀k ax,Ext B k→rN k ats ax→aA P fid ax k fun v _=>v= .bool true):
  Calls P fid args W fun e W'=>∃v,e= .returned v∧s.post enc P f apart fresh handsOn again W args v W':=by
 obtain⟨p,q,hA,_⟩:=id hW;obtain⟨F,C,ax,h1,h2,h3⟩:=sK hz f.params.toList hats args.toList ds p hA (fun j t v h h'=>hval j t v (by rw[←YS];exact h) (by rw[←YS];exact h')) aw;obtain⟨v,g,hs,rfl⟩:=call (B++C) ax ⟨C,rfl⟩ h3;refine(hs (gp (E++F)) W args.toList h1.hr h2).mono fun e W' ⟨cv,m',he,hv,_,hg⟩=>?_
 rw[VR]at hv;subst hv;exact⟨_,he,za hlo hpar hrt htb hvars hfn hW (h1.below hg)⟩
end
end Go.Abs
namespace Go.Proofs.YtgplmdgpmbegiaaGreatDoor
open Go.Abs
noncomputable def vm:ah:=vk Tryz.prog Rows.houseSafeRow.laid 6
def DT:vm[0]? =some (.cells PM false false):=by kernel_rfl
def DS:vm[2]? =some (.cells (Lib.pow10Tab.map (AV.int .u64)) false false):=by kernel_rfl
def PO{k:ah}(e:Ext vm k):Gl k:=⟨_,_,e.some DT⟩
def P1{k:ah}(e:Ext vm k):Pw k:=⟨_,_,e.some DS⟩
end Go.Proofs.YtgplmdgpmbegiaaGreatDoor
namespace Go.Proofs.YtgplmdgpmbegiaaGreatDoor
open Go.ChangeShapes Go.WideShapes Go.RowKit Go.Abs
def fP{a b:Bool}(h:a=true)(h':b=true): (a && b)=true:=by rw[h,h'];rfl
def own:ownKnob Tryz.prog.godebug=none:=by kernel_rfl
def laidOut:laidOutB Tryz.prog=true:=by kernel_rfl
def CO:mapsRowed Tryz.prog=true:=by kernel_rfl
def AH: (Tryz.prog.stops== [])=true:=by kernel_rfl
def AK: (Tryz.prog.stopKnobs== [])=true:=by kernel_rfl
def AL:Tryz.prog.stopsHeard=true:=by kernel_rfl
def AM:Tryz.prog.mayEnter=true:=by kernel_rfl
def AJ: (Rows.houseSafeRow.lifted==Tryz.prog.liftsFinal)=true:=by kernel_rfl
def CP: (Tryz.prog.make==some Rows.houseSafeRow.make)=true:=by kernel_rfl
def CS: (Rows.houseSafeRow.plainKeys==Tryz.prog.plainKeys)=true:=by kernel_rfl
def CQ:Tryz.prog.mainIs=some (true, "99e684478f8cae51b056da3a355f6848a653f6e5f09f29bc4422acb306b2dd43".toList):=by kernel_rfl
def AI:true=Tryz.prog.looks []:=by kernel_rfl
def yW(os:Os)(args:Array Value): ((World.laidAll Tryz.prog os Rows.houseSafeRow.laid).forCall (fun _ _=>0) ⟨#[],args,[]⟩).Shaped Tryz.prog:=World.shaped_of_ZipB (by kernel_rfl) (by kernel_rfl)
def CR(os:Os)(args:Array Value):laidMetH Tryz.prog Rows.houseSafeRow.laid ((World.laidAll Tryz.prog os Rows.houseSafeRow.laid).forCall (fun _ _=>0) ⟨#[],args,[]⟩).memory:=by
 rw[MakeChecks.laidMetH_plain _ _ _ (by kernel_rfl)];exact laidMet_laidAll _ (by kernel_rfl) (by kernel_rfl)
end Go.Proofs.YtgplmdgpmbegiaaGreatDoor
namespace Go.Abs
def WR.Bi{P:Program}{ro:Option Nat→Prop}{ks:List Kt}{ts:TS}{Q:Ex→TS→ah→Prop}{α:Type}{row:α→List AV}{L:List α}{B Y:ah}{s v:AV}{es i off:Nat}{x':α}{d:Option Nat}{l:List bJ}
  (hs:Fr B.length Y s es (L.map row)) (he:Ext B Y) (hi:i < L.length) (ho:off < es) (hv:v.one=true) (hx:row x' = (row L[i]).set off v)
  (K:∀W5:ah,Ext B W5→W5.length=Y.length→Fr B.length W5 s es ((L.set i x').map row)→(∀b,sB s≠some b→W5[b]? =Y[b]?)→WP P ro l ks (put ts d aB) W5 Q):
  WR P ro (aW 1 (lh s es i off) v (fun b=>Y[b]?)) false d l ks ts Y Q:=by
 obtain⟨g,rfl⟩:=he;refine WR.uG (h0:=B) hs hi ho hv hx ?_;intro g' Qz hff hkp;exact K _ ⟨_,rfl⟩ (by simp[Qz]) hff fun b hb=>hkp b fun b0 o n e he z=>hb (by rw[he,z];rfl)
set_option maxRecDepth 10000
attribute [local irreducible] WP WC WE WB WR WF WL WG fV WM
section
variable {P:Program} (T:fA P) {B X W:ah} {ts:TS} {V:RV} {x:EV}
include T
theorem y6(w:fo V.ar)(ox:bo B x)(we:kC x.ev .accept)(nk:rO V.ar x.ev .accept)(s:cE B X x V W V)(hlen:ts.length=250)(t2:slot ts 2= .ptr X.length 0)(t3:slot ts 3= .ptr (X.length+1) 0)(t4:slot ts 4= .ptr (X.length+2) 0):
  WC P bR y7 [] ts W (FQ [(4,some (some 7)),(5,none)] (ry B X V (bB V.ar x.ev .accept) (dq V.ar x.ev .accept))):=by
 have ow:=ox.ext s.ex;have oV:=s.bk.o.ok;have Qu:x.ev.kind=bz .accept:=cw we.kd;obtain⟨lr,le,sb,gm⟩:=cE.fa s;obtain⟨i0,d0⟩:=bM ow we 0 0 rfl De;obtain⟨j0,f0,q0⟩:=cT ow we 0 0 rfl De;unfold y7 fn225;simp only[aj.tl];have k0:aN x.ev 0∈gB V.ar:=nk.kn 0 0 rfl;have SV:x.ev.names= [aN x.ev 0]:=by
  have h1:=we.nl;obtain⟨n,hn⟩:∃n,x.ev.names= [n]:=List.length_eq_one_iff.1 h1;rw[aN,hn];rfl
 have hlt:bj (gB V.ar) (aN x.ev 0)< V.lines.length:=by have:=cP k0;simpa [gB,RV.ar]using this
 have ei:cS (fun y:gQ=>decide (y.name=aN x.ev 0)) V.lines= (bj (gB V.ar) (aN x.ev 0):Int):=eD (f:=gQ.name) k0;have sp:dF V.ar (aN x.ev 0)=V.lines[bj (gB V.ar) (aN x.ev 0)]:=c9 k0;obtain⟨p,hp⟩:∃p,p=bj (gB V.ar) (aN x.ev 0):=⟨_,rfl⟩;rw[←hp]at ei;have hlt:p < V.lines.length:=by rw[hp];exact hlt
 have sp:dF V.ar (aN x.ev 0)=V.lines[p]:=by rw[sp];congr 1;exact hp.symm
 refine oE (IC t2 t3 t4 @le @lr @bA @aO @aY @aF @Qu @gG @XX @XS @j0 @f0 @i0 @d0) ?_;refine WF.ce T.c28 (r28 T (oV.ext Xx) w.len _) fun g1=>?_
 rw[ei];obtain⟨W2,Q0⟩:∃Z,Z=W++g1:=⟨_,rfl⟩;rw[←Q0];have QK:cE B X x V W2 V:=by rw[Q0];exact eG.grow s ⟨g1,rfl⟩
 have ow:=ox.ext QK.ex;have oV:=QK.bk.o.ok;obtain⟨lr,le,sb,gm⟩:=cE.fa QK;have on:=ow.n;rw[SV]at on;have on1:=ow.n.one;refine Rs (A7 t2 t3 t4 @le @lr @aF @aO) ?_;refine WF.res T.c127 (r127 T (oV.ext Xx) w.len on Si) ?_;rintro ns g2 hns;obtain⟨W3,QI⟩:∃Z,Z=W2++g2:=⟨_,rfl⟩;rw[←QI];have QO:cE B X x V W3 V:=by rw[QI];exact eG.grow QK ⟨g2,rfl⟩
 have ow:=ox.ext QO.ex;have oV:=QO.bk.o.ok;obtain⟨lr,le,sb,gm⟩:=cE.fa QO;rw[←QI]at hns;obtain⟨S,hS⟩:∃S,S=zd V.ar (aN x.ev 0):=⟨_,rfl⟩;have hfS: (V.ar.ak.filter fun y=>decide (y.line∈[aN x.ev 0]))=S:=by
  rw[hS,zd];refine List.filter_congr fun y _=>?_
  simp
 rw[hfS]at hns;have hSm:∀y∈S,y∈V.ar.ak:=fun y hy=>by rw[hS,zd]at hy;exact(YI.1 hy).1
 have hSl:S.length≤64:=by
  have h1:S.length≤V.ar.ak.length:=by rw[hS,zd];exact Ya _ _
  have:=w.l2;omega
 rw[Za]at hns;have ix:aZ 3 V.s0 (.i (p:Int))=some (cV V.s0 3 p,.az):=oV.i0.dG hlt;have l2:∀{k:ah},Ext W3 k→ao none (lh V.s0 3 p 2) (fun b=>k[b]?)=some (.bool (dF V.ar (aN x.ev 0)).acc,.az):=fun {k} e=>by rw[sp];exact oV.i0.pG hlt rfl e
 have l1:∀{k:ah},Ext W3 k→ao none (lh V.s0 3 p 1) (fun b=>k[b]?)=some (.i (dF V.ar (aN x.ev 0)).want,.az):=fun {k} e=>by rw[sp];exact oV.i0.pG hlt rfl e
 cases h1: (dF V.ar (aN x.ev 0)).acc with
 | true=>
  rw[h1]at l2;refine Rs (mY t2 t3 t4 ix @l2 @lr @aF @fT @sb @gm) ?_;rw[bB,XI h1];exact z40
 | false=>
 rw[h1]at l2;by_cases h2: (S.length:Int)< (dF V.ar (aN x.ev 0)).want
 case pos=>
  have e2:decide ((S.length:Int)< (dF V.ar (aN x.ev 0)).want)=true:=Xz h2;refine Rs (Cw t2 t3 t4 ix @l2 @l1 hns.aP @lr @aF @fT e2 @sb @gm) ?_;rw[bB,XG (by rw[h1];decide),XI (by rw[←hS];exact h2)];exact z40
 have e2:decide ((S.length:Int)< (dF V.ar (aN x.ev 0)).want)=false:=Xu h2;refine Rs (mX t2 t3 t4 ix @l2 @l1 hns.aP @lr @aF @fT e2) ?_;refine WL.inv T.mix (fun m ts h'=>∃ (k:Nat) (g:ah),k≤S.length∧m=S.length - k∧h' =W3++g∧(∀y∈S.take k,eI V.ar y (bI x.ev 0)=true)∧ts.length=250∧slot ts 2= .ptr X.length 0∧slot ts 4= .ptr (X.length+2) 0∧slot ts 6= .i (bI x.ev 0)∧slot ts 9= .i (p:Int)∧slot ts 10=ns∧slot ts 11= .i k) S.length
  ⟨0,[],Om,rfl,by rw[XU],(fun y hy=>by cases hy),Sn,(Sq t2),(Sq t4),Sw,Sw,Sw,iF⟩ ?_
 clear t2 t3 t4 hlen;rintro _ ts _ ⟨k,g,hk,rfl,rfl,hsf,hlen,t2,t4,t6,t9,t10,t11⟩;obtain⟨W4,Rc⟩:∃Z,Z=W3++g:=⟨_,rfl⟩;rw[←Rc];have R0:cE B X x V W4 V:=by rw[Rc];exact eG.grow QO ⟨g,rfl⟩
 have ow:=ox.ext R0.ex;have oV:=R0.bk.o.ok;obtain⟨lr,le,sb,gm⟩:=cE.fa R0;have e34:Ext W3 W4:=⟨g,Rc⟩;have hns:=hns.ext e34;by_cases Rn:k < S.length
 ·have e3:decide ((k:Int)< S.length)=true:=Xz Om;have e5:IntKind.i64.wrap ((k:Int)+1)= ((k+1:Nat):Int):=wrapN Om;have iy:=hns.dG (kk:=.i64) Rn;obtain⟨y,hy⟩:∃y,y=S[k]:=⟨_,rfl⟩;have R1:y∈V.ar.ak:=hSm y (by rw[hy];exact XJ _);have lf:∀{kk:ah},Ext W4 kk→ao none (cV ns 1 k) (fun b=>kk[b]?)=some (.str y.name,.az):=fun {kk} e=>hns.kO Rn (by rw[←hy];rfl) e
  have SU:y.name∈jV V.ar:=XZ R1;have hps:=cP SU;have RO:bj (jV V.ar) y.name < V.ak.length:=by simpa [jV,RV.ar]using hps
  have iz:aZ 3 V.s2 (.i ((bj (jV V.ar) y.name:Nat):Int))=some (cV V.s2 3 (bj (jV V.ar) y.name),.az):=oV.i2.dG RO;obtain⟨u,hu⟩:∃u,u=V.ak[bj (jV V.ar) y.name]:=⟨_,rfl⟩;have hum:u∈V.ak:=by rw[hu];exact XJ _
  have huy:u.1=y:=by
   have a1:kS V.ar y.name=y:=tG w.n2.nd R1;rw[kS,c9 (f:=jh.name) (l:=V.ar.ak) (d:=Bo) SU]at a1;rw[←a1,hu];exact Ag
  have ly:∀{kk:ah},Ext W4 kk→ao (some 3) (cV V.s2 3 (bj (jV V.ar) y.name)) (fun b=>kk[b]?)=some (.agg (bg u),.az):=fun {kk} e=>by rw[hu];exact oV.i2.kB RO e
  have ou:=oV.e2 u hum;have hul:=(w.vS.sh u hum);refine Rs (Cw t2 t4 t6 t9 t10 t11 hns.aP e3 @lr @eJ @aF @iy @lf) ?_;refine WF.ce T.c22 (r22 T (oV.ext Xx) w.len _) fun g3=>?_
  have ej:cS (fun y':jh×AV=>decide (y'.1.name=y.name)) V.ak= (bj (jV V.ar) y.name:Int):=by
   rw[gf];exact eD (f:=fun y:jh×AV=>y.1.name) (by rw[←gf];exact SU)
  rw[ej];refine Rs (A8 t2 t4 t6 t9 t10 t11 @iz @ly) ?_;refine WF.ce T.c23 (r23 T (oV.ext Xx) w.len (ou.ext Xx) hul.2 hul.1 _) fun g4=>?_
  rw[huy];cases h4:eI V.ar y (bI x.ev 0)with
  | false=>
   refine Rs (mX t2 t4 t6 t9 t10 t11 @XY @lr @aF @sb @gm) ?_;rw[bB,XG (by rw[h1];decide),XG (by rw[←hS];exact h2),XI (by rw[←hS];exact Y9.2 ⟨y,by rw[hy];exact XJ _,by rw[h4];rfl⟩)];exact cE.fin (eG.grow R0 (by rw[Xt];exact⟨_,rfl⟩)) (fun z=>absurd z De)
  | true=>
   refine Rs (A8 t2 t4 t6 t9 t10 t11 @XW e5) ?_;refine⟨_,Om,k+1,g++g3++g4,Om,rfl,by rw[Rc];simp only[Xt],?_,rfl⟩;intro y' hy';exact Pm
 ·have e3:decide ((k:Int)< S.length)=false:=Xu Om;have e4:k=S.length:=Om
  rw[e4,X8]at hsf;have RF:bB V.ar x.ev .accept=0:=by
   rw[bB,XG (by rw[h1];decide),XG (by rw[←hS];exact h2),XG];exact z143
  refine Rs (mX t2 t4 t6 t9 t10 t11 hns.aP e3 @lr @fT ix) ?_;refine WR.Bi (B:=B) (x':={ V.lines[p]with acc:=true }) (row:=cj) R0.bk.o.i0 R0.ex hlt De rfl rfl ?_;intro W5 x5 l5 hff hk5;have s5:cE B X x V W5 { V with lines:=V.lines.set p { V.lines[p]with acc:=true } }:=eG.q0 R0 hff (fun i _ hne=>hk5 i hne) x5 Om;obtain⟨lr,_,sb,gm⟩:=cE.fa s5;refine Rs (mY t2 t4 t6 t9 t10 t11 @lr @aF @sb @gm) ?_;exact z175
end
structure FY(X:ah)(x:EV)(U:RV)(h:ah):Prop where
 r:h[X.length]? =some (.b U.row)
 e:h[X.length+1]? =some (.b x.row)
 n:bo h x
theorem FY.ext{X h k x U}(s:FY X x U h)(e:Ext h k):FY X x U k:=⟨e.some s.r,e.some s.e,s.n.ext e⟩
section
variable {P:Program} (T:fA P) {B X W:ah} {ts:TS} {V:RV} {x:EV}
include T
theorem Dm(w:fo V.ar)(ox:bo B x)(we:kC x.ev .copy)(nk:rO V.ar x.ev .copy)(s:cE B X x V W V)(hlen:ts.length=250)(t2:slot ts 2= .ptr X.length 0)(t3:slot ts 3= .ptr (X.length+1) 0)(t4:slot ts 4= .ptr (X.length+2) 0):
  WC P bR y7 [] ts W (FQ [(4,some (some 7)),(5,none)] (ry B X V (bB V.ar x.ev .copy) (dq V.ar x.ev .copy))):=by
 have ow:=ox.ext s.ex;have oV:=s.bk.o.ok;have Qu:x.ev.kind=bz .copy:=cw we.kd;obtain⟨lr,le,sb,gm⟩:=cE.fa s;obtain⟨i0,d0⟩:=bM ow we 0 0 rfl De;obtain⟨i1,d1⟩:=bM ow we 1 1 rfl De;obtain⟨j0,f0,q0⟩:=cT ow we 0 0 rfl De;unfold y7 fn225;simp only[aj.tl];have k0:aN x.ev 0∈jA V.ar:=nk.kn 0 1 rfl;have k1:aN x.ev 1∈jA V.ar:=nk.kn 1 1 rfl;have Sz:V.ak.length≤64:=by have:=w.l2;simpa [RV.ar]using this
 have htp:∀y∈V.ak,y.1.aJ.length < 2^30:=fun y hy=>(w.vS.sh y hy).2
 by_cases h1:aN x.ev 0=aN x.ev 1
 case pos=>
  have e1:decide (aN x.ev 0=aN x.ev 1)=true:=Xz h1;refine oE (L5 t2 t3 t4 @le @lr @bA @aO @aY @aF @Qu @gG @XX @XS @j0 @f0 @i0 @d0 @i1 @d1 e1 @sb @gm) ?_;rw[bB,XI h1];exact z145
 have e1:decide (aN x.ev 0=aN x.ev 1)=false:=Xu h1;refine oE (O4 t2 t3 t4 @le @lr @bA @aO @aY @aF @Qu @gG @XX @XS @j0 @f0 @i0 @d0 @i1 @d1 e1) ?_;refine WF.ce T.c84 (r84 T (oV.ext Xx) w.len k0 _) fun g1=>?_
 obtain⟨W2,Q0⟩:∃Z,Z=W++g1:=⟨_,rfl⟩;rw[←Q0];have QK:cE B X x V W2 V:=by rw[Q0];exact eG.grow s ⟨g1,rfl⟩
 have ow:=ox.ext QK.ex;have oV:=QK.bk.o.ok;obtain⟨lr,le,sb,gm⟩:=cE.fa QK;obtain⟨i0,d0⟩:=bM ow we 0 0 rfl De;obtain⟨i1,d1⟩:=bM ow we 1 1 rfl De;obtain⟨j0,f0,q0⟩:=cT ow we 0 0 rfl De;cases h2:jn V.ar (bI x.ev 0) (aN x.ev 0)with
 | false=>
  refine Rs (A8 t2 t3 t4 @XY @lr @aF @sb @gm) ?_;rw[bB,XG h1,XI (by rw[h2];rfl)];exact z87
 | true=>
 refine Rs (mY t2 t3 t4 @XW @le @lr @aF @aO @i1 @d1) ?_;refine WF.ce T.c84 (r84 T (oV.ext Xx) w.len k1 _) fun g2=>?_
 obtain⟨W3,QI⟩:∃Z,Z=W2++g2:=⟨_,rfl⟩;rw[←QI];have QO:cE B X x V W3 V:=by rw[QI];exact eG.grow QK ⟨g2,rfl⟩
 have ow:=ox.ext QO.ex;have oV:=QO.bk.o.ok;obtain⟨lr,le,sb,gm⟩:=cE.fa QO;obtain⟨i0,d0⟩:=bM ow we 0 0 rfl De;obtain⟨i1,d1⟩:=bM ow we 1 1 rfl De;obtain⟨j0,f0,q0⟩:=cT ow we 0 0 rfl De;cases h3:jn V.ar (bI x.ev 0) (aN x.ev 1)with
 | false=>
  refine Rs (A8 t2 t3 t4 @XY @lr @aF @sb @gm) ?_;rw[bB,XG h1,XG (by rw[h2];decide),XI (by rw[h3];rfl)];exact z40
 | true=>
 have RF:bB V.ar x.ev .copy=0:=by rw[bB,XG h1,XG (by rw[h2];decide),XG (by rw[h3];decide)]
 refine Rs (A4 t2 t3 t4 @XW) ?_;obtain⟨a,ha⟩:∃a,a=aN x.ev 0:=⟨_,rfl⟩;obtain⟨z,hz⟩:∃z,z=aN x.ev 1:=⟨_,rfl⟩;refine WL.inv T.mix (fun m ts W=>∃ (k:Nat) (U:RV),k≤V.ak.length∧m=V.ak.length - k∧cE B X x V W U∧U.s2=V.s2∧U.ak.length=V.ak.length∧
   { U.ar with ak:=V.ar.ak } =V.ar∧(∀i (hi:i < U.ak.length) (hi':i < V.ak.length),(U.ak[i]).1=if i < k then ka a z (V.ak[i]).1 else(V.ak[i]).1)∧
   ts.length=250∧slot ts 2= .ptr X.length 0∧slot ts 3= .ptr (X.length+1) 0∧slot ts 4= .ptr (X.length+2) 0∧slot ts 7= .i k) V.ak.length
  ⟨0,V,Om,rfl,QO,rfl,rfl,rfl,fun i hi hi'=>by rw[XG Om],Sn,(Sq t2),(Sq t3),(Sq t4),iF⟩ ?_
 clear t2 t3 t4 hlen i0 i1 d0 d1 j0 f0 oV ow lr le sb gm;rintro _ ts W4 ⟨k,U,hk,rfl,s,QV,Sr,hreg,hU,hlen,t2,t3,t4,t7⟩;have ow:=ox.ext s.ex;have oU:=s.bk.o.ok;obtain⟨lr,le,sb,gm⟩:=cE.fa s;by_cases hlt:k < V.ak.length
 ·have Tw:k < U.ak.length:=Om
  have e3:=fk hlt;have e5:IntKind.i64.wrap ((k:Int)+1)= ((k+1:Nat):Int):=wrapN Om;have ll:∀ (G:Nat→Option aq),Go.Abs.iL .sl G U.s2=some V.ak.length:=fun G=>by rw[oU.i2.aP,Sr]
  have ix:aZ 3 U.s2 (.i (k:Int))=some (cV U.s2 3 k,.az):=oU.i2.dG Tw;have Ru:U.ak[k]∈U.ak:=XJ _;have hx1: (U.ak[k]).1= (V.ak[k]).1:=by rw[hU k Tw hlt,XG Om]
  have hxl: (U.ak[k]).1.aJ.length < 2^30:=by rw[hx1];exact htp _ (XJ _)
  have Uk:=s.bk.o.e2 _ Ru;have next:∀ (U2:RV),U2.ak.length=V.ak.length→(∀i (hi:i < U2.ak.length) (hi':i < U.ak.length),(U2.ak[i]).1=if i=k then ka a z (U.ak[i]).1 else(U.ak[i]).1)→
    ∀i (hi:i < U2.ak.length) (hi':i < V.ak.length),(U2.ak[i]).1=if i < k+1 then ka a z (V.ak[i]).1 else(V.ak[i]).1:=by
   intro U2 a3 a5 i hi hi';exact Pr
  obtain⟨y,hy⟩:∃y,y=U.ak[k]:=⟨_,rfl⟩;have ly:∀{kk:ah},Ext W4 kk→ao none (lh U.s2 3 k 2) (fun b=>kk[b]?)=some (y.2,.az):=fun {kk} e=>oU.i2.pG Tw (by rw[←hy];rfl) e
  rw[←hy]at Uk hxl;have oy:=Uk.a8.one;obtain⟨i0,d0⟩:=bM ow we 0 0 rfl De;obtain⟨i1,d1⟩:=bM ow we 1 1 rfl De;rw[←ha]at d0;rw[←hz]at d1;refine Rs (zU t2 t3 t4 t7 @lr @le @eJ @ll e3 ix @ly @aO @i0 @d0) ?_;refine WF.ce T.c35 (r35 T (Uk.a8.ext Xx) Om a) fun g3=>?_
  by_cases c1:a∈y.1.aJ
  case neg=>
   have u1:decide (a∈y.1.aJ)=false:=Xu c1;rw[u1];refine Rs (A5 t2 t3 t4 t7 e5) ?_;refine⟨_,Om,k+1,U,Om,rfl,eG.grow s ⟨g3,rfl⟩,QV,Sr,hreg,next U Sr (fun i hi hi'=>?_),rfl⟩;split
   ·rename_i Sh;subst Sh;rw[←hy,ka,XG (fun w=>c1 w.1)]
   ·rfl
  have u1:decide (a∈y.1.aJ)=true:=Xz c1;rw[u1];refine Rs (A8 t2 t3 t4 t7 @le @aO @i1 @d1) ?_;refine WF.ce T.c35 (r35 T (Uk.a8.ext Xx) Om z) fun g4=>?_
  by_cases c2:z∈y.1.aJ
  ·have u2:decide (z∈y.1.aJ)=true:=Xz c2;rw[u2];refine Rs (A6 t2 t3 t4 t7 @XW e5) ?_;refine⟨_,Om,k+1,U,Om,rfl,eG.grow s (by rw[Xt];exact⟨_,rfl⟩),QV,Sr,hreg,next U Sr (fun i hi hi'=>?_),rfl⟩;split
   ·rename_i Sh;subst Sh;rw[←hy,ka,XG (fun w=>w.2 c2)]
   ·rfl
  have u2:decide (z∈y.1.aJ)=false:=Xu c2;rw[u2];refine Rs (A5 t2 t3 t4 t7 @XY) ?_;obtain⟨W5,SM⟩:∃Z,Z=W4++g3++g4:=⟨_,rfl⟩;rw[←SM];have VZ:Ext W4 W5:=by rw[SM,Xt];exact⟨_,rfl⟩
  have s5:cE B X x V W5 U:=eG.grow s VZ;have S5:FY X x U W5:=⟨s5.bk.m,cE.KW s5,ox.ext s5.ex⟩;have hfx5:=s5.bk.o.e2 y (by rw[hy];exact Ru);refine om (FY X x U) ?_;refine c7 S5 rfl rfl ?_;refine Rs (A4 t2 t3 t4 t7) ?_;refine kD S5 (v:=U.s2) (fun g hg=>?_) ?_
  ·simp only[aV,bd,bD,bE,reduceAdd,reduceMul,reduceLeDiff,reduceEqDiff,bF,hlen,XO,XR,t2,an hg.r,eJ]
  refine Rs (A4 t2 t3 t4 t7) ?_;refine c7 S5 rfl rfl ?_;refine Rs (A4 t2 t3 t4 t7) ?_;refine c7 S5 rfl rfl ?_;refine Rs (A4 t2 t3 t4 t7) ?_;have S6:FY X x U (W5++ [aq.b []]):=S5.ext ⟨_,rfl⟩;refine c7 S6 rfl rfl ?_;refine Rs (A4 t2 t3 t4 t7) ?_;refine c7 S6 rfl rfl ?_;refine Rs (A4 t2 t3 t4 t7) ?_;obtain⟨n5,hn5⟩:∃n,n=W5.length:=⟨_,rfl⟩;refine WR.pX (N:=n5) (w:=16) bf (Nat.le_of_eq hn5) (hfx5.a8.ext Xx) (by simp only[XB];omega) fun t0 g5 ft=>?_
  obtain⟨W6,R7⟩:∃Z,Z=W5++ [aq.b []]++g5:=⟨_,rfl⟩;rw[←R7]at ft ⊢;have e56:Ext W5 W6:=by rw[R7,Xt];exact⟨_,rfl⟩
  have S7:FY X x U W6:=S5.ext e56;have oq:=S7.n;have iq:aZ 1 x.sn (.i 1)=_:=(vB oq we (i:=1) De).1;have p0:=ft.a8.one;refine Rs (A4 t2 t3 t4 t7) ?_;refine c7 S7 rfl rfl ?_;refine Rs (A4 t2 t3 t4 t7) ?_;refine kD S7 (v:=x.sn) (fun g hg=>?_) ?_
  ·simp only[aV,bd,bD,bE,reduceAdd,reduceMul,reduceLeDiff,reduceEqDiff,bF,hlen,XO,XR,t3,an hg.e,aO]
  refine Rs (A4 t2 t3 t4 t7) ?_;refine c7 S7 rfl rfl ?_;refine Rs (A5 t2 t3 t4 t7 @iq) ?_;refine kD S7 (v:=.str z) (fun g hg=>?_) ?_
  ·have h9:=@(vB hg.n we (i:=1) De).2;rw[←hz]at h9;refine Zs t3 ?_;exact h9 (Ext.refl _)
  refine Rs (A4 t2 t3 t4 t7) ?_;refine c7 S7 rfl rfl ?_;refine Rs (A4 t2 t3 t4 t7) ?_;refine c7 (S7.ext ⟨_,rfl⟩) rfl rfl ?_;refine Rs (A4 t2 t3 t4 t7) ?_;rw[hn5]at ft;have s6:cE B X x V W6 U:=eG.grow s5 e56;refine WR.pY (B:=W5) (cs:=y.1.aJ.map au) ft rfl e56 De (by simp only[XB];omega) ?_;intro W7 t' x7 hff hn7 q7 l7 hk7;have hrow:y.1.aJ.map au++ [[AV.str z]]= (y.1.aJ++ [z]).map au:=by rw[XD];rfl
  rw[hrow]at hff;have k7:∀i,i < W5.length→W7[i]? =W5[i]? :=fun i hi=>x7.get hi
  have s7:cE B X x V W7 U:=eG.grow s5 x7;have S8:FY X x U W7:=S5.ext x7;refine Rs (A4 t2 t3 t4 t7) ?_;refine oh S8 rfl ?_;have hs27:Fr B.length W7 U.s2 3 (U.ak.map bg):=s7.bk.o.i2;have ix:aZ 3 U.s2 (.i (k:Int))=some (cV U.s2 3 k,.az):=oU.i2.dG Tw;refine Rs (A6 t2 t3 t4 t7 ix q7) ?_;refine WR.Bi (B:=B) (x':=(⟨y.1.name,y.1.line,y.1.aJ++ [z]⟩,t')) (row:=bg) hs27 s7.ex Tw De q7 (by rw[←hy];rfl) ?_;intro W8 x8 l8 hf8 hk8;have ft8:Fr B.length W8 t' 1 ((y.1.aJ++ [z]).map au):=(hff.aC fun i hi=>hk8 i fun e=>by
   have h1:=(hff.bN hi).1;have h2:=(s5.bk.o.dN (b:=i) (by rw[←e];simp[RV.bl])).2;omega).low s5.ex.len
  have s8:cE B X x V W8 { U with ak:=U.ak.set k (⟨y.1.name,y.1.line,y.1.aJ++ [z]⟩,t') }:=eG.qS s Tw hf8 ft8 (fun j hj=>by have h1:=(hff.bN hj).1;have:=VZ.len;omega) (fun j hj n1 n2=>by
   rw[hk8 j n1,k7 j (by have:=VZ.len;omega)];exact VZ.get hj) x8 (by have:=VZ.len;have:=e56.len;omega)
  refine Rs (A5 t2 t3 t4 t7 e5) ?_;refine⟨_,Om,k+1,_,Om,rfl,s8,QV,(by simp only[Yd];exact Sr),hreg,next _ (by simp only[Yd];exact Sr) (fun i hi hi'=>?_),rfl⟩;by_cases Sh:i=k
  ·subst Sh;simp only[Zu,XR];rw[←hy,ka,XI ⟨c1,c2⟩]
  ·exact z196
 ·have e3:decide ((k:Int)< V.ak.length)=false:=Xu Om;have e4:k=V.ak.length:=Om
  have ll:∀ (G:Nat→Option aq),Go.Abs.iL .sl G U.s2=some V.ak.length:=fun G=>by rw[oU.i2.aP,Sr]
  refine Rs (mX t2 t3 t4 t7 @lr @eJ @ll e3 @aF @sb @gm) ?_;rw[RF];refine cE.fin s (fun _=>?_);exact PA
theorem BJ{d}(hd:d= .line∨d= .tape∨d= .fY∨d= .copy∨d= .accept)(o:cG B.length X V)(w:fo V.ar)(hx:Ext B X)(ox:bo B x)(we:kC x.ev d)(nk:rO V.ar x.ev d):
  db P 225 [.agg V.row,.agg x.row] X (ry B X V (bB V.ar x.ev d) (dq V.ar x.ev d)):=by
 refine .of T.mix (Z6 T.c225 (X6 some MW)) ?_;obtain⟨ts,Qn⟩:∃ts,ts=aT 250 [.agg V.row,.agg x.row]:=⟨_,rfl⟩;have hlen:ts.length=250:=by rw[Qn];rfl
 have t0:slot ts 0= .agg V.row:=by rw[Qn];rfl
 have t1:slot ts 1= .agg x.row:=by rw[Qn];rfl
 show WC P bR (.seq ((fn225).body.hd) y7) [] (aT 250 [.agg V.row,.agg x.row]) X (FQ [(4,some (some 7)),(5,none)] (ry B X V (bB V.ar x.ev d) (dq V.ar x.ev d)));rw[←Qn];clear Qn;have Qm:=@aD.box _ _ o.ok;have hex:=@bo.box _ _ (ox.ext hx);have s:cE B X x V (X++ [.b V.row]++ [.b x.row]++ [.b km]) V:=by
  exact z20
 unfold km at s;generalize hB:y7=R;unfold fn225;simp only[aj.hd];refine Rs (A4 t0 t1 @Qm @hex) ?_;rw[←hB];rcases hd with rfl| rfl| rfl| rfl| rfl
 ·exact Dl T w ox we nk s Sn Sw (by simp only[aV,bd,bD,bE,reduceAdd,reduceMul,reduceLeDiff,reduceEqDiff,bF,hlen,XO,XR];simp) (by simp only[aV,bd,bD,bE,reduceAdd,reduceMul,reduceLeDiff,reduceEqDiff,bF,hlen,XO,XR];simp)
 ·exact Dj T w ox we nk s Sn Sw (by simp only[aV,bd,bD,bE,reduceAdd,reduceMul,reduceLeDiff,reduceEqDiff,bF,hlen,XO,XR];simp) (by simp only[aV,bd,bD,bE,reduceAdd,reduceMul,reduceLeDiff,reduceEqDiff,bF,hlen,XO,XR];simp)
 ·exact Dk T w ox we nk s Sn Sw (by simp only[aV,bd,bD,bE,reduceAdd,reduceMul,reduceLeDiff,reduceEqDiff,bF,hlen,XO,XR];simp) (by simp only[aV,bd,bD,bE,reduceAdd,reduceMul,reduceLeDiff,reduceEqDiff,bF,hlen,XO,XR];simp)
 ·exact Dm T w ox we nk s Sn Sw (by simp only[aV,bd,bD,bE,reduceAdd,reduceMul,reduceLeDiff,reduceEqDiff,bF,hlen,XO,XR];simp) (by simp only[aV,bd,bD,bE,reduceAdd,reduceMul,reduceLeDiff,reduceEqDiff,bF,hlen,XO,XR];simp)
 ·exact y6 T w ox we nk s Sn Sw (by simp only[aV,bd,bD,bE,reduceAdd,reduceMul,reduceLeDiff,reduceEqDiff,bF,hlen,XO,XR];simp) (by simp only[aV,bd,bD,bE,reduceAdd,reduceMul,reduceLeDiff,reduceEqDiff,bF,hlen,XO,XR];simp)
end
def eG.KG{B W0 W W2 b K U}(s:eG B W0 b K W U)(hk:∀i,i < W.length→W2[i]? =W[i]?)(hl:W.length≤W2.length)(hx:Ext B W2):eG B W0 b K W2 U:=by
 refine⟨⟨s.bk.o.az fun i hi=>hk i (s.bk.o.dN hi).2,s.bk.hN,(hk _ s.bk.lt).trans s.bk.m,s.bk.ne⟩,hx,Yi s.ln hl,fun i hi=>?_,s.kl⟩;rw[hk i (Ym (s.kl i hi).1 s.ln)];exact s.kp i hi
structure ug(B W Y:ah)(mb:Nat)(c:List AV)(t:AV)(ins:List (By)):Prop where
 k:∀i,i < W.length→Y[i]? =W[i]?
 b:B.length≤W.length
 l:W.length≤mb
 x:Ext B Y
 m:Y[mb]? =some (.b c)
 f:Fr W.length Y t 1 (ins.map au)
 n:∀i,sB t=some i→i≠mb
def ug.lt{B W Y mb c t ins}(s:ug B W Y mb c t ins):mb < Y.length:=(Xr.1 s.m).1
def ug.grow{B W Y Y2 mb c t ins}(s:ug B W Y mb c t ins)(e:Ext Y Y2):ug B W Y2 mb c t ins:=by
 have h1:=s.lt;have h2:=s.l;exact⟨fun i hi=>by rw[e.get Om,s.k i hi],s.b,s.l,s.x.trans e,e.some s.m,s.f.ext e,s.n⟩
theorem ug.set{B W Y mb c t ins}(s:ug B W Y mb c t ins)(c':List AV):ug B W (Y.set mb (.b c')) mb c' t ins:=by
 have h1:=s.lt;have h2:=s.l;have h3:=s.b;exact⟨fun i hi=>by rw[XK Om,s.k i hi],s.b,s.l,s.x.iH Om,XL h1,s.f.aC fun i hi=>XK (YP (s.n i hi)),s.n⟩
def ug.rc{B X W Y x V mb c t ins}(s:ug B W Y mb c t ins)(r:cE B X x V W V):cE B X x V Y V:=
 eG.KG r s.k (by have:=s.lt;have:=s.l;omega) s.x
def ug.st{B W Y mb c t ins}(s:ug B W Y mb c t ins){i v}(hv:v.one=true)(hi:i+1≤c.length):aW 1 (.ptr mb i) v (fun z=>Y[z]?)=some (aB,.set mb (.b (c.set i v))):=
 (aM s.m).trans (bV hv hi)
def vI(k:Nat):aj:=(fn226).body.dr k
def Em(k:Nat):aj:=((fn226).body.dr k).hd
def OJ:vI 1= .seq (Em 1) (vI 2):=rfl
def HH:vI 2= .seq (Em 2) (vI 3):=rfl
def OK:fn226= ⟨96,2,[(4,some (some 7)),(5,none)],.seq (Em 0) (vI 1)⟩:=rfl
section
variable {P:Program} (T:fA P) {B X W Y:ah} {ts:TS} {V:RV} {x:EV} {mb:Nat}
include T
theorem tM(w:fo V.ar)(s:cE B X x V W V){y t ins}(hb:ug B W Y mb [.str y.name,.str y.gives,.str y.line,t] t ins)(hy:y.bu=ins)(hlen:ts.length=96)(t2:slot ts 2= .ptr X.length 0)(t4:slot ts 4= .ptr (X.length+2) 0)(t6:slot ts 6= .ptr mb 0):
  WC P bR (vI 3) [] ts Y (FQ [(4,some (some 7)),(5,none)] (ry B X V (if 32≤V.ar.aE.length then 5 else 0) { V.ar with aE:=V.ar.aE++ [y] })):=by
 have sY:=hb.rc s;have oV:=sY.bk.o.ok;have lm:∀{k n a},Ext Y k→ao n (.ptr mb a) (fun z=>k[z]?)=cp n a (.b [.str y.name,.str y.gives,.str y.line,t]):=fun {_ _ _} e=>an (e.some hb.m)
 have hml:V.ar.aE.length=V.aE.length:=by simp[RV.ar]
 have ot:=hb.f.a8.one;obtain⟨lr,le,sb,gm⟩:=cE.fa sY;unfold vI fn226;simp only[aj.j,aj.s,aj.r,aj.dr,aj.tl];by_cases h1:32≤V.aE.length
 case pos=>
  have e1:decide ((32:Int)≤(V.aE.length:Int))=true:=Xz Om;refine Rs (mY t2 t4 t6 @lr @fE oV.i3.aP e1 @aF @sb @gm) ?_;rw[hml,XI h1];exact z91
 have e1:decide ((32:Int)≤(V.aE.length:Int))=false:=Xu Om;obtain⟨z,hz⟩:∃z:List AV,z=aU (y,t):=⟨_,rfl⟩;have Sc: [AV.str y.name,.str y.gives,.str y.line,t]=z:=by rw[hz];rfl
 refine Rs (A9 t2 t4 t6 @lr @fE oV.i3.aP e1 @lm @ot) ?_;rw[Sc];refine WR.pY (B:=B) (cs:=V.aE.map aU) (sY.bk.o.i3) (by rw[hz];rfl) sY.ex De (by rw[XB];omega) ?_;intro W5 s' x5 hff hn5 q5 l5 hk5;have hrow:V.aE.map aU++ [z]= (V.aE++ [(y,t)]).map aU:=by rw[XD,hz];rfl
 rw[hrow]at hff;have hlW:W.length≤Y.length:=by have:=hb.lt;have:=hb.l;omega
 have bS:∀i,sB t=some i→sB V.s3≠some i:=fun i hi e=>by
  have h1:=(hb.f.bN hi).1;have h2:=(s.bk.o.dN (b:=i) (by rw[←e];simp[RV.bl])).2;omega
 have f5:Fr B.length W5 t 1 (y.bu.map au):=by
  rw[hy];exact(hb.f.aC fun i hi=>hk5 i (hb.f.bN hi).2 (bS i hi)).low hb.b
 have s5:cE B X x V (W5.set X.length (.b (V.row.set 4 s'))) { V with aE:=V.aE++ [(y,t)],s3:=s' }:=eG.p3 s hff f5 (fun i hi=>.inr (by have:=hn5 i hi;omega)) (fun i hi=>⟨(hb.f.bN hi).1,fun e=>by have:=hn5 i e;have:=(hb.f.bN hi).2;omega⟩) (fun i hi hne=>(hk5 i Om hne).trans (hb.k i hi)) x5 Om;have mB:W5[X.length]? =some (.b V.row):=(hk5 _ sY.bk.lt (fun z=>sY.bk.ne (by rw[←z];simp[RV.bl]))).trans sY.bk.m;have RZ:aW 1 (.ptr X.length 4) s' (fun z=>W5[z]?)=some (aB,.set X.length (.b (V.row.set 4 s'))):=(aM mB).trans (bV q5 (by show 4+1≤7;omega));refine Rs (A5 t2 t4 t6 @RZ q5) ?_;obtain⟨W6,R7⟩:∃Z,Z=W5.set X.length (.b (V.row.set 4 s')):=⟨_,rfl⟩
 rw[←R7]at s5 ⊢;obtain⟨lr,le,sb,gm⟩:=cE.fa s5;refine Rs (A7 t2 t4 t6 @lr @aF @sb @gm) ?_;rw[hml,XG h1];exact cE.fin s5 (fun _=>by simp only[RV.ar,XD,Yr,Zf])
variable {t:AV}
theorem zC(w:fo V.ar)(ox:bo B x)(we:kC x.ev .source)(nk:rO V.ar x.ev .source)(s:cE B X x V W V)(hb:ug B W Y mb [.str (aN x.ev 0),.str [],.str [],t] t (x.ev.names.drop 1))(ht:t.one=true)(hlen:ts.length=96)(t2:slot ts 2= .ptr X.length 0)(t3:slot ts 3= .ptr (X.length+1) 0)(t4:slot ts 4= .ptr (X.length+2) 0)(t6:slot ts 6= .ptr mb 0):
  WC P bR (vI 2) [] ts Y (FQ [(4,some (some 7)),(5,none)] (ry B X V (bB V.ar x.ev .source) (dq V.ar x.ev .source))):=by
 have sY:=hb.rc s;have ow:=ox.ext sY.ex;have oV:=sY.bk.o.ok;have Qu:x.ev.kind=bz .source:=cw we.kd;have lm:∀{k n a},Ext Y k→ao n (.ptr mb a) (fun z=>k[z]?)=cp n a (.b [.str (aN x.ev 0),.str [],.str [],t]):=fun {_ _ _} e=>an (e.some hb.m)
 obtain⟨lr,le,sb,gm⟩:=cE.fa sY;rw[HH];generalize hR:vI 3=R;unfold Em fn226;simp only[aj.j,aj.s,aj.r,aj.dr,aj.tl,aj.hd];refine oE (pU t2 t3 t4 t6 @le @bA @Qu @gN @jM @iV @XX @XS) ?_;refine om (fun g=>cE B X x V g V) ?_;refine c7 sY rfl rfl ?_;refine Rs (A4 t2 t3 t4 t6) ?_;refine kD sY (v:=x.sn) (fun g hg=>?_) ?_
 ·simp only[aV,bd,bD,bE,reduceAdd,reduceMul,reduceLeDiff,reduceEqDiff,bF,hlen,XO,XR,t3,cE.le hg (Ext.refl _),aO]
 refine Rs (A4 t2 t3 t4 t6) ?_;have i1:aZ 1 x.sn (.i 1)=_:=(vB ow we (i:=1) De).1;refine c7 sY rfl rfl ?_;refine Rs (A5 t2 t3 t4 t6 @i1) ?_;refine kD sY (v:=.str (aN x.ev 1)) (fun g hg=>?_) ?_
 ·have h9:=@(vB (ox.ext (eG.ex hg)) we (i:=1) De).2;refine Zs t3 ?_;exact h9 (Ext.refl _)
 refine Rs (A4 t2 t3 t4 t6) ?_;refine c7 sY rfl rfl ?_;refine Rs (A4 t2 t3 t4 t6) ?_;have QS:=hb.set [.str (aN x.ev 0),.str dM,.str [],t];have kE:aW 1 (.ptr mb 1) (.str [115,104,111,116,115]) (fun z=>Y[z]?)=some (aB,.set mb (.b [.str (aN x.ev 0),.str dM,.str [],t])):=hb.st rfl (by show 1+1≤4;omega);obtain⟨Y1,Ur⟩:∃Z,Z=Y.set mb (.b [.str (aN x.ev 0),.str dM,.str [],t]):=⟨_,rfl⟩;rw[←Ur]at QS;refine c7 sY rfl rfl ?_;refine Rs (A5 t2 t3 t4 t6 @kE) ?_;rw[←Ur];have S1:=QS.rc s;refine oh S1 rfl ?_;have Q4:=QS.set [.str (aN x.ev 0),.str dM,.str (aN x.ev 1),t];have eF:aW 1 (.ptr mb 2) (.str (aN x.ev 1)) (fun z=>Y1[z]?)=some (aB,.set mb (.b [.str (aN x.ev 0),.str dM,.str (aN x.ev 1),t])):=QS.st rfl (by show 2+1≤4;omega)
 have Tz:=Q4.set [.str (aN x.ev 0),.str dM,.str (aN x.ev 1),.af];have nj:aW 1 (.ptr mb 3) .af (fun z=>(Y1.set mb (.b [.str (aN x.ev 0),.str dM,.str (aN x.ev 1),t]))[z]?)=some (aB,.set mb (.b [.str (aN x.ev 0),.str dM,.str (aN x.ev 1),.af])):=Q4.st rfl (by show 3+1≤4;omega);have hb4:ug B W _ mb [.str (aN x.ev 0),.str dM,.str (aN x.ev 1),.af] .af []:=⟨Tz.k,Tz.b,Tz.l,Tz.x,Tz.m,.nil,fun i hi=>by cases hi⟩;refine Rs (A6 t2 t3 t4 t6 @eF @nj) ?_;rw[←hR];exact tM T w s (y:=⟨aN x.ev 0,dM,aN x.ev 1,[]⟩) hb4 rfl Sn (Sq t2) (Sq t4) (Sq t6)
theorem El(w:fo V.ar)(ox:bo B x)(we:kC x.ev .fL)(nk:rO V.ar x.ev .fL)(s:cE B X x V W V)(hb:ug B W Y mb [.str (aN x.ev 0),.str [],.str [],t] t (x.ev.names.drop 1))(ht:t.one=true)(hlen:ts.length=96)(t2:slot ts 2= .ptr X.length 0)(t3:slot ts 3= .ptr (X.length+1) 0)(t4:slot ts 4= .ptr (X.length+2) 0)(t6:slot ts 6= .ptr mb 0):
  WC P bR (vI 2) [] ts Y (FQ [(4,some (some 7)),(5,none)] (ry B X V (bB V.ar x.ev .fL) (dq V.ar x.ev .fL))):=by
 have sY:=hb.rc s;have ow:=ox.ext sY.ex;have oV:=sY.bk.o.ok;have Qu:x.ev.kind=bz .fL:=cw we.kd;have lm:∀{k n a},Ext Y k→ao n (.ptr mb a) (fun z=>k[z]?)=cp n a (.b [.str (aN x.ev 0),.str [],.str [],t]):=fun {_ _ _} e=>an (e.some hb.m)
 obtain⟨lr,le,sb,gm⟩:=cE.fa sY;obtain⟨i1,d1⟩:=bM ow we 1 1 rfl De;obtain⟨j1,f1,q1⟩:=cT ow we 1 1 rfl De;have k1:aN x.ev 1∈gM V.ar:=nk.kn 1 3 rfl;rw[HH];generalize hR:vI 3=R;unfold Em fn226;simp only[aj.j,aj.s,aj.r,aj.dr,aj.tl,aj.hd];refine oE (F0 t2 t3 t4 t6 @le @lr @aO @aY @aF @bA @Qu @gN @jM @iV @XX @XS @j1 @f1) ?_;refine WF.ce T.c20 (r20 T _ _ _) fun g1=>?_
 obtain⟨Y1,Ur⟩:∃Z,Z=Y++g1:=⟨_,rfl⟩;rw[←Ur];have hb:=hb.grow (show Ext Y Y1 from⟨g1,Ur⟩);have sY:=hb.rc s;have ow:=ox.ext sY.ex;have oV:=sY.bk.o.ok;have lm:∀{k n a},Ext Y1 k→ao n (.ptr mb a) (fun z=>k[z]?)=cp n a (.b [.str (aN x.ev 0),.str [],.str [],t]):=fun {_ _ _} e=>an (e.some hb.m)
 obtain⟨lr,le,sb,gm⟩:=cE.fa sY;obtain⟨i1,d1⟩:=bM ow we 1 1 rfl De;obtain⟨j1,f1,q1⟩:=cT ow we 1 1 rfl De;by_cases h1:bh (bI x.ev 1) 1 4=0
 case neg=>
  have e1:decide (bh (bI x.ev 1) 1 4≠0)=true:=Xz h1;refine Rs (A8 t2 t3 t4 e1 @lr @aF @sb @gm) ?_;rw[bB,XI h1];exact z91
 have e1:decide (bh (bI x.ev 1) 1 4≠0)=false:=Xu (fun z=>z h1);refine Rs (pU t2 t3 t4 t6 @le @lr @aO @aY @aF e1 @j1 @f1) ?_;refine WF.ce T.c263 (r263 T _) fun g2=>?_
 obtain⟨Y2,SL⟩:∃Z,Z=Y1++g2:=⟨_,rfl⟩;rw[←SL];have hb:=hb.grow (show Ext Y1 Y2 from⟨g2,SL⟩);have sY:=hb.rc s;have ow:=ox.ext sY.ex;have oV:=sY.bk.o.ok;have lm:∀{k n a},Ext Y2 k→ao n (.ptr mb a) (fun z=>k[z]?)=cp n a (.b [.str (aN x.ev 0),.str [],.str [],t]):=fun {_ _ _} e=>an (e.some hb.m)
 obtain⟨lr,le,sb,gm⟩:=cE.fa sY;obtain⟨i1,d1⟩:=bM ow we 1 1 rfl De;obtain⟨j1,f1,q1⟩:=cT ow we 1 1 rfl De;refine Rs (mX t2 t3 t4 t6 @le @lr @aO @aY @aF @i1 @d1) ?_;refine WF.ce T.c264 (r264 T (oV.ext Xx) w.len k1) fun g3=>?_
 obtain⟨Y3,hY3⟩:∃Z,Z=Y2++g3:=⟨_,rfl⟩;rw[←hY3];have hb:=hb.grow (show Ext Y2 Y3 from⟨g3,hY3⟩);have sY:=hb.rc s;have ow:=ox.ext sY.ex;have oV:=sY.bk.o.ok;have lm:∀{k n a},Ext Y3 k→ao n (.ptr mb a) (fun z=>k[z]?)=cp n a (.b [.str (aN x.ev 0),.str [],.str [],t]):=fun {_ _ _} e=>an (e.some hb.m)
 obtain⟨lr,le,sb,gm⟩:=cE.fa sY;by_cases h2: (fW V.ar (aN x.ev 1)).gives=my (bI x.ev 1)
 case neg=>
  have e2:decide ((fW V.ar (aN x.ev 1)).gives≠my (bI x.ev 1))=true:=Xz h2;refine Rs (A9 t2 t3 t4 t6 e2 @lr @aF @sb @gm) ?_;rw[bB,XG (fun z=>z h1),XI h2];exact z91
 have e2:decide ((fW V.ar (aN x.ev 1)).gives≠my (bI x.ev 1))=false:=Xu (fun z=>z h2);have QS:=hb.set [.str (aN x.ev 0),.str (jD (bI x.ev 1)),.str [],t];have kE:aW 1 (.ptr mb 1) (.str (jD (bI x.ev 1))) (fun z=>Y3[z]?)=some (aB,.set mb (.b [.str (aN x.ev 0),.str (jD (bI x.ev 1)),.str [],t])):=hb.st rfl (by show 1+1≤4;omega);refine Rs (A6 t2 t3 t4 t6 e2 @kE) ?_;rw[←hR];have hc:bB V.ar x.ev .fL=if 32≤V.ar.aE.length then 5 else 0:=by rw[bB,XG (fun z=>z h1),XG (fun z=>z h2)]
 rw[hc];exact tM T w s (y:=⟨aN x.ev 0,jD (bI x.ev 1),[],x.ev.names.drop 1⟩) QS rfl Sn (Sq t2) (Sq t4) (Sq t6)
theorem B6(w:fo V.ar)(ox:bo B x)(we:kC x.ev .merge)(nk:rO V.ar x.ev .merge)(s:cE B X x V W V)(hb:ug B W Y mb [.str (aN x.ev 0),.str [],.str [],t] t (x.ev.names.drop 1))(ht:t.one=true)(hlen:ts.length=96)(t2:slot ts 2= .ptr X.length 0)(t3:slot ts 3= .ptr (X.length+1) 0)(t4:slot ts 4= .ptr (X.length+2) 0)(t6:slot ts 6= .ptr mb 0):
  WC P bR (vI 2) [] ts Y (FQ [(4,some (some 7)),(5,none)] (ry B X V (bB V.ar x.ev .merge) (dq V.ar x.ev .merge))):=by
 have sY:=hb.rc s;have ow:=ox.ext sY.ex;have oV:=sY.bk.o.ok;have Qu:x.ev.kind=bz .merge:=cw we.kd;have lm:∀{k n a},Ext Y k→ao n (.ptr mb a) (fun z=>k[z]?)=cp n a (.b [.str (aN x.ev 0),.str [],.str [],t]):=fun {_ _ _} e=>an (e.some hb.m)
 obtain⟨lr,le,sb,gm⟩:=cE.fa sY;obtain⟨i1,d1⟩:=bM ow we 1 1 rfl De;obtain⟨i2,d2⟩:=bM ow we 2 2 rfl De;have k1:aN x.ev 1∈gM V.ar:=nk.kn 1 3 rfl;have k2:aN x.ev 2∈gM V.ar:=nk.kn 2 3 rfl;rw[HH];generalize hR:vI 3=R;unfold Em fn226;simp only[aj.j,aj.s,aj.r,aj.dr,aj.tl,aj.hd];by_cases h1:aN x.ev 1=aN x.ev 2
 case pos=>
  have e1:decide (aN x.ev 1=aN x.ev 2)=true:=Xz h1;refine oE (PS t2 t3 t4 t6 @le @lr @aO @aY @aF @bA @Qu @gN @jM @iV @XX @XS @i1 @d1 @i2 @d2 e1 @sb @gm) ?_;rw[bB,XI h1];exact z91
 have e1:decide (aN x.ev 1=aN x.ev 2)=false:=Xu h1;refine oE (PT t2 t3 t4 t6 @le @lr @aO @aY @aF @bA @Qu @gN @jM @iV @XX @XS @i1 @d1 @i2 @d2 e1) ?_;refine WF.ce T.c264 (r264 T (oV.ext Xx) w.len k1) fun g2=>?_
 obtain⟨Y1,Ur⟩:∃Z,Z=Y++g2:=⟨_,rfl⟩;rw[←Ur];have hb:=hb.grow (show Ext Y Y1 from⟨g2,Ur⟩);have sY:=hb.rc s;have ow:=ox.ext sY.ex;have oV:=sY.bk.o.ok;have lm:∀{k n a},Ext Y1 k→ao n (.ptr mb a) (fun z=>k[z]?)=cp n a (.b [.str (aN x.ev 0),.str [],.str [],t]):=fun {_ _ _} e=>an (e.some hb.m)
 obtain⟨lr,le,sb,gm⟩:=cE.fa sY;have QS:=hb.set [.str (aN x.ev 0),.str (fW V.ar (aN x.ev 1)).gives,.str [],t];have kE:aW 1 (.ptr mb 1) (.str (fW V.ar (aN x.ev 1)).gives) (fun z=>Y1[z]?)=some (aB,.set mb (.b [.str (aN x.ev 0),.str (fW V.ar (aN x.ev 1)).gives,.str [],t])):=hb.st rfl (by show 1+1≤4;omega);refine Rs (A5 t2 t3 t4 t6 @kE) ?_;obtain⟨Y2,SL⟩:∃Z,Z=Y1.set mb (.b [.str (aN x.ev 0),.str (fW V.ar (aN x.ev 1)).gives,.str [],t]):=⟨_,rfl⟩;rw[←SL]at QS ⊢;have hb:=QS;obtain⟨Y3,hY3⟩:∃Z,Z=Y2++ []:=⟨_,rfl⟩;rw[XU]at hY3;rw[←hY3];have hb:=hb.grow (show Ext Y2 Y3 from⟨[],by rw[XU];exact hY3⟩);have sY:=hb.rc s
 have ow:=ox.ext sY.ex;have oV:=sY.bk.o.ok;have lm:∀{k n a},Ext Y3 k→ao n (.ptr mb a) (fun z=>k[z]?)=cp n a (.b [.str (aN x.ev 0),.str (fW V.ar (aN x.ev 1)).gives,.str [],t]):=fun {_ _ _} e=>an (e.some hb.m)
 obtain⟨lr,le,sb,gm⟩:=cE.fa sY;obtain⟨i1,d1⟩:=bM ow we 1 1 rfl De;obtain⟨i2,d2⟩:=bM ow we 2 2 rfl De;refine Rs (mX t2 t3 t4 t6 @le @lr @aO @aY @aF @i2 @d2) ?_;refine WF.ce T.c264 (r264 T (oV.ext Xx) w.len k2) fun g3=>?_
 obtain⟨Y4,hY4⟩:∃Z,Z=Y3++g3:=⟨_,rfl⟩;rw[←hY4];have hb:=hb.grow (show Ext Y3 Y4 from⟨g3,hY4⟩);have sY:=hb.rc s;have ow:=ox.ext sY.ex;have oV:=sY.bk.o.ok;have lm:∀{k n a},Ext Y4 k→ao n (.ptr mb a) (fun z=>k[z]?)=cp n a (.b [.str (aN x.ev 0),.str (fW V.ar (aN x.ev 1)).gives,.str [],t]):=fun {_ _ _} e=>an (e.some hb.m)
 obtain⟨lr,le,sb,gm⟩:=cE.fa sY;by_cases h2: (fW V.ar (aN x.ev 1)).gives= (fW V.ar (aN x.ev 2)).gives
 case neg=>
  have e2:decide ((fW V.ar (aN x.ev 2)).gives≠(fW V.ar (aN x.ev 1)).gives)=true:=Xz (fun z=>h2 z.symm);refine Rs (mY t2 t3 t4 t6 @lm e2 @lr @aF @sb @gm) ?_;rw[bB,XG h1,XI h2];exact z91
 have e2:decide ((fW V.ar (aN x.ev 2)).gives≠(fW V.ar (aN x.ev 1)).gives)=false:=Xu (fun z=>z h2.symm);refine Rs (A6 t2 t3 t4 t6 @lm e2) ?_;rw[←hR];have hc:bB V.ar x.ev .merge=if 32≤V.ar.aE.length then 5 else 0:=by rw[bB,XG h1,XG (fun z=>z h2)]
 rw[hc];exact tM T w s (y:=⟨aN x.ev 0,(fW V.ar (aN x.ev 1)).gives,[],x.ev.names.drop 1⟩) hb rfl Sn (Sq t2) (Sq t4) (Sq t6)
omit T in
theorem Fp(o:cG B.length X V)(hx:Ext B X):cE B X x V (X++ [.b V.row]++ [.b x.row]++ [.b km]) V:=by
 exact z20
theorem B5{d}(hd:d= .source∨d= .fL∨d= .merge)(w:fo V.ar)(ox:bo B x)(we:kC x.ev d)(nk:rO V.ar x.ev d)(s:cE B X x V W V)(hlen:ts.length=96)(t2:slot ts 2= .ptr X.length 0)(t3:slot ts 3= .ptr (X.length+1) 0)(t4:slot ts 4= .ptr (X.length+2) 0):
  WC P bR (vI 1) [] ts W (FQ [(4,some (some 7)),(5,none)] (ry B X V (bB V.ar x.ev d) (dq V.ar x.ev d))):=by
 have ow:=ox.ext s.ex;have hn1:1≤x.ev.names.length:=by rw[we.nl];rcases hd with rfl| rfl| rfl<;>decide
 have hn3:x.ev.names.length≤3:=by rw[we.nl];rcases hd with rfl| rfl| rfl<;>decide
 have TH:0 < (bL d).length:=by rw[←we.nl];exact hn1
 obtain⟨i0,d0⟩:=bM ow we 0 0 rfl TH;obtain⟨lr,le,sb,gm⟩:=cE.fa s;obtain⟨s',es',Qo⟩:=ow.n.Fc (lo:=some (.i 1)) (hi:=none) (lQ (k:=1) hn1);have et:List.take (x.ev.names.length - 1) (List.drop 1 x.ev.names)=x.ev.names.drop 1:=Yf Si;rw[et]at Qo;rw[OJ];generalize hR:vI 2=R;unfold Em fn226;simp only[aj.j,aj.s,aj.r,aj.dr,aj.tl,aj.hd];refine Rs (A8 t2 t3 t4 @le @aO @i0 @d0 @es') ?_;refine WR.pX (N:=W.length) (w:=16) bf (XH _) (Qo.ext Xx) (by simp only[XB,ZK];omega) fun t g f=>?_
 have ot:=f.a8.one;obtain⟨Y,hY⟩:∃Z,Z=W++ [aq.b []]++g:=⟨_,rfl⟩;rw[←hY]at f ⊢;have eY:Ext W Y:=by rw[hY,Xt];exact⟨_,rfl⟩
 refine Rs (A4 t2 t3 t4 @ot) ?_;have hb:ug B W (Y++ [aq.b [AV.str (aN x.ev 0),.str [],.str [],t]]) Y.length [AV.str (aN x.ev 0),.str [],.str [],t] t (x.ev.names.drop 1):=by
  refine⟨fun i hi=>?_,s.ex.len,eY.len,s.ex.trans (eY.trans ⟨_,rfl⟩),bf,f.app _,fun i hi e=>?_⟩
  ·rw[Xv (by have:=eY.len;omega),eY.get hi]
  ·have:=(f.bN hi).2;omega
 rw[←hR];rcases hd with rfl| rfl| rfl
 ·exact zC T w ox we nk s hb ot Sn (Sq t2) (Sq t3) (Sq t4) Sw
 ·exact El T w ox we nk s hb ot Sn (Sq t2) (Sq t3) (Sq t4) Sw
 ·exact B6 T w ox we nk s hb ot Sn (Sq t2) (Sq t3) (Sq t4) Sw
theorem Hf{d}(hd:d= .source∨d= .fL∨d= .merge)(o:cG B.length X V)(w:fo V.ar)(hx:Ext B X)(ox:bo B x)(we:kC x.ev d)(nk:rO V.ar x.ev d):
  db P 226 [.agg V.row,.agg x.row] X (ry B X V (bB V.ar x.ev d) (dq V.ar x.ev d)):=by
 refine .of T.mix (Z6 T.c226 (X6 some OK)) ?_;obtain⟨ts,Qn⟩:∃ts,ts=aT 96 [.agg V.row,.agg x.row]:=⟨_,rfl⟩;have hlen:ts.length=96:=by rw[Qn];rfl
 have t0:slot ts 0= .agg V.row:=by rw[Qn];rfl
 have t1:slot ts 1= .agg x.row:=by rw[Qn];rfl
 show WC P bR (.seq (Em 0) (vI 1)) [] (aT 96 [.agg V.row,.agg x.row]) X (FQ [(4,some (some 7)),(5,none)] (ry B X V (bB V.ar x.ev d) (dq V.ar x.ev d)));rw[←Qn];clear Qn;have Qm:=@aD.box _ _ o.ok;have hex:=@bo.box _ _ (ox.ext hx);have s:cE B X x V (X++ [.b V.row]++ [.b x.row]++ [.b km]) V:=Fp o hx;unfold km at s;generalize hR:vI 1=R;unfold Em fn226;simp only[aj.dr,aj.hd];refine Rs (A4 t0 t1 @Qm @hex) ?_;rw[←hR];exact B5 T hd w ox we nk s Sn Sw (by simp only[aV,bd,bD,bE,reduceAdd,reduceMul,reduceLeDiff,reduceEqDiff,bF,hlen,XO,XR];simp) (by simp only[aV,bd,bD,bE,reduceAdd,reduceMul,reduceLeDiff,reduceEqDiff,bF,hlen,XO,XR];simp)
end
def zx(k:Nat):aj:=(fn227).body.dr k
def OA(k:Nat):aj:=((fn227).body.dr k).hd
def Oz:fn227= ⟨223,2,[(4,some (some 7)),(5,none)],.seq (OA 0) (zx 1)⟩:=rfl
structure OZ(V:RV)(n:By)(p:Nat)(J:kK×AV):Prop where
 ps:p=bj (iA V.ar) n
 lt:p < V.aH.length
 g:V.aH[p]? =some J
 e:J.1=gh V.ar n
 m:J∈V.aH
 i:cS (fun y:kK×AV=>decide (y.1.name=n)) V.aH= (p:Int)
def NL{V n}(hn:n∈iA V.ar):∃p J,OZ V n p J:=by
 have hlt:bj (iA V.ar) n < V.aH.length:=by have:=cP hn;simpa [iA,RV.ar]using this
 refine⟨_,V.aH[bj (iA V.ar) n],rfl,hlt,Xw hlt,?_,XJ _,?_⟩
 ·rw[gh,c9 (f:=kK.name) (l:=V.ar.aH) (d:=ze) hn];exact Ag
 ·rw[gU];exact eD (f:=fun y:kK×AV=>y.1.name) (by rw[←gU];exact hn)
theorem OZ.at{V n p J}(j:OZ V n p J):V.aH[p]'j.lt=J:=by
 have:=j.g;rw[Xw j.lt]at this;exact Yu this
section
variable {P:Program} (T:fA P) {B X W:ah} {ts:TS} {V:RV} {x:EV}
include T
theorem HG(w:fo V.ar)(ox:bo B x)(we:kC x.ev .rel)(nk:rO V.ar x.ev .rel)(s:cE B X x V W V)(hlen:ts.length=223)(t2:slot ts 2= .ptr X.length 0)(t3:slot ts 3= .ptr (X.length+1) 0)(t4:slot ts 4= .ptr (X.length+2) 0):
  WC P bR (zx 1) [] ts W (FQ [(4,some (some 7)),(5,none)] (ry B X V (bB V.ar x.ev .rel) (dq V.ar x.ev .rel))):=by
 have ow:=ox.ext s.ex;have oV:=s.bk.o.ok;have Qu:x.ev.kind=bz .rel:=cw we.kd;obtain⟨lr,le,sb,gm⟩:=cE.fa s;obtain⟨i0,d0⟩:=bM ow we 0 0 rfl De;unfold zx fn227;simp only[aj.j,aj.s,aj.r,aj.dr,aj.tl];have k0:aN x.ev 0∈kN V.ar:=nk.kn 0 5 rfl;have hlt:bj (kN V.ar) (aN x.ev 0)< V.aQ.length:=by have:=cP k0;simpa [kN,RV.ar]using this
 have ei:cS (fun y:p6=>decide (y.name=aN x.ev 0)) V.aQ= (bj (kN V.ar) (aN x.ev 0):Int):=eD (f:=p6.name) k0;have sp:jK V.ar (aN x.ev 0)=V.aQ[bj (kN V.ar) (aN x.ev 0)]:=c9 k0;obtain⟨p,hp⟩:∃p,p=bj (kN V.ar) (aN x.ev 0):=⟨_,rfl⟩;rw[←hp]at ei;have hlt:p < V.aQ.length:=by rw[hp];exact hlt
 have sp:jK V.ar (aN x.ev 0)=V.aQ[p]:=by rw[sp];congr 1;exact hp.symm
 refine oE (Cu t2 t3 t4 @le @lr @bA @aO @aY @aF @Qu @gG @XX @XS @i0 @d0) ?_;refine WF.ce T.c57 (r57 T (oV.ext Xx) w.len _) fun g1=>?_
 rw[ei];obtain⟨W2,Q0⟩:∃Z,Z=W++g1:=⟨_,rfl⟩;rw[←Q0];have QK:cE B X x V W2 V:=by rw[Q0];exact eG.grow s ⟨g1,rfl⟩
 have ow:=ox.ext QK.ex;have oV:=QK.bk.o.ok;obtain⟨lr,le,sb,gm⟩:=cE.fa QK;have ix:aZ 4 V.s5 (.i (p:Int))=some (cV V.s5 4 p,.az):=oV.i5.dG hlt;have l3:∀{k:ah},Ext W2 k→ao none (lh V.s5 4 p 3) (fun b=>k[b]?)=some (.bool (jK V.ar (aN x.ev 0)).rel,.az):=fun {k} e=>by rw[sp];exact oV.i5.pG hlt rfl e
 cases h1: (jK V.ar (aN x.ev 0)).rel with
 | true=>
  rw[h1]at l3;refine Rs (mY t2 t3 t4 ix @l3 @lr @aF @gR @sb @gm) ?_;rw[bB,XI h1];exact z87
 | false=>
  rw[h1]at l3;have RF:bB V.ar x.ev .rel=0:=by rw[bB,XG (by rw[h1];decide)]
  refine Rs (A7 t2 t3 t4 ix @l3 @lr @gR) ?_;refine WR.Bi (B:=B) (x':={ V.aQ[p]with rel:=true }) (row:=da) QK.bk.o.i5 QK.ex hlt De rfl rfl ?_;intro W5 x5 l5 hff hk5;have s5:cE B X x V W5 { V with aQ:=V.aQ.set p { V.aQ[p]with rel:=true } }:=eG.q5 QK hff (fun i _ hne=>hk5 i hne) x5 Om;obtain⟨lr,_,sb,gm⟩:=cE.fa s5;refine Rs (A7 t2 t3 t4 @lr @aF @sb @gm) ?_;exact z175
theorem D2(w:fo V.ar)(ox:bo B x)(we:kC x.ev .fZ)(nk:rO V.ar x.ev .fZ)(s:cE B X x V W V)(hlen:ts.length=223)(t2:slot ts 2= .ptr X.length 0)(t3:slot ts 3= .ptr (X.length+1) 0)(t4:slot ts 4= .ptr (X.length+2) 0):
  WC P bR (zx 1) [] ts W (FQ [(4,some (some 7)),(5,none)] (ry B X V (bB V.ar x.ev .fZ) (dq V.ar x.ev .fZ))):=by
 have ow:=ox.ext s.ex;have oV:=s.bk.o.ok;have Qu:x.ev.kind=bz .fZ:=cw we.kd;obtain⟨lr,le,sb,gm⟩:=cE.fa s;obtain⟨i0,d0⟩:=bM ow we 0 0 rfl De;obtain⟨i1,d1⟩:=bM ow we 1 1 rfl De;unfold zx fn227;simp only[aj.j,aj.s,aj.r,aj.dr,aj.tl];have k1:aN x.ev 1∈iA V.ar:=nk.kn 1 4 rfl;obtain⟨p,J,jx⟩:=NL k1;have ix:aZ 3 V.s4 (.i (p:Int))=some (cV V.s4 3 p,.az):=oV.i4.dG jx.lt;refine oE (F1 t2 t3 t4 @le @lr @bA @aO @aY @fS @aF @Qu @gG @XX @XS @i1 @d1) ?_;refine WF.ce T.c56 (r56 T (oV.ext Xx) w.len _) fun g1=>?_
 rw[jx.i];obtain⟨W2,Q0⟩:∃Z,Z=W++g1:=⟨_,rfl⟩;rw[←Q0];have QK:cE B X x V W2 V:=by rw[Q0];exact eG.grow s ⟨g1,rfl⟩
 have ow:=ox.ext QK.ex;have oV:=QK.bk.o.ok;obtain⟨lr,le,sb,gm⟩:=cE.fa QK;obtain⟨i0,d0⟩:=bM ow we 0 0 rfl De;obtain⟨i1,d1⟩:=bM ow we 1 1 rfl De;have ld:∀{k:ah},Ext W2 k→ao (some 3) (cV V.s4 3 p) (fun b=>k[b]?)=some (.agg (bO J),.az):=fun {k} e=>by rw[←jx.at];exact oV.i4.kB jx.lt e
 have oJ:=oV.e4 J jx.m;have oJ1:=oJ.one;have hJ:=w.jb J.1 (XZ jx.m);unfold bO at ld;refine Rs (A6 t2 t3 t4 ix @ld @oJ1) ?_;obtain⟨jb,hjb⟩:∃n,n=W2.length:=⟨_,rfl⟩;rw[←hjb];obtain⟨W3,QI⟩:∃Z,Z=W2++ [aq.b [AV.str J.1.name,.str J.1.mod,J.2]]:=⟨_,rfl⟩;rw[←QI];have QO:cE B X x V W3 V:=by rw[QI];exact eG.grow QK ⟨[aq.b [AV.str J.1.name,.str J.1.mod,J.2]],rfl⟩
 have ow:=ox.ext QO.ex;have oV:=QO.bk.o.ok;obtain⟨lr,le,sb,gm⟩:=cE.fa QO;obtain⟨i0,d0⟩:=bM ow we 0 0 rfl De;obtain⟨i1,d1⟩:=bM ow we 1 1 rfl De;have mj:W3[jb]? =some (.b [AV.str J.1.name,.str J.1.mod,J.2]):=by rw[QI,hjb];exact bf
 have lj:∀{k n a},Ext W3 k→ao n (.ptr jb a) (fun z=>k[z]?)=cp n a (.b [AV.str J.1.name,.str J.1.mod,J.2]):=fun {_ _ _} e=>an (e.some mj)
 have oJ:=oV.e4 J jx.m;refine Rs (mX t2 t3 t4 @le @lr @bA @aO @aY @aF @i1 @d1) ?_;refine WF.ce T.c265 (r265 T (oV.ext Xx) w.len _) fun g2=>?_
 obtain⟨W4,Rc⟩:∃Z,Z=W3++g2:=⟨_,rfl⟩;rw[←Rc];have R0:cE B X x V W4 V:=by rw[Rc];exact eG.grow QO ⟨g2,rfl⟩
 have ow:=ox.ext R0.ex;have oV:=R0.bk.o.ok;obtain⟨lr,le,sb,gm⟩:=cE.fa R0;obtain⟨i0,d0⟩:=bM ow we 0 0 rfl De;obtain⟨i1,d1⟩:=bM ow we 1 1 rfl De;have mj:=(show Ext W3 W4 from⟨g2,Rc⟩).some mj;have lj:∀{k n a},Ext W4 k→ao n (.ptr jb a) (fun z=>k[z]?)=cp n a (.b [AV.str J.1.name,.str J.1.mod,J.2]):=fun {_ _ _} e=>an (e.some mj)
 have oJ:=oV.e4 J jx.m;cases h1:pP V.ar (aN x.ev 1)with
 | true=>
  refine Rs (A7 t2 t3 t4 @lr @aF @sb @gm) ?_;rw[bB,XI h1];exact z141
 | false=>
 refine Rs (A5 t2 t3 t4 @lj @oJ1) ?_;refine WF.res T.c60 (r60 T (x:=J) (oJ.ext Xx) Om) ?_;rintro vl g3 Q9;obtain⟨W5,SM⟩:∃Z,Z=W4++g3:=⟨_,rfl⟩;rw[←SM];have sW5:cE B X x V W5 V:=by rw[SM];exact eG.grow R0 ⟨g3,rfl⟩
 have ow:=ox.ext sW5.ex;have oV:=sW5.bk.o.ok;obtain⟨lr,le,sb,gm⟩:=cE.fa sW5;obtain⟨i0,d0⟩:=bM ow we 0 0 rfl De;obtain⟨i1,d1⟩:=bM ow we 1 1 rfl De;rw[←SM]at Q9;have mj:=(show Ext W4 W5 from⟨g3,SM⟩).some mj;have lj:∀{k n a},Ext W5 k→ao n (.ptr jb a) (fun z=>k[z]?)=cp n a (.b [AV.str J.1.name,.str J.1.mod,J.2]):=fun {_ _ _} e=>an (e.some mj)
 have oJ:=oV.e4 J jx.m;rw[jx.e]at Q9;by_cases h2:cU (gh V.ar (aN x.ev 1)).bw 0= []
 case neg=>
  have e2:decide ((0:Int)< ((cU (gh V.ar (aN x.ev 1)).bw 0).length:Int))=true:=Xz (by have:=Zr.2 h2;omega);refine Rs (A9 t2 t3 t4 Q9.aP e2 @lr @aF @sb @gm) ?_;rw[bB,XG (by rw[h1];decide),XI h2];exact cE.fin sW5 (fun z=>absurd z De)
 have e2:decide ((0:Int)< ((cU (gh V.ar (aN x.ev 1)).bw 0).length:Int))=false:=Xu (by rw[h2];decide);by_cases h3:16≤V.aQ.length
 case pos=>
  have e3:decide ((16:Int)≤(V.aQ.length:Int))=true:=Xz Om;refine Rs (pU t2 t3 t4 Q9.aP e2 @lr @gR oV.i5.aP e3 @aF @sb @gm) ?_;rw[bB,XG (by rw[h1];decide),XG (fun z=>z h2),XI (show 16≤V.ar.aQ.length from h3)];exact cE.fin sW5 (fun z=>absurd z De)
 have e3:decide ((16:Int)≤(V.aQ.length:Int))=false:=Xu Om;have RF:bB V.ar x.ev .fZ=0:=by rw[bB,XG (by rw[h1];decide),XG (fun z=>z h2),XG (show ¬16≤V.ar.aQ.length from h3)]
 refine Rs (F0 t2 t3 t4 @le @lr @bA @aO @aY Q9.aP e2 @gR oV.i5.aP e3 @i0 @d0 @i1 @d1 @lj) ?_;refine WF.ce T.c31 (r31 T (oJ.ext Xx) Om hJ.2.2.2) fun g4=>?_
 rw[jx.e];obtain⟨W6,R7⟩:∃Z,Z=W5++g4:=⟨_,rfl⟩;rw[←R7];have US:cE B X x V W6 V:=by rw[R7];exact eG.grow sW5 ⟨g4,rfl⟩
 have ow:=ox.ext US.ex;have oV:=US.bk.o.ok;obtain⟨lr,le,sb,gm⟩:=cE.fa US;obtain⟨y,hy⟩:∃y:p6,y= ⟨aN x.ev 0,aN x.ev 1,fO (gh V.ar (aN x.ev 1)).bw,false⟩:=⟨_,rfl⟩;obtain⟨z,hz⟩:∃z:List AV,z=da y:=⟨_,rfl⟩;have Sc: [AV.str (aN x.ev 0),.str (aN x.ev 1),.i (fO (gh V.ar (aN x.ev 1)).bw),.bool false]=z:=by rw[hz,hy];rfl
 refine Rs (A3 t2 t3 t4) ?_;rw[Sc];refine WR.pY (B:=B) (cs:=V.aQ.map da) (US.bk.o.i5) (by rw[hz];rfl) US.ex De (by rw[XB];omega) ?_;intro W7 s' x5 hff hn5 q5 l5 hk5;have hrow:V.aQ.map da++ [z]= (V.aQ++ [y]).map da:=by rw[XD,hz];rfl
 rw[hrow]at hff;have s5:cE B X x V (W7.set X.length (.b (V.row.set 6 s'))) { V with aQ:=V.aQ++ [y],s5:=s' }:=eG.p5 US hff (fun i hi=>.inr (ZY (hn5 i hi))) hk5 x5 l5;have mB:W7[X.length]? =some (.b V.row):=(hk5 _ US.bk.lt (fun z=>US.bk.ne (by rw[←z];simp[RV.bl]))).trans US.bk.m;have RZ:aW 1 (.ptr X.length 6) s' (fun z=>W7[z]?)=some (aB,.set X.length (.b (V.row.set 6 s'))):=(aM mB).trans (bV q5 (by show 6+1≤7;omega));refine Rs (A5 t2 t3 t4 @RZ q5) ?_;obtain⟨W8,hW8⟩:∃Z,Z=W7.set X.length (.b (V.row.set 6 s')):=⟨_,rfl⟩;rw[←hW8]at s5 ⊢;obtain⟨lr,_,sb,gm⟩:=cE.fa s5;refine Rs (A7 t2 t3 t4 @lr @aF @sb @gm) ?_
 rw[RF];exact cE.fin s5 (fun _=>by rw[hy];rfl)
theorem D3(w:fo V.ar)(ox:bo B x)(we:kC x.ev .fail)(nk:rO V.ar x.ev .fail)(s:cE B X x V W V)(hlen:ts.length=223)(t2:slot ts 2= .ptr X.length 0)(t3:slot ts 3= .ptr (X.length+1) 0)(t4:slot ts 4= .ptr (X.length+2) 0):
  WC P bR (zx 1) [] ts W (FQ [(4,some (some 7)),(5,none)] (ry B X V (bB V.ar x.ev .fail) (dq V.ar x.ev .fail))):=by
 have ow:=ox.ext s.ex;have oV:=s.bk.o.ok;have Qu:x.ev.kind=bz .fail:=cw we.kd;obtain⟨lr,le,sb,gm⟩:=cE.fa s;obtain⟨i0,d0⟩:=bM ow we 0 0 rfl De;obtain⟨j1,f1,q1⟩:=cT ow we 1 1 rfl De;unfold zx fn227;simp only[aj.j,aj.s,aj.r,aj.dr,aj.tl];have k0:aN x.ev 0∈iA V.ar:=nk.kn 0 4 rfl;obtain⟨p,J,jx⟩:=NL k0;have ix:aZ 3 V.s4 (.i (p:Int))=some (cV V.s4 3 p,.az):=oV.i4.dG jx.lt;refine oE (Cu t2 t3 t4 @le @lr @bA @aO @aY @aF @Qu @gG @XX @XS @i0 @d0) ?_;refine WF.ce T.c56 (r56 T (oV.ext Xx) w.len _) fun g1=>?_
 rw[jx.i];obtain⟨W2,Q0⟩:∃Z,Z=W++g1:=⟨_,rfl⟩;rw[←Q0];have QK:cE B X x V W2 V:=by rw[Q0];exact eG.grow s ⟨g1,rfl⟩
 have ow:=ox.ext QK.ex;have oV:=QK.bk.o.ok;obtain⟨lr,le,sb,gm⟩:=cE.fa QK;obtain⟨i0,d0⟩:=bM ow we 0 0 rfl De;obtain⟨j1,f1,q1⟩:=cT ow we 1 1 rfl De;refine Rs (mX t2 t3 t4 @le @lr @bA @aO @aY @aF @i0 @d0) ?_;refine WF.ce T.c265 (r265 T (oV.ext Xx) w.len _) fun g2=>?_
 obtain⟨W3,QI⟩:∃Z,Z=W2++g2:=⟨_,rfl⟩;rw[←QI];have QO:cE B X x V W3 V:=by rw[QI];exact eG.grow QK ⟨g2,rfl⟩
 have ow:=ox.ext QO.ex;have oV:=QO.bk.o.ok;obtain⟨lr,le,sb,gm⟩:=cE.fa QO;obtain⟨i0,d0⟩:=bM ow we 0 0 rfl De;obtain⟨j1,f1,q1⟩:=cT ow we 1 1 rfl De;have oJ:=oV.e4 J jx.m;have l2:∀{k:ah},Ext W3 k→ao none (lh V.s4 3 p 2) (fun b=>k[b]?)=some (J.2,.az):=fun {k} e=>oV.i4.pG jx.lt (by rw[jx.at];rfl) e
 cases h1:pP V.ar (aN x.ev 0)with
 | true=>
  refine Rs (A7 t2 t3 t4 @lr @aF @sb @gm) ?_;have hc:bB V.ar x.ev .fail=23:=by
   exact Jk
  rw[hc];exact z40
 | false=>
 by_cases h2: (J.1.bw.length:Int)≤bI x.ev 1
 case pos=>
  have e2:decide ((J.1.bw.length:Int)≤bI x.ev 1)=true:=Xz h2;refine Rs (F0 t2 t3 t4 @le @lr @bA @aO @aY @fS @aF @j1 @f1 ix @l2 oJ.aP e2 @sb @gm) ?_;have hc:bB V.ar x.ev .fail=3:=by
   exact z105
  rw[hc];exact z40
 have e2:decide ((J.1.bw.length:Int)≤bI x.ev 1)=false:=Xu h2;have hct:jE V.ar x.ev=0:=by rw[jE,XG (by rw[h1];decide),←jx.e,XG h2]
 have hsl: (bI x.ev 1).toNat < J.1.bw.length:=Om
 have Vr:bI x.ev 1= ((bI x.ev 1).toNat:Int):=Om
 have iy:aZ 1 J.2 (.i (bI x.ev 1))=some (cV J.2 1 (bI x.ev 1).toNat,.az):=by
  rw[Vr];exact oJ.dG hsl
 have hsu:fx V.ar x.ev=J.1.bw[(bI x.ev 1).toNat]:=by
  exact Jb
 have lv:∀{k:ah},Ext W3 k→ao none (cV J.2 1 (bI x.ev 1).toNat) (fun b=>k[b]?)=some (.i (fx V.ar x.ev),.az):=fun {k} e=>by rw[hsu];exact oJ.kO hsl rfl e
 have Un:cV J.2 1 (bI x.ev 1).toNat=lh J.2 1 (bI x.ev 1).toNat 0:=rfl;by_cases h3:fx V.ar x.ev < 0
 case pos=>
  have e3:decide (fx V.ar x.ev < 0)=true:=Xz h3;exact PE
 have e3:decide (fx V.ar x.ev < 0)=false:=Xu h3;have RF:bB V.ar x.ev .fail=0:=by rw[bB,XG (fun z=>z hct),XG h3]
 repeat (first| simp (config:={ maxSteps:=1000000 }) only[aV,bd,bD,bE,reduceAdd,reduceMul,reduceLeDiff,reduceEqDiff,bF,hlen,XO,XR,t2,t3,t4,le,lr,bA,aO,aY,aF,Qu,gG,reduceCtorEq,XX,XS,fS,j1,f1,ix,l2,oJ.aP,e2,iy,lv,e3]| simp (config:={ maxSteps:=1000000 }) (disch:=first| (simp only[Xs,Xy,XA]<;>omega)| rfl| omega| fail) only[fM,aV,bd,bD,bE,reduceAdd,reduceMul,reduceLeDiff,reduceEqDiff,bF,hlen,XO,XR,t2,t3,t4,le,lr,bA,aO,aY,aF,Qu,gG,reduceCtorEq,XX,XS,fS,j1,f1,ix,l2,oJ.aP,e2,iy,lv,e3])
 rw[Un];have hfJ:Fr B.length W3 J.2 1 (J.1.bw.map aL):=QO.bk.o.e4 J jx.m;refine WR.Bi (B:=B) (x':=(-1:Int)) (row:=aL) (L:=J.1.bw) hfJ QO.ex hsl De rfl rfl ?_;intro W5 x5 l5 hff hk5;have s5:cE B X x V W5 { V with aH:=V.aH.set p ({ J.1 with bw:=J.1.bw.set (bI x.ev 1).toNat (-1:Int) },J.2) }:=by
  have Xa: (V.aH[p]'jx.lt).2=J.2:=by rw[jx.at]
  have:=eG.qJ QO (W2:=W5) jx.lt (y:={ J.1 with bw:=J.1.bw.set (bI x.ev 1).toNat (-1:Int) }) (by rw[jx.at];exact⟨rfl,rfl⟩) (by rw[Xa];exact hff) (fun i _ hne=>hk5 i (by rw[←Xa];exact hne)) x5 Om;rw[Xa]at this;exact this
 obtain⟨lr,_,sb,gm⟩:=cE.fa s5;refine Rs (A7 t2 t3 t4 @lr @aF @sb @gm) ?_;rw[RF];refine cE.fin s5 (fun _=>?_);have e:mD V.ar x.ev (-1:Int)= (V.aH.set p ({ J.1 with bw:=J.1.bw.set (bI x.ev 1).toNat (-1:Int) },J.2)).map Prod.fst:=by
  rw[mD,←jx.ps,←jx.e,ZD];rfl
 rw[dq,e];rfl
theorem D1(w:fo V.ar)(ox:bo B x)(we:kC x.ev .fK)(nk:rO V.ar x.ev .fK)(s:cE B X x V W V)(hlen:ts.length=223)(t2:slot ts 2= .ptr X.length 0)(t3:slot ts 3= .ptr (X.length+1) 0)(t4:slot ts 4= .ptr (X.length+2) 0):
  WC P bR (zx 1) [] ts W (FQ [(4,some (some 7)),(5,none)] (ry B X V (bB V.ar x.ev .fK) (dq V.ar x.ev .fK))):=by
 have ow:=ox.ext s.ex;have oV:=s.bk.o.ok;have Qu:x.ev.kind=bz .fK:=cw we.kd;obtain⟨lr,le,sb,gm⟩:=cE.fa s;obtain⟨i0,d0⟩:=bM ow we 0 0 rfl De;obtain⟨j1,f1,q1⟩:=cT ow we 1 1 rfl De;obtain⟨j2,f2,q2⟩:=cT ow we 2 2 rfl De;unfold zx fn227;simp only[aj.j,aj.s,aj.r,aj.dr,aj.tl];have k0:aN x.ev 0∈iA V.ar:=nk.kn 0 4 rfl;obtain⟨p,J,jx⟩:=NL k0;have ix:aZ 3 V.s4 (.i (p:Int))=some (cV V.s4 3 p,.az):=oV.i4.dG jx.lt;refine oE (Cu t2 t3 t4 @le @lr @bA @aO @aY @aF @Qu @gG @XX @XS @i0 @d0) ?_;refine WF.ce T.c56 (r56 T (oV.ext Xx) w.len _) fun g1=>?_
 rw[jx.i];obtain⟨W2,Q0⟩:∃Z,Z=W++g1:=⟨_,rfl⟩;rw[←Q0];have QK:cE B X x V W2 V:=by rw[Q0];exact eG.grow s ⟨g1,rfl⟩
 have ow:=ox.ext QK.ex;have oV:=QK.bk.o.ok;obtain⟨lr,le,sb,gm⟩:=cE.fa QK;obtain⟨i0,d0⟩:=bM ow we 0 0 rfl De;obtain⟨j1,f1,q1⟩:=cT ow we 1 1 rfl De;obtain⟨j2,f2,q2⟩:=cT ow we 2 2 rfl De;refine Rs (mX t2 t3 t4 @le @lr @bA @aO @aY @aF @i0 @d0) ?_;refine WF.ce T.c265 (r265 T (oV.ext Xx) w.len _) fun g2=>?_
 obtain⟨W3,QI⟩:∃Z,Z=W2++g2:=⟨_,rfl⟩;rw[←QI];have QO:cE B X x V W3 V:=by rw[QI];exact eG.grow QK ⟨g2,rfl⟩
 have ow:=ox.ext QO.ex;have oV:=QO.bk.o.ok;obtain⟨lr,le,sb,gm⟩:=cE.fa QO;obtain⟨i0,d0⟩:=bM ow we 0 0 rfl De;obtain⟨j1,f1,q1⟩:=cT ow we 1 1 rfl De;obtain⟨j2,f2,q2⟩:=cT ow we 2 2 rfl De;have oJ:=oV.e4 J jx.m;have l2:∀{k:ah},Ext W3 k→ao none (lh V.s4 3 p 2) (fun b=>k[b]?)=some (J.2,.az):=fun {k} e=>oV.i4.pG jx.lt (by rw[jx.at];rfl) e
 cases h1:pP V.ar (aN x.ev 0)with
 | true=>
  refine Rs (A7 t2 t3 t4 @lr @aF @sb @gm) ?_;have hc:bB V.ar x.ev .fK=23:=by
   exact Jk
  rw[hc];exact z40
 | false=>
 by_cases h2: (J.1.bw.length:Int)≤bI x.ev 1
 case pos=>
  have e2:decide ((J.1.bw.length:Int)≤bI x.ev 1)=true:=Xz h2;refine Rs (F0 t2 t3 t4 @le @lr @bA @aO @aY @fS @aF @j1 @f1 ix @l2 oJ.aP e2 @sb @gm) ?_;have hc:bB V.ar x.ev .fK=3:=by
   exact z105
  rw[hc];exact z40
 have e2:decide ((J.1.bw.length:Int)≤bI x.ev 1)=false:=Xu h2;have hct:jE V.ar x.ev=0:=by rw[jE,XG (by rw[h1];decide),←jx.e,XG h2]
 have hsl: (bI x.ev 1).toNat < J.1.bw.length:=Om
 have Vr:bI x.ev 1= ((bI x.ev 1).toNat:Int):=Om
 have iy:aZ 1 J.2 (.i (bI x.ev 1))=some (cV J.2 1 (bI x.ev 1).toNat,.az):=by
  rw[Vr];exact oJ.dG hsl
 have hsu:fx V.ar x.ev=J.1.bw[(bI x.ev 1).toNat]:=by
  exact Jb
 have lv:∀{k:ah},Ext W3 k→ao none (cV J.2 1 (bI x.ev 1).toNat) (fun b=>k[b]?)=some (.i (fx V.ar x.ev),.az):=fun {k} e=>by rw[hsu];exact oJ.kO hsl rfl e
 have Un:cV J.2 1 (bI x.ev 1).toNat=lh J.2 1 (bI x.ev 1).toNat 0:=rfl;by_cases h3:0≤fx V.ar x.ev
 case pos=>
  have e3:decide (0≤fx V.ar x.ev)=true:=Xz h3;exact PE
 have e3:decide (0≤fx V.ar x.ev)=false:=Xu h3;have RF:bB V.ar x.ev .fK=0:=by rw[bB,XG (fun z=>z hct),XG h3]
 repeat (first| simp (config:={ maxSteps:=1000000 }) only[aV,bd,bD,bE,reduceAdd,reduceMul,reduceLeDiff,reduceEqDiff,bF,hlen,XO,XR,t2,t3,t4,le,lr,bA,aO,aY,aF,Qu,gG,reduceCtorEq,XX,XS,fS,j1,f1,j2,f2,ix,l2,oJ.aP,e2,iy,lv,e3]| simp (config:={ maxSteps:=1000000 }) (disch:=first| (simp only[Xs,Xy,XA]<;>omega)| rfl| omega| fail) only[fM,aV,bd,bD,bE,reduceAdd,reduceMul,reduceLeDiff,reduceEqDiff,bF,hlen,XO,XR,t2,t3,t4,le,lr,bA,aO,aY,aF,Qu,gG,reduceCtorEq,XX,XS,fS,j1,f1,j2,f2,ix,l2,oJ.aP,e2,iy,lv,e3])
 rw[Un];have hfJ:Fr B.length W3 J.2 1 (J.1.bw.map aL):=QO.bk.o.e4 J jx.m;refine WR.Bi (B:=B) (x':=(bI x.ev 2)) (row:=aL) (L:=J.1.bw) hfJ QO.ex hsl De rfl rfl ?_;intro W5 x5 l5 hff hk5;have s5:cE B X x V W5 { V with aH:=V.aH.set p ({ J.1 with bw:=J.1.bw.set (bI x.ev 1).toNat (bI x.ev 2) },J.2) }:=by
  have Xa: (V.aH[p]'jx.lt).2=J.2:=by rw[jx.at]
  have:=eG.qJ QO (W2:=W5) jx.lt (y:={ J.1 with bw:=J.1.bw.set (bI x.ev 1).toNat (bI x.ev 2) }) (by rw[jx.at];exact⟨rfl,rfl⟩) (by rw[Xa];exact hff) (fun i _ hne=>hk5 i (by rw[←Xa];exact hne)) x5 Om;rw[Xa]at this;exact this
 obtain⟨lr,_,sb,gm⟩:=cE.fa s5;refine Rs (A7 t2 t3 t4 @lr @aF @sb @gm) ?_;rw[RF];refine cE.fin s5 (fun _=>?_);have e:mD V.ar x.ev (bI x.ev 2)= (V.aH.set p ({ J.1 with bw:=J.1.bw.set (bI x.ev 1).toNat (bI x.ev 2) },J.2)).map Prod.fst:=by
  rw[mD,←jx.ps,←jx.e,ZD];rfl
 rw[dq,e];rfl
end
structure Qj(W Y:ah)(jb:Nat)(c:List AV)(t:AV)(k:Nat):Prop where
 l:W.length≤jb
 x:Ext W Y
 m:Y[jb]? =some (.b (c++ [t]))
 f:Fr W.length Y t 1 ((List.replicate k (-1:Int)).map aL)
 n:sB t≠some jb
section
variable {P:Program} (T:fA P) {B X W:ah} {ts:TS} {V:RV} {x:EV}
include T
theorem HF(w:fo V.ar)(ox:bo B x)(we:kC x.ev .run)(nk:rO V.ar x.ev .run)(s:cE B X x V W V)(hlen:ts.length=223)(t2:slot ts 2= .ptr X.length 0)(t3:slot ts 3= .ptr (X.length+1) 0)(t4:slot ts 4= .ptr (X.length+2) 0):
  WC P bR (zx 1) [] ts W (FQ [(4,some (some 7)),(5,none)] (ry B X V (bB V.ar x.ev .run) (dq V.ar x.ev .run))):=by
 have ow:=ox.ext s.ex;have oV:=s.bk.o.ok;have Qu:x.ev.kind=bz .run:=cw we.kd;obtain⟨lr,le,sb,gm⟩:=cE.fa s;obtain⟨i0,d0⟩:=bM ow we 0 0 rfl De;obtain⟨i1,d1⟩:=bM ow we 1 1 rfl De;obtain⟨j1,f1,q1⟩:=cT ow we 1 1 rfl De;unfold zx fn227;simp only[aj.j,aj.s,aj.r,aj.dr,aj.tl];have k1:aN x.ev 1∈gM V.ar:=nk.kn 1 3 rfl;refine oE (Cu t2 t3 t4 @le @lr @bA @aO @aY @aF @Qu @gG @XX @XS @i1 @d1) ?_;refine WF.res T.c59 (r59 T (oV.ext Xx) w _) ?_;rintro ns g1 hns;obtain⟨W2,Q0⟩:∃Z,Z=W++g1:=⟨_,rfl⟩;rw[←Q0];have QK:cE B X x V W2 V:=by rw[Q0];exact eG.grow s ⟨g1,rfl⟩
 have ow:=ox.ext QK.ex;have oV:=QK.bk.o.ok;obtain⟨lr,le,sb,gm⟩:=cE.fa QK;rw[←Q0]at hns;obtain⟨S,hS⟩:∃S,S=iG V.ar (aN x.ev 1):=⟨_,rfl⟩;rw[←hS]at hns;have hSm:∀y∈S,y∈V.ar.lines:=fun y hy=>by rw[hS,iG]at hy;exact(YI.1 hy).1
 have hSl:S.length≤16:=by
  have h1:S.length≤V.ar.lines.length:=by rw[hS,iG];exact Ya _ _
  have:=w.l0;omega
 rw[Za]at hns;refine Rs (A3 t2 t3 t4) ?_;refine WL.inv T.mix (fun m ts h'=>∃ (k:Nat) (g:ah),k≤S.length∧m=S.length - k∧h' =W2++g∧(∀y∈S.take k,y.acc=true)∧ts.length=223∧slot ts 2= .ptr X.length 0∧slot ts 3= .ptr (X.length+1) 0∧slot ts 4= .ptr (X.length+2) 0∧slot ts 6=ns∧slot ts 7= .i k) S.length
  ⟨0,[],Om,rfl,by rw[XU],(fun y hy=>by cases hy),Sn,(Sq t2),(Sq t3),(Sq t4),Sw,iF⟩ ?_
 clear t2 t3 t4 hlen;rintro _ ts _ ⟨k,g,hk,rfl,rfl,hsf,hlen,t2,t3,t4,t6,t7⟩;obtain⟨W3,QI⟩:∃Z,Z=W2++g:=⟨_,rfl⟩;rw[←QI];have QO:cE B X x V W3 V:=by rw[QI];exact eG.grow QK ⟨g,rfl⟩
 have ow:=ox.ext QO.ex;have oV:=QO.bk.o.ok;obtain⟨lr,le,sb,gm⟩:=cE.fa QO;have e23:Ext W2 W3:=⟨g,QI⟩;have hns:=hns.ext e23;by_cases Rn:k < S.length
 ·have e3:decide ((k:Int)< S.length)=true:=Xz Om;have e5:IntKind.i64.wrap ((k:Int)+1)= ((k+1:Nat):Int):=wrapN Om;have iy:=hns.dG (kk:=.i64) Rn;obtain⟨y,hy⟩:∃y,y=S[k]:=⟨_,rfl⟩;have R1:y∈V.ar.lines:=hSm y (by rw[hy];exact XJ _);have lf:∀{kk:ah},Ext W3 kk→ao none (cV ns 1 k) (fun b=>kk[b]?)=some (.str y.name,.az):=fun {kk} e=>hns.kO Rn (by rw[←hy];rfl) e
  have SU:y.name∈gB V.ar:=XZ R1;have hps:=cP SU;have RO:bj (gB V.ar) y.name < V.lines.length:=by simpa [gB,RV.ar]using hps
  have iz:aZ 3 V.s0 (.i ((bj (gB V.ar) y.name:Nat):Int))=some (cV V.s0 3 (bj (gB V.ar) y.name),.az):=oV.i0.dG RO;have huy:V.lines[bj (gB V.ar) y.name]=y:=by
   have a1:dF V.ar y.name=y:=tG w.n0.nd R1;rw[dF,c9 (f:=gQ.name) (l:=V.ar.lines) (d:=Bq) SU]at a1;exact a1
  have ly:∀{kk:ah},Ext W3 kk→ao none (lh V.s0 3 (bj (gB V.ar) y.name) 2) (fun b=>kk[b]?)=some (.bool y.acc,.az):=fun {kk} e=>oV.i0.pG RO (by rw[huy];rfl) e
  refine Rs (pU t2 t3 t4 t6 t7 hns.aP e3 @lr @fT @aF @iy @lf) ?_;refine WF.ce T.c28 (r28 T (oV.ext Xx) w.len _) fun g3=>?_
  have ej:cS (fun y':gQ=>decide (y'.name=y.name)) V.lines= (bj (gB V.ar) y.name:Int):=eD (f:=gQ.name) SU;rw[ej];cases h4:y.acc with
  | false=>
   rw[h4]at ly;refine Rs (pU t2 t3 t4 t6 t7 @iz @ly @XY @lr @aF @sb @gm) ?_;rw[bB,XI (by rw[←hS];exact Y9.2 ⟨y,by rw[hy];exact XJ _,by rw[h4];rfl⟩)];exact cE.fin (eG.grow QO ⟨g3,rfl⟩) (fun z=>absurd z De)
  | true=>
   rw[h4]at ly;refine Rs (A9 t2 t3 t4 t6 t7 @iz @ly @XW e5) ?_;refine⟨_,Om,k+1,g++g3,Om,rfl,by rw[QI];simp only[Xt],?_,rfl⟩;intro y' hy';exact Pm
 have e3:decide ((k:Int)< S.length)=false:=Xu Om;have e4:k=S.length:=Om
 rw[e4,X8]at hsf;have hne:¬ (iG V.ar (aN x.ev 1)).any (fun x=>!x.acc)=true:=by
  exact z143
 obtain⟨i0,d0⟩:=bM ow we 0 0 rfl De;obtain⟨i1,d1⟩:=bM ow we 1 1 rfl De;obtain⟨j1,f1,q1⟩:=cT ow we 1 1 rfl De;refine Rs (zU t2 t3 t4 @le @lr @bA @aO @aY t6 t7 hns.aP e3 @j1 @f1) ?_;refine WF.ce T.c20 (r20 T _ _ _) fun g4=>?_
 obtain⟨W4,Rc⟩:∃Z,Z=W3++g4:=⟨_,rfl⟩;rw[←Rc];have R0:cE B X x V W4 V:=by rw[Rc];exact eG.grow QO ⟨g4,rfl⟩
 have ow:=ox.ext R0.ex;have oV:=R0.bk.o.ok;obtain⟨lr,le,sb,gm⟩:=cE.fa R0;obtain⟨i0,d0⟩:=bM ow we 0 0 rfl De;obtain⟨i1,d1⟩:=bM ow we 1 1 rfl De;obtain⟨j1,f1,q1⟩:=cT ow we 1 1 rfl De;by_cases h1:bh (bI x.ev 1) 1 32=0
 case neg=>
  have e1:decide (bh (bI x.ev 1) 1 32≠0)=true:=Xz h1;refine Rs (A8 t2 t3 t4 e1 @lr @aF @sb @gm) ?_;rw[bB,XG hne,XI h1];exact z141
 have e1:decide (bh (bI x.ev 1) 1 32≠0)=false:=Xu (fun z=>z h1);have SC:V.ar.aH.length=V.aH.length:=by simp[RV.ar]
 by_cases h2:16≤V.aH.length
 case pos=>
  have e2:decide ((16:Int)≤(V.aH.length:Int))=true:=Xz Om;refine Rs (mX t2 t3 t4 e1 @lr @fS oV.i4.aP e2 @aF @sb @gm) ?_;rw[bB,XG hne,XG (fun z=>z h1),XI (by rw[SC];exact h2)];exact z141
 have e2:decide ((16:Int)≤(V.aH.length:Int))=false:=Xu Om;have RF:bB V.ar x.ev .run=0:=by rw[bB,XG hne,XG (fun z=>z h1),XG (by rw[SC];exact h2)]
 have hr:=gS (fun z=>z h1);obtain⟨n,hn⟩:∃n:Nat,n= (bI x.ev 1).toNat:=⟨_,rfl⟩;have hnv:bI x.ev 1= (n:Int):=Om
 have hn32:n≤32:=Om
 obtain⟨jb,hjb⟩:∃n,n=W4.length:=⟨_,rfl⟩;refine Rs (F1 t2 t3 t4 @le @lr @bA @aO @aY e1 @fS oV.i4.aP e2 @i0 @d0 @i1 @d1) ?_;rw[←hjb];refine WL.inv T.mix (fun m ts Y=>∃ (k:Nat) (t:AV),k≤n∧m=n - k∧Qj W4 Y jb [AV.str (aN x.ev 0),.str (aN x.ev 1)] t k∧ts.length=223∧slot ts 2= .ptr X.length 0∧slot ts 3= .ptr (X.length+1) 0∧slot ts 4= .ptr (X.length+2) 0∧slot ts 8= .ptr jb 0∧slot ts 9= .i k) n
  ⟨0,.af,Om,rfl,⟨Om,⟨_,rfl⟩,by rw[hjb];exact bf,.nil,by simp[sB]⟩,Sn,(Sq t2),(Sq t3),(Sq t4),Sw,iF⟩ ?_
 clear t2 t3 t4 t6 t7 hlen;rintro _ ts Y ⟨k',t,hk',rfl,hb,hlen,t2,t3,t4,t8,t9⟩;have sY:cE B X x V Y V:=eG.grow R0 hb.x;have ow:=ox.ext sY.ex;have oV:=sY.bk.o.ok;obtain⟨lr,le,sb,gm⟩:=cE.fa sY;obtain⟨j1,f1,q1⟩:=cT ow we 1 1 rfl De;have lj:∀{k n a},Ext Y k→ao n (.ptr jb a) (fun z=>k[z]?)=cp n a (.b [AV.str (aN x.ev 0),.str (aN x.ev 1),t]):=fun {_ _ _} e=>an (e.some hb.m)
 have ot:=hb.f.a8.one;have W9:=(Xr.1 hb.m).1;by_cases hlt3:k' < n
 ·have e6:decide ((k':Int)< bI x.ev 1)=true:=Xz Om;have e7:IntKind.i64.wrap ((k':Int)+1)= ((k'+1:Nat):Int):=wrapN Om;refine Rs (zU t2 t3 t4 @le @lr @bA @aO @aY t8 t9 @j1 @f1 e6 @lj) ?_;refine WR.pY (B:=W4) (cs:=(List.replicate k' (-1:Int)).map aL) hb.f rfl hb.x De (by simp only[XB,YB];omega) ?_;intro W5 s' x5 hff hn5 q5 l5 hk5;have hrow: (List.replicate k' (-1:Int)).map aL++ [[AV.i (-1)]]= (List.replicate (k'+1) (-1:Int)).map aL:=by rw[List.replicate_succ',XD];rfl
  rw[hrow]at hff;have m5:W5[jb]? =some (.b [AV.str (aN x.ev 0),.str (aN x.ev 1),t]):=(hk5 jb W9 hb.n).trans hb.m;have RZ:aW 1 (.ptr jb 2) s' (fun z=>W5[z]?)=some (aB,.set jb (.b [AV.str (aN x.ev 0),.str (aN x.ev 1),s'])):=(aM m5).trans (bV q5 (by show 2+1≤3;omega));have hs'j:∀i,sB s' =some i→i≠jb:=fun i hi=>by have:=hn5 i hi;omega
  refine Rs (A8 t2 t3 t4 t8 t9 @RZ q5 e7) ?_;refine⟨_,Om,k'+1,s',Om,rfl,⟨hb.l,x5.iH hb.l,XL Om,hff.aC fun i hi=>XK (YP (hs'j i hi)),fun e=>hs'j _ e rfl⟩,rfl⟩
 ·have e6:decide ((k':Int)< bI x.ev 1)=false:=Xu Om;have ekn:k' =n:=Om
  obtain⟨y,hy⟩:∃y:kK,y= ⟨aN x.ev 0,aN x.ev 1,List.replicate n (-1)⟩:=⟨_,rfl⟩;obtain⟨z,hz⟩:∃z:List AV,z=bO (y,t):=⟨_,rfl⟩;have Sc: [AV.str (aN x.ev 0),.str (aN x.ev 1),t]=z:=by rw[hz,hy];rfl
  have hbf:=hb.f;rw[ekn]at hbf;refine Rs (F1 t2 t3 t4 @le @lr @bA @aO @aY t8 t9 @j1 @f1 e6 @fS @lj @ot) ?_;rw[Sc];refine WR.pY (B:=B) (cs:=V.aH.map bO) (sY.bk.o.i4) (by rw[hz];rfl) sY.ex De (by rw[XB];omega) ?_;intro W5 s' x5 hff hn5 q5 l5 hk5;have hrow:V.aH.map bO++ [z]= (V.aH++ [(y,t)]).map bO:=by rw[XD,hz];rfl
  rw[hrow]at hff;have hlW:W4.length≤Y.length:=hb.x.len;have bS:∀i,sB t=some i→sB V.s4≠some i:=fun i hi e=>by
   have h1:=(hbf.bN hi).1;have h2:=(R0.bk.o.dN (b:=i) (by rw[←e];simp[RV.bl])).2;omega
  have f5:Fr B.length W5 t 1 (y.bw.map aL):=by
   rw[hy];exact(hbf.aC fun i hi=>hk5 i (hbf.bN hi).2 (bS i hi)).low R0.ex.len
  have s5:cE B X x V (W5.set X.length (.b (V.row.set 5 s'))) { V with aH:=V.aH++ [(y,t)],s4:=s' }:=eG.p4 R0 hff f5 (fun i hi=>.inr (by have:=hn5 i hi;omega)) (fun i hi=>⟨(hbf.bN hi).1,fun e=>by have:=hn5 i e;have:=(hbf.bN hi).2;omega⟩) (fun i hi hne=>(hk5 i Om hne).trans (hb.x.get hi)) x5 Om;have mB:W5[X.length]? =some (.b V.row):=(hk5 _ sY.bk.lt (fun z=>sY.bk.ne (by rw[←z];simp[RV.bl]))).trans sY.bk.m;have RZ:aW 1 (.ptr X.length 5) s' (fun z=>W5[z]?)=some (aB,.set X.length (.b (V.row.set 5 s'))):=(aM mB).trans (bV q5 (by show 5+1≤7;omega));refine Rs (A7 t2 t3 t4 t8 t9 @RZ q5) ?_
  obtain⟨W6,R7⟩:∃Z,Z=W5.set X.length (.b (V.row.set 5 s')):=⟨_,rfl⟩;rw[←R7]at s5 ⊢;obtain⟨lr,_,sb,gm⟩:=cE.fa s5;refine Rs (A9 t2 t3 t4 t8 t9 @lr @aF @sb @gm) ?_;rw[RF];exact cE.fin s5 (fun _=>by simp only[RV.ar,XD,Yr,Zf,dq,hy,hn])
theorem BI{d}(hd:d= .run∨d= .fK∨d= .fail∨d= .fZ∨d= .rel)(o:cG B.length X V)(w:fo V.ar)(hx:Ext B X)(ox:bo B x)(we:kC x.ev d)(nk:rO V.ar x.ev d):
  db P 227 [.agg V.row,.agg x.row] X (ry B X V (bB V.ar x.ev d) (dq V.ar x.ev d)):=by
 refine .of T.mix (Z6 T.c227 (X6 some Oz)) ?_;obtain⟨ts,Qn⟩:∃ts,ts=aT 223 [.agg V.row,.agg x.row]:=⟨_,rfl⟩;have hlen:ts.length=223:=by rw[Qn];rfl
 have t0:slot ts 0= .agg V.row:=by rw[Qn];rfl
 have t1:slot ts 1= .agg x.row:=by rw[Qn];rfl
 show WC P bR (.seq (OA 0) (zx 1)) [] (aT 223 [.agg V.row,.agg x.row]) X (FQ [(4,some (some 7)),(5,none)] (ry B X V (bB V.ar x.ev d) (dq V.ar x.ev d)));rw[←Qn];clear Qn;have Qm:=@aD.box _ _ o.ok;have hex:=@bo.box _ _ (ox.ext hx);have s:cE B X x V (X++ [.b V.row]++ [.b x.row]++ [.b km]) V:=Fp o hx;unfold km at s;generalize hR:zx 1=R;unfold OA fn227;simp only[aj.dr,aj.hd];refine Rs (A4 t0 t1 @Qm @hex) ?_;rw[←hR];rcases hd with rfl| rfl| rfl| rfl| rfl
 ·exact HF T w ox we nk s Sn Sw (by simp only[aV,bd,bD,bE,reduceAdd,reduceMul,reduceLeDiff,reduceEqDiff,bF,hlen,XO,XR];simp) (by simp only[aV,bd,bD,bE,reduceAdd,reduceMul,reduceLeDiff,reduceEqDiff,bF,hlen,XO,XR];simp)
 ·exact D1 T w ox we nk s Sn Sw (by simp only[aV,bd,bD,bE,reduceAdd,reduceMul,reduceLeDiff,reduceEqDiff,bF,hlen,XO,XR];simp) (by simp only[aV,bd,bD,bE,reduceAdd,reduceMul,reduceLeDiff,reduceEqDiff,bF,hlen,XO,XR];simp)
 ·exact D3 T w ox we nk s Sn Sw (by simp only[aV,bd,bD,bE,reduceAdd,reduceMul,reduceLeDiff,reduceEqDiff,bF,hlen,XO,XR];simp) (by simp only[aV,bd,bD,bE,reduceAdd,reduceMul,reduceLeDiff,reduceEqDiff,bF,hlen,XO,XR];simp)
 ·exact D2 T w ox we nk s Sn Sw (by simp only[aV,bd,bD,bE,reduceAdd,reduceMul,reduceLeDiff,reduceEqDiff,bF,hlen,XO,XR];simp) (by simp only[aV,bd,bD,bE,reduceAdd,reduceMul,reduceLeDiff,reduceEqDiff,bF,hlen,XO,XR];simp)
 ·exact HG T w ox we nk s Sn Sw (by simp only[aV,bd,bD,bE,reduceAdd,reduceMul,reduceLeDiff,reduceEqDiff,bF,hlen,XO,XR];simp) (by simp only[aV,bd,bD,bE,reduceAdd,reduceMul,reduceLeDiff,reduceEqDiff,bF,hlen,XO,XR];simp)
end
def tQ(k:Nat):aj:=(fn129).body.dr k
def Ch(k:Nat):aj:=((fn129).body.dr k).hd
def OS:fn129= ⟨63,2,[(4,some (some 7)),(5,none)],.seq (Ch 0) (tQ 1)⟩:=rfl
def Lu:tQ 1= .seq (Ch 1) (tQ 2):=rfl
def OR:tQ 2= .seq (Ch 2) (tQ 3):=rfl
def OQ:tQ 3= .seq (Ch 3) (tQ 4):=rfl
def OP:tQ 4= .seq (Ch 4) (tQ 5):=rfl
def IA(h:ah)(c:Int)(R':gJ):AV→ah→Prop:=fun v k=>Ext h k∧∃V':RV,v= .dJ [.agg V'.row,.i c]∧aD k V'∧(c=0→V'.ar=R'∧∀i,some i∈V'.bl→h.length≤i)
def aD.Ir{h:ah}{V:RV}(o:aD h V){W:ah}{b:Nat}(hz:W[b]? =some (.b km)):aW 7 (.ptr b 0) (.agg V.row) (fun z=>W[z]?)=some (aB,.set b (.b V.row)):=by
 have h1:=@aM 7 b 0 (.agg V.row) (fun z=>W[z]?) _ hz;have st:=@aD.st _ _ o;unfold km at h1;rw[st]at h1;exact h1
def aD.PZ{h:ah}{V U:RV}(o:aD h V){W:ah}{b:Nat}(hz:W[b]? =some (.b U.row)):aW 7 (.ptr b 0) (.agg V.row) (fun z=>W[z]?)=some (aB,.set b (.b V.row)):=by
 have h1:=@aM 7 b 0 (.agg V.row) (fun z=>W[z]?) _ hz;rw[h1];exact o.st
def nP{W:ah}{b:Nat}{V:RV}(hb:b < W.length):ao (some 7) (.ptr b 0) (fun z=>(W.set b (.b V.row))[z]?)=some (.agg V.row,.az):=by
 rw[an (XL hb)];rfl
section
variable {P:Program} (T:fA P) {h K:ah} {ts:TS} {V U:RV} {x:EV}
include T
theorem HX{d:Kd}{ob:Nat}{c:Int}{R':gJ}(we:kC x.ev d)(hd:d≠.e8)(ox:bo h x)(hx:Ext h K)(hob:h.length+2 < ob)(mo:K[ob]? =some (.b U.row))(me:K[h.length+1]? =some (.b x.row))(mr:K[h.length+2]? =some (.b km))
  (oU:aD K U) (hU:∀i,some i∈U.bl→h.length+2 < i∧i≠ob) (hc:c=0→{ U.ar with tick:=bI x.ev 0 } =R') (hlen:ts.length=63) (t3:slot ts 3= .ptr (h.length+1) 0) (t4:slot ts 4= .ptr (h.length+2) 0) (t7:slot ts 7= .ptr ob 0) (t8:slot ts 8= .i c):
  WC P bR (tQ 5) [] ts K (FQ [(4,some (some 7)),(5,none)] (IA h c R')):=by
 have:=T.mix;have hv0:0 < cB d:=by cases d<;>first| exact absurd rfl hd| decide
 have ow:=ox.ext hx;obtain⟨j0,f0,_⟩:=cT ow we 0 0 rfl hv0;have le:∀{k n a},Ext K k→ao n (.ptr (h.length+1) a) (fun z=>k[z]?)=cp n a (.b x.row):=fun {_ _ _} e=>an (e.some me)
 obtain⟨V2,hV2⟩:∃V2:RV,V2={ U with tick:=bI x.ev 0 }:=⟨_,rfl⟩;have hrow:U.row.set 0 (.i (bI x.ev 0))=V2.row:=by rw[hV2];rfl
 have sbo:aW 1 (.ptr ob 0) (.i (bI x.ev 0)) (fun z=>K[z]?)=some (aB,.set ob (.b V2.row)):=by
  rw[←hrow];exact(aM mo).trans (bV rfl (by show 0+1≤7;omega))
 unfold tQ fn129;simp only[aj.j,aj.s,aj.r,aj.dr,aj.tl];refine Rs (A9 t3 t4 t7 t8 @le @aY @j0 @f0 @sbo) ?_;have hbo:=(Xr.1 mo).1;have hbr:=(Xr.1 mr).1;obtain⟨K1,TO⟩:∃Z,Z=K.set ob (.b V2.row):=⟨_,rfl⟩;rw[←TO];have mo1:K1[ob]? =some (.b V2.row):=by rw[TO];exact XL hbo
 have mr1:K1[h.length+2]? =some (.b km):=by rw[TO,XK Om];exact mr
 have l1:K1.length=K.length:=by rw[TO,Yd]
 have lo:∀{k n a},Ext K1 k→ao n (.ptr ob a) (fun z=>k[z]?)=cp n a (.b V2.row):=fun {_ _ _} e=>an (e.some mo1)
 have oV:aD K V2:=by rw[hV2];exact⟨oU.i0,oU.i1,oU.i2,oU.i3,oU.i4,oU.i5,oU.e2,oU.e3,oU.e4⟩
 have sb:=oV.Ir mr1;have gm:=nP (W:=K1) (b:=h.length+2) (V:=V2) Om;refine Rs (A8 t3 t4 t7 t8 @lo @aF @sb @gm) ?_;refine⟨?_,V2,rfl,oV.az fun i hi=>?_,fun z=>⟨by rw[←hc z,hV2];rfl,fun i hi=>?_⟩⟩
 ·rw[TO];exact(hx.iH Om).iH Om
 ·have:some i∈U.bl:=by rw[hV2]at hi;exact hi
  have:=hU i this;rw[XK Om,TO,XK Om]
 ·have:some i∈U.bl:=by rw[hV2]at hi;exact hi
  have:=hU i this;omega
theorem Lt{d:Kd}{B X:ah}{ob:Nat}(we:kC x.ev d)(hd:d≠.e8)(nk:rO U.ar x.ev d)(w:fo U.ar)(ox:bo h x)(hB:Ext h B)(hx:Ext B X)(hob:ob < X.length)(hbo:B.length≤ob)(hBl:h.length+3≤B.length)(mo:X[ob]? =some (.b U.row))(me:B[h.length+1]? =some (.b x.row))(mr:B[h.length+2]? =some (.b km))
  (o:cG B.length X U) (hU:some ob∉U.bl) (hlen:ts.length=63) (t3:slot ts 3= .ptr (h.length+1) 0) (t4:slot ts 4= .ptr (h.length+2) 0) (t7:slot ts 7= .ptr ob 0):
  WC P bR (tQ 4) [] ts X (FQ [(4,some (some 7)),(5,none)] (IA h (bB U.ar x.ev d) (rG U.ar x.ev d))):=by
 have Qu:x.ev.kind=bz d:=cw we.kd;have le:∀{k n a},Ext X k→ao n (.ptr (h.length+1) a) (fun z=>k[z]?)=cp n a (.b x.row):=fun {_ _ _} e=>an ((hx.trans e).some me)
 have lo:∀{k n a},Ext X k→ao n (.ptr ob a) (fun z=>k[z]?)=cp n a (.b U.row):=fun {_ _ _} e=>an (e.some mo)
 have oB:=ox.ext hB;rw[OP];generalize hR:tQ 5=R;unfold Ch fn129;simp only[aj.j,aj.s,aj.r,aj.dr,aj.tl,aj.hd];have fin:∀{v:AV} {k:ah},ry B X U (bB U.ar x.ev d) (dq U.ar x.ev d) v k→∃V2:RV,v= .dJ [.agg V2.row,.i (bB U.ar x.ev d)]∧aW 7 (.ptr ob 0) (.agg V2.row) (fun z=>k[z]?)=some (aB,.set ob (.b V2.row))∧
   (∀ts':TS,ts'.length=63→slot ts' 3= .ptr (h.length+1) 0→slot ts' 4= .ptr (h.length+2) 0→slot ts' 7= .ptr ob 0→slot ts' 8= .i (bB U.ar x.ev d)→WC P bR R [] ts' (k.set ob (.b V2.row)) (FQ [(4,some (some 7)),(5,none)] (IA h (bB U.ar x.ev d) (rG U.ar x.ev d)))):=by
  rintro v k ⟨x1,hl,hfr,V2,rfl,o2,hc,hlo⟩;have mo2:k[ob]? =some (.b U.row):=(hfr ob hob hU).trans mo;have hV2:∀i,some i∈V2.bl→B.length≤i∧i≠ob:=fun i hi=>⟨(o2.dN hi).1,fun e=>by
   subst e;rcases hlo _ hi with z| z
   ·exact hU z
   ·omega⟩
  refine⟨V2,rfl,o2.ok.PZ mo2,fun ts' Qz u3 u4 u7 u8=>?_⟩;rw[←hR];refine HX T we hd ox ((hB.trans x1).iH Om) Om (XL (Xr.1 mo2).1) ?_ ?_ (o2.ok.az fun i hi=>?_) (fun i hi=>?_) (fun z=>?_) Qz u3 u4 u7 u8
  ·rw[XK Om];exact x1.some me
  ·rw[XK Om];exact x1.some mr
  ·rw[XK (YP (hV2 i hi).2)]
  ·have:=hV2 i hi;exact⟨Om,this.2⟩
  ·rw[hc z];rfl
 cases d with
 | e8=>exact absurd rfl hd
 | line=>
  refine oE (pU t3 t4 t7 @le @lo @bA @cg @aF @Qu @gG @XX @XS) ?_;refine WF.gen T.c225 (BJ T (d:=.line) De o w hx oB we nk) ?_;intro v k hv;exact z3
 | tape=>
  refine oE (pU t3 t4 t7 @le @lo @bA @cg @aF @Qu @gG @XX @XS) ?_;refine WF.gen T.c225 (BJ T (d:=.tape) De o w hx oB we nk) ?_;intro v k hv;exact z3
 | fY=>
  refine oE (pU t3 t4 t7 @le @lo @bA @cg @aF @Qu @gG @XX @XS) ?_;refine WF.gen T.c225 (BJ T (d:=.fY) De o w hx oB we nk) ?_;intro v k hv;exact z3
 | copy=>
  refine oE (pU t3 t4 t7 @le @lo @bA @cg @aF @Qu @gG @XX @XS) ?_;refine WF.gen T.c225 (BJ T (d:=.copy) De o w hx oB we nk) ?_;intro v k hv;exact z3
 | accept=>
  refine oE (pU t3 t4 t7 @le @lo @bA @cg @aF @Qu @gG @XX @XS) ?_;refine WF.gen T.c225 (BJ T (d:=.accept) De o w hx oB we nk) ?_;intro v k hv;exact z3
 | source=>
  refine oE (pU t3 t4 t7 @le @lo @bA @cg @aF @Qu @gG @XX @XS) ?_;refine WF.gen T.c226 (Hf T (d:=.source) De o w hx oB we nk) ?_;intro v k hv;exact z3
 | fL=>
  refine oE (pU t3 t4 t7 @le @lo @bA @cg @aF @Qu @gG @XX @XS) ?_;refine WF.gen T.c226 (Hf T (d:=.fL) De o w hx oB we nk) ?_;intro v k hv;exact z3
 | merge=>
  refine oE (pU t3 t4 t7 @le @lo @bA @cg @aF @Qu @gG @XX @XS) ?_;refine WF.gen T.c226 (Hf T (d:=.merge) De o w hx oB we nk) ?_;intro v k hv;exact z3
 | run=>
  refine oE (pU t3 t4 t7 @le @lo @bA @cg @aF @Qu @gG @XX @XS) ?_;refine WF.gen T.c227 (BI T (d:=.run) De o w hx oB we nk) ?_;intro v k hv;exact z3
 | fK=>
  refine oE (pU t3 t4 t7 @le @lo @bA @cg @aF @Qu @gG @XX @XS) ?_;refine WF.gen T.c227 (BI T (d:=.fK) De o w hx oB we nk) ?_;intro v k hv;exact z3
 | fail=>
  refine oE (pU t3 t4 t7 @le @lo @bA @cg @aF @Qu @gG @XX @XS) ?_;refine WF.gen T.c227 (BI T (d:=.fail) De o w hx oB we nk) ?_;intro v k hv;exact z3
 | fZ=>
  refine oE (pU t3 t4 t7 @le @lo @bA @cg @aF @Qu @gG @XX @XS) ?_;refine WF.gen T.c227 (BI T (d:=.fZ) De o w hx oB we nk) ?_;intro v k hv;exact z3
 | rel=>
  refine oE (pU t3 t4 t7 @le @lo @bA @cg @aF @Qu @gG @XX @XS) ?_;refine WF.gen T.c227 (BI T (d:=.rel) De o w hx oB we nk) ?_;intro v k hv;exact z3
theorem HW{d:Kd}{H:ah}(hH:H=h++ [aq.b V.row]++ [.b x.row]++ [.b km])(o:aD h V)(w:fo V.ar)(ox:bo h x)(we:kC x.ev d)(hd:d≠.e8)(hlen:ts.length=63)(t2:slot ts 2= .ptr h.length 0)(t3:slot ts 3= .ptr (h.length+1) 0)(t4:slot ts 4= .ptr (h.length+2) 0):
  WC P bR (tQ 1) [] ts H (FQ [(4,some (some 7)),(5,none)] (IA h (je V.ar x.ev d) (rG V.ar x.ev d))):=by
 have hv0:0 < cB d:=by cases d<;>first| exact absurd rfl hd| decide
 have QP:Ext h H:=by rw[hH];exact Xx
 have TP:H.length=h.length+3:=by rw[hH];simp
 have mV:H[h.length]? =some (.b V.row):=by rw[hH];simp
 have me:H[h.length+1]? =some (.b x.row):=by rw[hH];simp
 have mr:H[h.length+2]? =some (.b km):=by rw[hH];simp
 clear hH;have ow:=ox.ext QP;have oW:=o.ext QP;obtain⟨j0,f0,_⟩:=cT ow we 0 0 rfl hv0;have lr:∀{k n a},Ext H k→ao n (.ptr h.length a) (fun z=>k[z]?)=cp n a (.b V.row):=fun {_ _ _} e=>an (e.some mV)
 have le:∀{k n a},Ext H k→ao n (.ptr (h.length+1) a) (fun z=>k[z]?)=cp n a (.b x.row):=fun {_ _ _} e=>an (e.some me)
 have sb:∀{k},Ext H k→aW 7 (.ptr (h.length+2) 0) (.agg V.row) (fun z=>k[z]?)=some (aB,.set (h.length+2) (.b V.row)):=fun {_} e=>(o.ext (QP.trans e)).Ir (e.some mr)
 have gm:∀{k},Ext H k→ao (some 7) (.ptr (h.length+2) 0) (fun z=>(k.set (h.length+2) (.b V.row))[z]?)=some (.agg V.row,.az):=fun {_} e=>nP (by have:=e.len;omega)
 have Xo:∀{k:ah} {c:Int},Ext H k→je V.ar x.ev d=c→c≠0→IA h (je V.ar x.ev d) (rG V.ar x.ev d) (.dJ [.agg V.row,.i c]) (k.set (h.length+2) (.b V.row)):=by
  intro k c e hc h0;refine⟨(QP.trans e).iH Om,V,by rw[hc],?_,fun z=>absurd (hc.symm.trans z) h0⟩;exact o.sub fun b c' mu tl hb=>by
   have hlt:=(Xr.1 hb).1;rw[XK Om];exact(QP.trans e).some hb
 by_cases h1:bI x.ev 0 < V.ar.tick
 ·have e1:decide (bI x.ev 0 < V.tick)=true:=Xz h1;rw[Lu];generalize hR:tQ 2=R;unfold Ch fn129;simp only[aj.j,aj.s,aj.r,aj.dr,aj.tl,aj.hd];refine Rs (Cw t2 t3 t4 @le @lr @aY @r9 @aF @j0 @f0 e1 @sb @gm) ?_;exact Xo (.refl _) (by rw[je,XI h1]) De
 have e1:decide (bI x.ev 0 < V.tick)=false:=Xu h1;rw[Lu,OR];generalize hR:tQ 3=R;unfold Ch fn129;simp only[aj.j,aj.s,aj.r,aj.dr,aj.tl,aj.hd];refine Rs (pU t2 t3 t4 @le @lr @aY @cg @r9 @aF @j0 @f0 e1) ?_;refine WF.ce T.c223 (r223 T (d:=d) (oW.ext Xx) w.len (ow.ext Xx) we) fun g1=>?_
 by_cases h2:kG d V.ar x.ev=0
 case neg=>
  have e2:decide (kG d V.ar x.ev≠0)=true:=Xz h2;refine Rs (A8 t2 t3 t4 e2 @lr @aF @sb @gm) ?_;have ef:=Xo (k:=H++g1) (c:=kG d V.ar x.ev) ⟨g1,rfl⟩ (by rw[je,XG h1,XI h2]) h2;rw[List.set_append_left _ _ Om]at ef;exact ef
 have e2:decide (kG d V.ar x.ev≠0)=false:=Xu (fun z=>z h2);have hes:je V.ar x.ev d=bB V.ar x.ev d:=by rw[je,XG h1,XG (fun z=>z h2)]
 rw[hes];refine Rs (A4 t2 t3 t4 e2) ?_;rw[←hR];obtain⟨B,hB⟩:∃B,B=H++g1:=⟨_,rfl⟩;rw[←hB];have eB:Ext H B:=⟨g1,hB⟩;have lr:∀{k n a},Ext B k→ao n (.ptr h.length a) (fun z=>k[z]?)=cp n a (.b V.row):=fun {_ _ _} e=>an (e.some (eB.some mV))
 clear sb gm Xo le f0 j0 e1 e2;rw[OQ];generalize hR:tQ 4=R;unfold Ch fn129;simp only[aj.j,aj.s,aj.r,aj.dr,aj.tl,aj.hd];refine Rs (A5 t2 t3 t4 @lr @aF) ?_;refine WF.res T.c224 (r224 T (oW.ext eB) w) ?_;rintro _ g2 ⟨U,hU,rfl,own⟩;have Qm:=@aD.box _ _ own.ok;have st:=@aD.st _ _ own.ok;refine Rs (A5 t2 t3 t4 @Qm @st) ?_;obtain⟨X0,hX0⟩:∃Z,Z=B++g2:=⟨_,rfl⟩;rw[←hX0]at own ⊢;have e0:Ext B X0:=⟨g2,hX0⟩;rw[←hR,←hU];refine Lt T (ob:=X0.length) we hd (by rw[hU];exact yg h2) (by rw[hU];exact w) ox (QP.trans eB) (e0.trans ⟨_,rfl⟩) Si e0.len (by have:=eB.len;omega) bf (eB.some me) (eB.some mr) (own.app _) (fun hi=>?_) Sn (Sq t3) (Sq t4) Sw
 have:=(own.dN hi).2;omega
theorem r129{d}(o:aD h V)(w:fo V.ar)(ox:bo h x)(we:kC x.ev d)(hd:d≠.e8):aA P 129 [.agg V.row,.agg x.row] h (fun v k=>∃V':RV,v= .dJ [.agg V'.row,.i (je V.ar x.ev d)]∧aD k V'∧(je V.ar x.ev d=0→V'.ar=rG V.ar x.ev d∧∀i,some i∈V'.bl→h.length≤i)):=by
 refine .of T.mix (Z6 T.c129 (X6 some OS)) ?_;obtain⟨ts,Qn⟩:∃ts,ts=aT 63 [.agg V.row,.agg x.row]:=⟨_,rfl⟩;have hlen:ts.length=63:=by rw[Qn];rfl
 have t0:slot ts 0= .agg V.row:=by rw[Qn];rfl
 have t1:slot ts 1= .agg x.row:=by rw[Qn];rfl
 show WC P bR (.seq (Ch 0) (tQ 1)) [] (aT 63 [.agg V.row,.agg x.row]) h (FQ [(4,some (some 7)),(5,none)] (IA h (je V.ar x.ev d) (rG V.ar x.ev d)));rw[←Qn];clear Qn;have Qm:=@aD.box _ _ o;have hex:=@bo.box _ _ ox;generalize hR:tQ 1=R;unfold Ch fn129;simp only[aj.dr,aj.hd];refine Rs (A4 t0 t1 @Qm @hex) ?_;rw[←hR];exact HW T rfl o w ox we hd Sn Sw (by simp only[aV,bd,bD,bE,reduceAdd,reduceMul,reduceLeDiff,reduceEqDiff,bF,hlen,XO,XR];simp) (by simp only[aV,bd,bD,bE,reduceAdd,reduceMul,reduceLeDiff,reduceEqDiff,bF,hlen,XO,XR];simp)
end
end Go.Abs
