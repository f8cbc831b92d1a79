/- Ends of proofs that stand in more than one place. No condition. -/
import Derived.Tactics
set_option linter.all false
namespace Go.Abs
def XS:=@List.length_append
def XT:=@List.getElem?_eq_some_iff
def XU:=@decide_eq_false
def XV:=@List.append_assoc
def XW:=@List.getElem?_append_left
def XX:=@List.length_cons
def XY:=@List.getElem?_eq_getElem
def XZ:=@decide_eq_true
def X1:=@List.length_nil
def X2:=@List.length_map
def X3:=@List.mem_append
def X4:=@List.map_append
def X5:=@if_neg
def X6:=@List.getElem?_append_right
def X7:=@Result.andThen_ok
def X8:=@Nat.le_refl
def X9:=@if_pos
def Ya:=@List.getElem_mem
def Yb:=@if_false
def Yc:=@List.getElem?_set_ne
def Yd:=@List.getElem?_set_self
def Ye:=@Array.getElem?_eq_some_iff
def Yf:=@if_true
def Yg:=@run_underlying
def Yh:=@Sem.run_bind
def Yi:=@decide_true
def Yj:=@Option.map_eq_some_iff
def Yk:=@Bool.not_true
def Yl:=@List.mem_singleton
def Ym:=@List.mem_map_of_mem
def Yn:=@List.length_singleton
def Yo:=@List.append_nil
def Yp:=@decide_false
def Yq:=@Option.some.injEq
def Yr:=@Bool.not_false
def Ys:=@List.mem_map
def Yt:=@Nat.zero_le
def Yu:=@List.length_filter_le
def Yv:=@Bool.and_eq_true
def Yw:=@List.all_eq_true
def Yx:=@congrArg
def Yy:=@Sem.run_pure
def Yz:=@List.take_length
def YA:=@List.mem_cons
def YB:=@List.mem_cons_of_mem
def YC:=@List.getD_eq_getElem?_getD
def YD:=@List.length_set
def YE:=@List.take_of_length_le
def YF:=@List.take_add_one
def YG:=@decide_eq_true_eq
def YH:=@Array.getD_eq_getD_getElem?
def YI:=@Nat.le_trans
def YJ:=@Nat.zero_add
def YK:=@Bool.false_eq_true
def YL:=@Array.getElem?_eq_getElem
def YM:=@Nat.lt_of_lt_of_le
def YN:=@List.mem_cons_self
def YO:=@List.mem_of_getElem?
def YP:=@List.set_append_right
def YQ:=@List.length_take
def YR:=@List.map_cons
def YS:=@List.drop_length
def YT:=@List.not_mem_nil
def YU:=@Option.some.inj
def YV:=@List.pairwise_cons
def YW:=@List.length_eq_zero_iff
def YX:=@Option.bind_eq_some_iff
def YY:=@Nat.sub_self
def YZ:=@Nat.mul_le_mul_right
def Y5:=@List.mem_of_mem_take
def Y6:=@List.length_replicate
def Y7:=@List.getElem_map
def Y8:=@List.getElem?_cons_zero
def Y9:=@List.mem_range
def Za:=@List.flatten_cons
def Zb:=@of_decide_eq_true
def Zc:=@List.pairwise_append
def Zd:=@List.mem_filter
def Ze:=@Array.getElem?_setIfInBounds_self_of_lt
def Zf:=@Nat.succ_mul
def Zg:=@List.cons_append
def Zh:=@List.getElem?_cons_succ
def Zi:=@Bool.not_eq_true'
def Zj:=@List.drop_zero
def Zk:=@Ne.symm
def Zl:=@List.take_append_drop
def Zm:=@Array.getElem?_toList
def Zo:=@List.getElem?_toArray
def Zp:=@List.getElem?_map
def Zq:=@Decidable.not_not
def Zr:=@eq_false
def Zt:=@Array.getElem?_eq_none
def Zu:=@List.drop_drop
def Zv:=@List.all_cons
def Zw:=@Bool.true_and
def Zx:=@List.replicate_succ
def Zy:=@List.pairwise_singleton
def Zz:=@or_false
def ZA:=@List.filter_append
def ZB:=@List.nil_append
def ZC:=@List.any_eq_true
def ZD:=@List.map_map
def ZE:=@Array.getElem?_setIfInBounds_ne
def ZF:=@List.flatten_append
def ZG:=@List.mem_or_eq_of_mem_set
def ZH:=@List.getLastD_eq_getLast?
def ZI:=@Bool.or_eq_true
def ZJ:=@decide_eq_decide
def ZK:=@decide_eq_false_iff_not
def ZL:=@List.append_cancel_left
def ZM:=@List.map_nil
def ZN:=@Nat.min_eq_left
def ZO:=@List.take_succ_cons
def ZP:=@Option.map_some
def ZQ:=@List.length_reverse
def ZR:=@List.length_pos_iff
def ZS:=@List.getElem?_eq_none
def ZT:=@List.getElem_set_self
def ZU:=@Bool.false_ne_true
def ZV:=@List.drop_eq_getElem_cons
def ZW:=@Array.all_eq_true_iff_forall_mem
def ZX:=@List.flatten_replicate_singleton
def ZY:=@List.getElem?_take_of_lt
def ZZ:=@List.filter_map
def Z0:=@Nat.zero_mul
def Z1:=@List.map_set
def Z2:=@List.getElem_of_mem
def Z3:=@Option.bind_eq_bind
def Z4:=@Nat.mul_one
def Z5:=@Array.length_toList
def Z6:=@Bool.false_or
def Z7:=@List.filter_cons
def Z8:=@Option.getD_some
def Z9:=@List.length_drop
def aaa:=@Bool.false_and
def aab:=@List.findIdx?_cons
def aac:=@List.getElem?_drop
def aad:=@Nat.add_mul
def aae:=@Option.map_none
def aaf:=@Prod.mk.injEq
def aag:=@List.ext_getElem?
def aah:=@Function.comp_def
def aai:=@List.any_cons
def aaj:=@List.mapM_cons
def aak:=@List.getElem_set_ne
def aal:=@List.replicate_zero
def aam:=@Array.ext'
def aan:=@Nat.le_of_lt
def aao:=@Nat.add_zero
def aap:=@List.find?_some
def aaq:=@List.filter_nil
def aar:=@Option.pure_def
def aas:=@List.foldl_cons
def aat:=@List.nodup_cons
def aau:=@Nat.le_succ
def aav:=@true_and
def aaw:=@Eq.trans
def aax:=@eq_true
abbrev By:=List UInt8
def Tv:True:=trivial
def Om{A:Prop}(e:A:=by omega):A:=e
def De{A:Prop}(e:A:=by decide):A:=e
def Si{A:Prop}(e:A:=by simp):A:=e
def z1{A:Prop} (e:A:=by
 refine Ws hs.aM ?_;refine WL.inv T.mix (λn ts h'=>∃k:Nat,k<=L.length/\n=L.length-k/\Ext h h'/\L.findIdx? p=((L.drop k).findIdx? p).map (· +k)/\ts.length=19/\slot ts 0=s/\slot ts 1=f/\slot ts 7=.i L.length/\slot ts 8=.i k) L.length
  ⟨0,by omega,rfl,Ext.refl h,by simp,rfl,rfl,rfl,rfl,rfl⟩ ?_
 rintro _ ts _ ⟨k,hk,rfl,⟨g,rfl⟩,hi,hlen,t0,t1,t7,t8⟩;rw[k8 ts 19 hlen];by_cases hlt:k<L.length
 ·have hd:L.drop k=L[k]::L.drop (k+1):=by simp
  have e3:(k:Int)<L.length:=by omega
  simp only[aQ,aT,ba,bd,Nat.reduceAdd,Nat.reduceMul,Nat.reduceLeDiff,Nat.reduceEqDiff,t0,t1,t7,t8,e3,Yi,hs.dM hlt,hs.kR hlt];refine WF.val (hf L[k] (by simp) _ ⟨g,rfl⟩) ?_;rintro _ g1 rfl;cases hp:p L[k]with
  |true=>
   refine Ws @t8 ?_;rw[cP,hi,hd,aab,hp];simp
  |false=>
   refine Ws (A2 @t8 (wrapN (show k+1<2^63 by omega))) ?_;refine⟨_,?_,k+1,by omega,rfl,?_,rfl⟩
   ·omega
   ·rw[hi,hd,aab,hp];simp only[YK,Yb,Option.map_map];congr 1;funext i;simp only[Function.comp];omega
 ·have e3:¬(k:Int)<L.length:=by omega
  have e4:k=L.length:=by omega
  refine Ws (A6 @t0 @t1 @t7 @t8 @e3 @Yp) ?_;rw[cP,hi,e4,YS];rfl):A:=e
def z2{A:Prop} (e:A:=by
 rw[hrow]at hff;rw[hrow];refine Ws (A6 @t1 @t5 @t8 @t9 @t10 (wrapN (show k+1<2^63 by omega))) ?_;have hout:∀b,sB out=some b->b<(h++g).length:=λb hb=>(hfr.bQ hb).2
 have hnew:∀b,sB s' =some b->(h++g).length<=b/\b<(h++g).length+(1+g1.length):=λb hb=>by
  have:=XH.bQ hb;simp only[XS,XX,X1]at this ⊢;omega
 have hold:∀x∈L',∀b,sB x.2=some b->b<(h++g).length/\sB out≠some b:=λx hx b hb=>by
  refine⟨((hin x hx).bQ hb).2,λe=>?_⟩;exact(YV.1 RF).1 _ (Ym hx) b e hb
 refine⟨_,?_,k+1,_,L'++[(L[k].1,s')],by omega,rfl,?_,hff,?_,?_,rfl,rfl⟩
 ·omega
 ·rw[X4,hm,YF,XY hlt,X4];rfl
 ·intro x hx;rcases X3.1 hx with hx|hx
  ·refine((((hin x hx).app _).app _).app _).aB λb hb=>hkp b ?_ λb0 o n e hso=>?_
   ·have:=(hold x hx b hb).1;simp only[XS]at this ⊢;omega
   ·intro e;subst e;exact(hold x hx b hb).2 (by rw[hso];rfl)
  ·rw[Yl]at hx;subst hx;refine Fr.low (N:=(h++g++[ak.cells [] true true]).length) ?_ (by simp only[XS];omega);refine Fr.aB (h:=_) ((XH.app _).low ?_) λb hb=>hkp b ?_ λb0 o n e hso=>?_
   ·simp
   ·have:=hnew b hb;simp only[XS,XX,X1]at this ⊢;omega
   ·intro e;subst e;have h1:=hout b (by rw[hso];rfl);have h2:=(hnew b hb).1;omega
 ·have em:(L'++[(L[k].1,s')]).map (λx=>sB x.2)=(L'.map λx=>sB x.2)++[sB s']:=by rw[X4];rfl
  rw[em];refine YV.2 ⟨?_,Zc.2 ⟨(YV.1 RF).2,Zy _ _,?_⟩⟩
  ·intro y hy b hb TK;cases hb;rcases X3.1 hy with hy|hy
   ·obtain⟨x,hx,rfl⟩:=Ys.1 hy;have:=(hold x hx _ TK).1;simp only[XS]at this;omega
   ·rw[Yl]at hy;rw[hy]at TK;have:=(hnew _ TK).2;simp only[XS,XX,X1]at this;omega
  ·intro y hy z hz b hb hzb;obtain⟨x,hx,rfl⟩:=Ys.1 hy;rw[Yl]at hz;rw[hz]at hzb;have h1:=(hold x hx _ hb).1;have h2:=(hnew _ hzb).1;omega):A:=e
def z3{A:Prop} (e:A:=by
 obtain⟨V2,rfl,sb,K1⟩:=fin hv;refine Rs (A4 @t3 @t4 @t7 @sb) ?_;refine K1 _ ?_ ?_ ?_ ?_ ?_
 ·simp only[bg,hlen]
 ·exact Zs @t3 trivial
 ·exact Zs @t4 trivial
 ·exact Zs @t7 trivial
 ·exact Zn trivial):A:=e
def z4{A:Prop} (e:A:=by
 refine WF.val (hvk _ (by repeat first|exact Ext.refl _|refine Ext.app _ ?_)) ?_;rintro _ g1 rfl;refine Wn ?_;refine WR.fQ (h0:=h) (cs:=((L.take k).map F).map ao) (ys:=[ao (F L[k])]) ((((hfr.app _).app _).app _)) (Fr.push (N:=0) (Yt _) [ao (F L[k])] (by simp[ao])).a8 (by decide) (by simp) (by simp;omega) (by simp only[sE]) ?_;intro g' Q1 hff hkp;have hrow:((L.take k).map F).map ao++[ao (F L[k])]=((L.take (k+1)).map F).map ao:=by rw[YF,XY hlt,X4,X4];rfl
 rw[hrow]at hff;rw[hrow];refine Ws (A6 @t1 @t5 @t8 @t9 @t10 (wrapN (show k+1<2^63 by omega))) ?_;refine⟨_,?_,k+1,_,by omega,rfl,hff,rfl,rfl⟩;omega):A:=e
def z5{A:Prop} (e:A:=by
 have e3:¬(k:Int)<L.length:=by omega
 have e4:k=L.length:=by omega
 refine Ws (A7 @t1 @t5 @t8 @t9 @t10 @e3 @Yp) ?_;rw[e4,Yz]at hfr;exact hfr):A:=e
def z6{A:Prop} (e:A:=by
 rw[hrow]at hff;rw[hrow];refine Ws (A6 @t1 @t5 @t8 @t9 @t10 (wrapN (show k+1<2^63 by omega))) ?_;refine⟨_,?_,k+1,_,by omega,rfl,hff,rfl,rfl⟩;omega):A:=e
def z7{A:Prop} (e:A:=by
 have Sm:some i∈V.bl:=by rw[hd];exact iU hi
 refine hk i (hin i Sm).2 (λe=>?_) (λe=>r.ne (e▸Sm));obtain⟨h1,h2,h3⟩:=Zc.1 RF;rcases hi with hi|hi
 ·exact h3 _ hi _ (by simp) i rfl e
 ·exact(YV.1 h2).1 _ hi i e rfl):A:=e
def z8{A:Prop} (e:A:=by
 have hrow:V.aD.map aV++[aV (y,t)]=(V.aD++[(y,t)]).map aV:=by rw[X4];rfl
 rw[hrow]at hff;rw[hrow];have hbl:=r.lt;have Q4:sB V.s3≠some b:=λe=>r.ne (by rw[<-e];simp[RV.bl])
 have hk1:∀i,i<(B++g).length->sB V.s3≠some i->(B++g')[i]? =(B++g)[i]? :=λi hi hne=>by
  rw[hkp i (by simp only[XS]at hi ⊢;omega) (λb0 o n e he z=>hne (by rw[he,z];rfl))];exact(show Ext (B++g) _ from Xx).get hi
 have mB:(B++g')[b]? =some (.b V.row):=(hk1 b hbl Q4).trans r.m;have TR:=λ(b' o n e:Nat)=>iD (i:=4) (v:=.slice b' o n e) mB rfl (by decide)
 refine Rs (A4 @t0 @t1 @TR @eX) ?_;refine F8 r hff ?_ (λi hi=>by cases hi;exact .inr (by simp only[XS];omega)) hk1 ?_ ?_
 ·refine Fr.low (N:=(B++g).length) ((show Fr (B++g).length _ t 1 _ from RN.app _).aB λi hi=>hkp i ?_ (λb0 o n e he z=>?_)) (by simp)
  ·have:=(RN.bQ hi).2;simp only[XS]at this ⊢;omega
  ·have h1:=(RN.bQ hi).1;have h2:=(r.o.i3.bQ (show sB V.s3=some i by rw[he,z];rfl)).2;omega
 ·intro i hi;have h1:=RN.bQ hi;refine⟨h1.1,λe=>?_⟩;cases e;have:=h1.2;simp only[XS,XX,X1]at this;omega
 ·rw[hy];simp[RV.an,dz]):A:=e
def z9{A:Prop} (e:A:=by
 rcases hn i hi with hn|hn
 ·exact .inl hn
 ·refine .inr ⟨λy hy e=>?_,λy hy e=>?_⟩
  ·subst e;have:=(hin i (by rw[hd];exact iU (.inl hy))).2;omega
  ·subst e;have:=(hin i (by rw[hd];exact iU (.inr hy))).2;omega):A:=e
def MR{A:Prop} (e:A:=by
 refine⟨own,r.hN,hm,λhb=>?_⟩;have hbl:=r.lt;have S3:=r.ne;rw[hd]at S3;by_cases hsb:sB s=some b
 ·rcases hn b hsb with z|z
  ·exact S3 (by rw[z];simp)
  ·omega
 ·by_cases htb:sB t=some b
  ·have:=(hnt b htb).1;omega
  ·have SK:some b≠sB s:=λz=>hsb z.symm
   have htb':some b≠sB t:=λz=>htb z.symm
   simp only[RV.bl,X4,YR,ZM,X3,YA,YT,Zz]at hb;simp only[X3,YA,YT,Zz]at S3
   grind):A:=e
def IP{A:Prop} (e:A:=by
 rw[hkp i (by simp only[XS]at hi ⊢;omega) (λb0 o n e he z=>hne (by rw[he,z];rfl))];exact(show Ext (B++g) _ from Xx).get hi):A:=e
def z12{A:Prop} (e:A:=by
 by_cases hex:∃(x:Nat) (ox:bI),l[x]? =some ox/\listed.getD x false=true/\ox.dst=some t
 ·obtain⟨x,ox,hx,hxl,T9⟩:=hex;obtain⟨oo,Tr,Uo⟩:=RY x ox t hx T9;have hxi:x<i:=by
   by_cases e1:x=i
   ·subst e1;rw[RU]at hxl;cases hxl
   ·by_cases e2:x<i
    ·exact e2
    ·have e3:=(cR hsl (show i<x by omega) ho Tr).2 t Uo ht;have e4:=hcl x i hxl hin e3;rw[RU]at e4;cases e4
  rw[Q5 (x+1) i t (by omega) (by omega) (λk o' a2 a3 a4 a5=>by have:=huniq x k ox o' t hx a4 T9 a5;omega)];exact h2 t x ox hx hxl T9
 ·rw[Q5 0 i t (by omega) (by omega) (λk o' e2 e3 e4 e5=>by
   obtain⟨oo,Tr,Rl⟩:=RY k o' t e4 e5;have h6:=((cR hsl e3 Tr ho).1 t Rl).2 ht;exact hex ⟨k,o',e4,hahead k (Ye.1 Tr).1 h6,e5⟩)]
  exact h1 t λj oj hj hl Rl=>hex ⟨j,oj,hj,hl,Rl⟩):A:=e
def P7{A:Prop} (e:A:=by
 repeat (first|simp (config:={maxSteps:=1000000}) only[aQ,aT,ba,bd,Nat.reduceAdd,Nat.reduceMul,Nat.reduceLeDiff,Nat.reduceEqDiff,bg,hlen,Yb,Yf,t2,t3,t4,le,lr,bB,aN,aY,aE,QW,gU,reduceCtorEq,Yp,Yi,fy,j1,f1,ix,l2,oJ.aM,e2,iy,lv,e3,sb,gm]|simp (config:={maxSteps:=1000000}) (disch:=first|(simp only[XS,XX,X1]<;>omega)|rfl|omega|fail) only[eo,aQ,aT,ba,bd,Nat.reduceAdd,Nat.reduceMul,Nat.reduceLeDiff,Nat.reduceEqDiff,bg,hlen,Yb,Yf,t2,t3,t4,le,lr,bB,aN,aY,aE,QW,gU,reduceCtorEq,Yp,Yi,fy,j1,f1,ix,l2,oJ.aM,e2,iy,lv,e3,sb,gm])
 rw[bC,X5 (λz=>z hct),X9 h3];exact cH.fin Rh (λz=>absurd z (by decide))):A:=e
def AI{A:Prop} (e:A:=by
 exact⟨by simp[Op.equalIn,Yg hu],λl=>by simp,by simp,rfl,rfl⟩):A:=e
def P6{A:Prop} (e:A:=by
 have hlt:=(XT.1 hx).1;have Rd:t<a1.tmps.size:=by have:=hTl l.length (X8 _);omega
 have ex:(T l.length).getD t az=x:=by simp[List.getD,hx]
 have ey:a1.tmps.getD t undef=a1.tmps[t]:=by simp[YH,YL Rd]
 refine⟨a1.tmps[t],by simp,?_⟩;rw[<-ex,<-ey];by_cases hw:∃(j:Nat) (o:bI),l[j]? =some o/\o.dst=some t
 ·obtain⟨j,o,hj,ho⟩:=hw;have Ta:=(XT.1 hj).1;rw[Q5 (j+1) l.length t (by omega) (X8 _) (λk o' a2 a3 a4 a5=>by have:=huniq j k o o' t hj a4 ho a5;omega)];exact h2 t j o hj (hall j (by omega)) ho
 ·rw[Q5 0 l.length t (by omega) (X8 _) (λk o' _ _ h4 h5=>hw ⟨k,o',h4,h5⟩)];exact h1 t λj o hj _ ho=>hw ⟨j,o,hj,ho⟩):A:=e
def P5{A:Prop} (e:A:=by
 cases x with
 |agg l=>cases hx
 |dN l=>cases hx
 |bool b=>rw[VR]at h;subst h;rfl
 |int k n=>rw[VR]at h;subst h;rfl
 |wG k b=>rw[VR]at h;obtain⟨_,rfl,_⟩:=h;rfl
 |wm k x y=>rw[VR]at h;obtain⟨_,_,rfl,_⟩:=h;rfl
 |str s=>rw[VR]at h;subst h;rfl
 |ptr b o=>rw[VR]at h;obtain⟨_,_,rfl⟩:=h;rfl
 |nilPtr=>rw[VR]at h;subst h;rfl
 |slice b o n e=>rw[VR]at h;obtain⟨_,_,_,_,rfl,_⟩:=h;rfl
 |af=>rw[VR]at h;subst h;rfl
 |map r=>rw[VR]at h;obtain⟨_,_,rfl⟩:=h;rfl
 |cY=>rw[VR]at h;subst h;rfl
 |func f a c=>rw[VR]at h;obtain⟨_,_,_,rfl,_⟩:=h;rfl
 |nilFunc=>rw[VR]at h;subst h;rfl
 |qn u a=>rw[VR]at h;obtain⟨_,rfl,_⟩:=h;rfl
 |km=>cases hx):A:=e
def P4{A:Prop} (e:A:=by
 simp only[YK,Yb,Option.map_map];congr 1;funext i;simp only[Function.comp];omega):A:=e
def IN{A:Prop} (e:A:=by
 obtain⟨h1,h2,h3⟩:=s.kl i hi;rw[g2 i h2,hk i (YM h1 s.ln) (λz=>h3 (by rw[<-z];simp[RV.bl]))];exact s.kp i hi):A:=e
def IM{A:Prop} (e:A:=by
 simp only[RV.bl,X4,YR,ZM,X3,YA,List.mem_nil_iff,Zz]at h ⊢
 grind):A:=e
def z20{A:Prop} (e:A:=by
 have hX:Ext X (X++[.b V.row]++[.b x.row]++[.b kK]):=Xx;have ho:cK B.length (X++[.b V.row]++[.b x.row]++[.b kK]) V:=o.au λi hi=>hX.get (o.dU hi).2
 refine⟨⟨ho,hx.len,by simp,λhi=>by have:=(o.dU hi).2;omega⟩,hx.trans hX,X8 _,λ_ _=>rfl,λi hi=>?_⟩;simp only[XS,XX,X1];rcases hi with⟨h1,h2⟩|h1|h1
 ·exact⟨by omega,by omega,h2⟩
 ·exact⟨by omega,by omega,λz=>by have:=(o.dU z).2;omega⟩
 ·exact⟨by omega,by omega,λz=>by have:=(o.dU z).2;omega⟩):A:=e
def z21{A:Prop} (e:A:=by
 have e5:=wrapN (n:=k) (by omega);by_cases hp:L[k]=M[k]
 ·have q:decide (L[k]≠M[k])=false:=XU (λz=>z hp);refine Rs (pa @t0 @t1 @t5 @e3 hs.aM @ix @ld @iy @ly @q @e5) ?_;refine⟨_,by omega,k+1,by omega,rfl,?_,rfl⟩;rw[YF,YF,hi,XY hlt,XY Rd,hp]
 ·have q:decide (L[k]≠M[k])=true:=XZ hp;refine Rs (o8 @t0 @t1 @t5 @e3 hs.aM @ix @ld @iy @ly @q) ?_;exact Yx AV.bool (XU (λ(e:L=M)=>hp (by simp only[e]))).symm):A:=e
def P3{A:Prop} (e:A:=by
 split at hk
 case isFalse=>cases hk
 rename_i hg;cases Rn:flat P 20 t with
 |none=>simp[Rn]at hk
 |some ks=>
  simp[Rn]at hk;subst hk;have hb':yZ ks (ρ x) (ρ y)=some b:=hb;unfold yZ at hb';split at hb'
  case h_2=>cases hb'
  rename_i xs ys hxa Sr;rw[hxa]at hx;rw[Sr]at hy;obtain⟨lx,rfl,TN⟩:=hx;obtain⟨ly,rfl,TM⟩:=hy;split at hb'
  case isFalse=>cases hb'
  rename_i hlen;refine fin (wi hg) ?_ rfl rfl;exact BB 20 t ks Rn 10000 (by omega) _ hu xs ys lx ly b hlen.1 hlen.2 TN TM hb' w):A:=e
def AR{A:Prop} (e:A:=by
 simp only[compile]at hc
 (repeat' split at hc)
 all_goals cases hc):A:=e
def z24{A:Prop} (e:A:=by
 have:∀n,qP (Array.replicate ops.size false) n<=n:=by
  intro n
  induction n with
  |zero=>exact X8 _
  |succ n ihn=>simp only[qP];split<;>omega
 exact this _):A:=e
def I7{A:Prop} (e:A:=by
 cases hk;exact eU.nF hr (FP (w:=w) (ox:=x) (oy:=y) hk0 hx hy hs) (λcv h=>by simp only[execOp,ho];rw[Yh,h];rfl)):A:=e
def MQ{A:Prop} (e:A:=by
 rcases hs.NU with⟨rfl,rfl⟩|hq
 ·refine Ws @B0 ?_;exact .nil
 ·refine Ws @hq ?_;refine WR.qo (N:=h.length) bh (X8 _) (hs.ext (by repeat first|exact Ext.refl _|refine Ext.app _ ?_)) (by omega) λs' g hf=>?_
  refine Wn ?_;exact hf):A:=e
def MP{A:Prop} (e:A:=by
 obtain⟨xi,a1,a2⟩:=RY i oi d hi h1;obtain⟨xj,b1,b2⟩:=RY j oj d hj h2;by_cases hlt:i<j
 ·exact absurd b2 ((cR hsl hlt a1 b1).1 d a2).1
 ·by_cases T2:j<i
  ·exact absurd a2 ((cR hsl T2 b1 a1).1 d b2).1
  ·omega):A:=e
def z28{A:Prop} (e:A:=by
 show 0+0+nc*i.size<=(vo++vn).length+rest.length;rw[XS,RP,RE,Xk,SE];have e1:nc*i.size=(n+k)*i.size+(nc-(n+k))*i.size:=by rw[<-aad];congr 1;omega
 rw[aad]at e1;simp;omega):A:=e
def MO{A:Prop} (e:A:=by
 rw[e]at hb;by_cases hsb:sB s=some b
 ·rcases hn b hsb with z|z
  ·exact S3 (by rw[z];simp)
  ·omega
 ·rcases vz hb with z|z|z
  ·exact S3 (iU (.inl z))
  ·exact hsb z.symm
  ·exact S3 (iU (.inr z))):A:=e
def MN{A:Prop} (e:A:=by
 have hlt:j<ops.size:=by have:=(XT.1 hj).1;omega
 have ho:ops[j]? =some ops[j]:=YL hlt;obtain⟨io',h1,h2⟩:=QY j ops[j] (by simp);rw[hj]at h1;cases h1;exact⟨_,ho,h2⟩):A:=e
def z31{A:Prop} (e:A:=by
 have hsh:U.an.aj=V.an.aj.map (kD a z):=by
  refine List.ext_getElem (by simp[RV.an,SW]) λi h1 h2=>?_
  have hi:i<U.aj.length:=by simpa [RV.an]using h1
  have:=hU i hi (by omega);rw[X9 (by omega)]at this
  simpa [RV.an]using this
 have heq:∀A C:gx,{A with aj:=C.aj} =C->A={C with aj:=A.aj}:=by
  intro A C h;cases A;cases C;simp_all
 have:=heq _ _ hreg;rw[this,hsh,dz,ha,hz]):A:=e
def P2{A:Prop} (e:A:=by
 refine⟨(fn.aB λj hj=>kp j (ln j hj).2 λe=>?_).low (by simp only[XS];omega),(fv.aB λj hj=>kp j (lv j hj).2 λe=>?_).low (by simp only[XS];omega),λj hj e=>?_,λj hj e=>?_⟩
 ·have h1:=(ln j hj).1;have h2:=hout j e;omega
 ·have h1:=(lv j hj).1;have h2:=hout j e;omega
 ·have h1:=(ln j hj).2;have h2:=Ts j e;omega
 ·have h1:=(lv j hj).2;have h2:=Ts j e;omega):A:=e
def P1{A:Prop} (e:A:=by
 by_cases hxy:x<=y
 ·have:=TH x (y-x) (by omega) (λj o h1 h2 h3=>by
   cases hk:cG o.k with
   |true=>rfl
   |false=>have:=hno j o h3 hk;omega)
  rw[show x+(y-x)=y from by omega]at this;exact this.symm
 ·have:=TH y (x-y) (by omega) (λj o h1 h2 h3=>by
   cases hk:cG o.k with
   |true=>rfl
   |false=>have:=hno j o h3 hk;omega)
  rw[show y+(x-y)=x from by omega]at this;exact this):A:=e
def MM{A:Prop} (e:A:=by
 subst e;by_cases hsi:sB s=some i
 ·exact n2 hsi
 ·have:=(hin i (by rw[hd];simp only[X3,YA,YT,Zz]at hy ⊢;have hsi':some i≠sB s:=λz=>hsi z.symm;grind)).2;omega):A:=e
def Mu{A:Prop} (e:A:=by
 obtain⟨e,he,hb,hor⟩:=(od hed ho).2 x hx ha;have hle:=VG e he hb;rcases hor with rfl|hor
 ·exact hle
 ·exact hcl e.on x hle hx hor):A:=e
def P0{A:Prop} (e:A:=by
 simp only[QR]at hc;split at hc
 case h_2=>cases hc
 rename_i kt e x' i' y' hu QV hi' hy';simp only[Yj]at hc;obtain⟨kk,hkk,rfl⟩:=hc;obtain⟨w',h1,rfl,h2,h3⟩:=GR (w:=w) hu hkk hr (hρ x (by simp[QR,Op.operands]) x' QV) (hρ i (by simp[QR,Op.operands]) i' hi') (hρ y (by simp[QR,Op.operands]) y' hy') hs;exact⟨undef,w',m,.inr ⟨by simp[execOp,QR,h1],rfl⟩,jR m,h2,h3⟩):A:=e
def z37{A:Prop} (e:A:=by
 rw[hp,X5 (by decide),Yo]at Rc;refine Ws (A6 @t1 @t5 @t8 @t9 @t10 (wrapN (show k+1<2^63 by omega))) ?_;refine⟨_,?_,k+1,out,by omega,rfl,by rw[Rc];exact(hfr.app _).app _,rfl,rfl⟩;omega):A:=e
def PZ{A:Prop} (e:A:=by
 have h1:=RN.bQ hi;refine⟨h1.1,λe=>?_⟩;cases e;have:=h1.2;simp only[XS,XX,X1]at this;omega):A:=e
def PY{A:Prop} (e:A:=by
 rcases Q3 b1 e1 h1 with⟨rfl,rfl⟩|⟨VC,SA⟩
 ·rcases Q3 b2 e2 h2 with⟨rfl,rfl⟩|⟨hl2,Vd⟩
  ·exact absurd rfl hne
  ·exact absurd hcb.symm (hout b2 e2 Vd)
 ·rcases Q3 b2 e2 h2 with⟨rfl,rfl⟩|⟨hl2,Vd⟩
  ·exact absurd hcb (hout b1 e1 SA)
  ·rw[XW VC]at hk1;rw[XW hl2]at QS;exact hr.sep b1 b2 e1 e2 k1 k2 hne SA Vd hk1 QS hcb):A:=e
def z40{A:Prop} (e:A:=by
 rw[da (by omega)]at hj ⊢;split
 ·rfl
 ·split at hj
  ·rename_i hji;subst hji;exact hahead x hx ha
  ·exact hcl j x hj hx ha):A:=e
def C9{A:Prop} (e:A:=by
 exact cH.fin Rh (λz=>absurd z (by decide))):A:=e
def ML{A:Prop} (e:A:=by
 have e3:¬(k:Int)<L.length:=by omega
 have e4:k=L.length:=by omega
 refine Ws (A7 @t1 @t5 @t8 @t9 @t10 @e3 @Yp) ?_;rw[e4,Yz]at hm;exact⟨L',hm,hfr,hin,RF⟩):A:=e
def Mt{A:Prop} (e:A:=by
 rw[hkp i (by simp only[XS];omega) (λb0 o n e he z=>hne (by rw[he,z];rfl))];exact XW hi):A:=e
def MK{A:Prop} (e:A:=by
 exact(show Ext (B++g) _ from Xx).get hi):A:=e
def MJ{A:Prop} (e:A:=by
 cases QQ;rw[hv]at h1;have h1':=h1;obtain⟨f',a',c',h2,h3,_⟩:=h1;simp only[AF]at h3;subst h3;exact eU.same hr h1' (by simp[execOp,QR,h2])):A:=e
def z46{A:Prop} (e:A:=by
 simp only[XS,XX,X1]at this ⊢;omega):A:=e
def PX{A:Prop} (e:A:=by
 simp only[QR,Yj]at hc;obtain⟨x',QV,rfl⟩:=hc;have QQ:dA (.aI x') ρ h=some (v,h'):=hs;simp only[dA,Yq,aaf]at QQ;obtain⟨rfl,rfl⟩:=QQ;exact eU.same hr (hρ x (by simp[QR,Op.operands]) x' QV) (by simp[execOp,QR])):A:=e
def PW{A:Prop} (e:A:=by
 have:=uG (T:=T) (t:=t) (a:=x) (y-x) (λj h1 h2=>by
  have hj:l[j]? =some (l[j]'(by omega)):=XY (by omega);obtain⟨v,hv⟩:=Sp j _ hj;exact⟨_,v,hv,hno j _ h1 (by omega) hj⟩)
 rwa [show x+(y-x)=y from by omega]at this):A:=e
def z49{A:Prop} (e:A:=by
 exact⟨_,by omega,k+1,_,by omega,rfl,hff,rfl,rfl⟩):A:=e
def PV{A:Prop} (e:A:=by
 rename_i hm;cases h;rw[Yv,Yv]at hm;obtain⟨f,hf⟩:=Option.isSome_iff_exists.1 hm.1.2;have h1:=aap hf;rw[Yv]at h1;exact .inr (.inr ⟨l3,rfl,hq.2,⟨l,hl⟩,2,Xz,.inr ⟨f,h1.1,h1.2⟩,hm.2⟩)):A:=e
def z51{A:Prop} (e:A:=by
 refine⟨_,w',m',room UM hlen S0 (by simp only[UP];rw[gO];exact h0),⟨_,_,cap,h1,rfl,UM,λ_=>?_,?_⟩,h2,h3⟩
 ·rw[UP];simp only[Addr.mk.injEq,aav,and_true];omega
 ·show 0+(en.d+o)+cap*i.size<=en.sz;omega):A:=e
def PU{A:Prop} (e:A:=by
 have QQ:S j=true:=by unfold mark at hs;rwa [X5 hji]at hs
 rw[dE (huniq j o d hji hj ho)];refine VR.mono ?_ _ _ (M.yx d j o hj QQ ho);intro b e hb;unfold cp.dI at hb ⊢;split at hb
 ·rename_i hlt;rw[X9 hlt];exact Tm _ _ hb
 ·cases hb):A:=e
def z53{A:Prop} (e:A:=by
 have e2:(#[]++(⟨[.string ⟨⟨s⟩⟩,.int .u8 (c.toNat:Int)]⟩:Array Value)++#[])=#[]++#[.string ⟨⟨s⟩⟩,.int .u8 (c.toNat:Int)]++#[]:=rfl;simp only[e2,e',Result.andThen];exact⟨_,m,rfl,rfl,hr,Grow.refl m h w hr.cN⟩):A:=e
def Ms{A:Prop} (e:A:=by
 cases hx:m h.length with
 |none=>rfl
 |some y=>exact absurd (hr.cN _ _ hx) (by omega)):A:=e
def MI{A:Prop} (e:A:=by
 rw[Rc,ZA];simp only[Z7,aaq,hd,Yf,X4,YR,ZM]):A:=e
def PT{A:Prop} (e:A:=by
 rw[a5 i hi (by omega),hU i (by omega) hi'];by_cases SO:i=k
 ·subst SO;rw[X9 rfl,X5 (by omega),X9 (by omega)]
 ·rw[X5 SO];by_cases hil:i<k
  ·rw[X9 hil,X9 (by omega)]
  ·rw[X5 hil,X5 (by omega)]):A:=e
def IL{A:Prop} (e:A:=by
 subst z;rcases hb' i hi with z|z
 ·exact Q4 z
 ·omega):A:=e
def PS{A:Prop} (e:A:=by
 have hj:l[x+k]? =some (l[x+k]'(by omega)):=XY (by omega);rw[show x+(k+1)=x+k+1 from by omega,TG _ _ hj (hno _ _ (by omega) (by omega) hj)];exact ih (by omega) λj o h1 h2 h3=>hno j o h1 (by omega) h3):A:=e
def z59{A:Prop} (e:A:=by
 subst z;rcases hn i hi with z|z
 ·exact Q4 z
 ·omega):A:=e
def MH{A:Prop} (e:A:=by
 obtain⟨v,hv⟩:=Sp j _ (XY (show j<l.length by omega));rw[hv,mY];exact ih (by omega)):A:=e
def PR{A:Prop} (e:A:=by
 split at hk
 case isFalse=>cases hk
 simp only[Yj]at hk;obtain⟨ks,_,rfl⟩:=hk;exact eU.nF hr (FP (w:=w) (ox:=x) (oy:=y) hk0 hx hy hs) (λcv h=>by simp only[execOp,ho];rw[Yh,h];rfl)):A:=e
def Mr{A:Prop} (e:A:=by
 refine WF.ce T.c15 (aw _ Xx) λg2=>?_
 refine Rs @t0 ?_;exact⟨e0.trans Xx,rfl⟩):A:=e
def PQ{A:Prop} (e:A:=by
 refine⟨e,ts,h'++[ak.dead]++g',λr hr=>?_,done e h' g' hl So⟩;have:r=none:=hr;subst this;have:=Ev.eQ (h:=h) (ps:=ps) (asg:=asg) (body:=body) hA hg hs (nf hl) bW;rw[ru hl]at this;exact this):A:=e
def PO{A:Prop} (e:A:=by
 refine yY hg QV ?_ (λt SZ=>ht t ?_)
 ·rw[ZW]at XE;exact XE x hx
 ·subst SZ;exact List.mem_append_left _ (List.mem_filterMap.2 ⟨.tmp t,by simpa using hx,rfl⟩)):A:=e
def MG{A:Prop} (e:A:=by
 rw[YF,XY hlt,ZA];congr 1;cases hp:p L[k]<;>simp[hp]):A:=e
def PN{A:Prop} (e:A:=by
 rw[YF,XY RT]at hy';rcases X3.1 hy' with hy'|hy'
 ·exact hsf y' hy'
 ·simp only[Option.toList_some,Yl]at hy';rw[hy',<-hy];exact h4):A:=e
def PM{A:Prop} (e:A:=by
 refine Rs (A2 @t0 @o1) ?_;refine WF.res T.c177 (r177 T (hx.ext Xx) (by simp;omega)) ?_;rintro s' g1 hf;have o2:=hf.a8.one;refine Rs (A3 @t0 @o1 @o2) ?_;exact⟨s',rfl,(Fr.swap hf (by simp)).low (by simp)⟩):A:=e
def Mq{A:Prop} (e:A:=by
 rw[X5 Rx]at QS;exact hr.sep b1 b2 e1 e2 k1 k2 hne Sb Q0 hk1 QS hcb):A:=e
def PL{A:Prop} (e:A:=by
 have q:decide ((L.length:Int)≠M.length)=true:=XZ (by omega);refine Rs (A5 @t0 @t1 hs.aM ht.aM @q) ?_;exact Yx AV.bool (XU (λ(e:L=M)=>h1 (by rw[e]))).symm):A:=e
def z70{A:Prop} (e:A:=by
 refine⟨_,by omega,k+1,out,by omega,rfl,?_,rfl,rfl⟩;rw[Rc,ZA];simp only[Z7,aaq,hd,YK,Yb,Yo];exact hfr.app _):A:=e
def PK{A:Prop} (e:A:=by
 rw[bC]at hc;split at hc
 case isTrue hb=>exact absurd hc hb
 case isFalse hb=>
  unfold jO at hb;split at hb
  ·exact absurd (by decide) hb
  split at hb
  ·exact absurd (by decide) hb
  omega):A:=e
def z72{A:Prop} (e:A:=by
 obtain⟨h3,h4,h5⟩:=w.md x hx;exact⟨h3,h4,λt ht=>by rw[em];exact gE (h5 t ht)⟩):A:=e
def Mp{A:Prop} (e:A:=by
 rw[X9 h0];refine Rs (A4 @t0 @t1 @st @q) ?_;exact⟨_,rfl,.nil⟩):A:=e
def Mo{A:Prop} (e:A:=by
 rw[YH,Array.getElem?_replicate];split<;>rfl):A:=e
def z75{A:Prop} (e:A:=by
 have e3:=gK hlt;have e4:k=L.length:=by omega
 refine Rs (A5 @t0 @t1 @t5 @e3 hs.aM) ?_;rw[e4,Yz,h1,Yz]at hi;exact Yx AV.bool (XZ hi).symm):A:=e
def z76{A:Prop} (e:A:=by
 obtain⟨o,h1,h2⟩:=UQ j io hj;exact⟨o,h1,by rw[<- (dy h2).1];exact hd⟩):A:=e
def PJ{A:Prop} (e:A:=by
 have hi':i<x.ev.names.length:=by omega
 have:aP x.ev i=x.ev.names[i]:=by rw[aP,YC,XY hi'];rfl
 rw[this];exact ox.n.kS hi' rfl e):A:=e
def Mn{A:Prop} (e:A:=by
 by_cases e1:j=i
 ·subst e1;exact hlt
 ·rw[hne j e1];exact hl):A:=e
def MF{A:Prop} (e:A:=by
 rw[X6 (by simp;omega),X6 (by simp;omega)];simp):A:=e
def z80{A:Prop} (e:A:=by
 have:=AU (listed:=listed) (by omega) RU ops.size hin;omega):A:=e
def PI{A:Prop} (e:A:=by
 refine⟨λh1=>?_,λh1=>⟨l.length-(k+1),by omega,k+1,by omega,rfl,?_,rfl⟩⟩
 ·rw[hf,hd,bj,X5 h1]
 ·rw[hf,hd,bj,X9 (by omega)]):A:=e
def FE{A:Prop} (e:A:=by
 exact Rs (A3 @t0 @t1 @t2) trivial):A:=e
def ME{A:Prop} (e:A:=by
 rw[YF,XY (by rw[hRl];exact hlt),hy];simp[RV.an]):A:=e
def PH{A:Prop} (e:A:=by
 rename_i cs;cases hl:cs.toList.mapM (mE n)with
 |none=>simp[hl]at h
 |some r=>simp[hl]at h;subst h;exact⟨cs.toList,rfl,vA m n (qG m n) _ _ hl⟩):A:=e
def z85{A:Prop} (e:A:=by
 have h1:=(s.bk.o.dU (b:=i) (by rw[<-e];simp[RV.bl])).2;have:=(htb i hi).1;omega):A:=e
def PG{A:Prop} (e:A:=by
 unfold cp.add at Sd;by_cases hx:b=h.length
 ·rw[X9 hx]at Sd;cases Sd;exact .inl ⟨hx,rfl⟩
 ·rw[X5 hx]at Sd;exact .inr ⟨hr.cN _ _ Sd,Sd⟩):A:=e
def z87{A:Prop} (e:A:=by
 simp only[E8,E7,E6,Iu,Iv,Fb,Fa,E9,LU,LS,ZB,Zg,ne_eq,Yq,and_true];omega):A:=e
def PF{A:Prop} (e:A:=by
 refine Rs (FD @t4 @t6 @t20 @t21 @t22 @e3 @ix @ld @e5 @l2 @l3 @bX @jk @lk @hb @mp @a4) ?_;exact⟨_,by omega,k+1,_,by omega,rfl,rfl,hnew,rfl⟩):A:=e
def IK{A:Prop} (e:A:=by
 simp only[RV.an,Y7];rfl):A:=e
def MD{A:Prop} (e:A:=by
 show(R.aD++[_]).length<=32;rw[XS,Yn];omega):A:=e
def z91{A:Prop} (e:A:=by
 rcases hn i z with z|z
 ·exact h3 (by rw[<-z];simp[RV.bl])
 ·have:=s.ln;omega):A:=e
def I6{A:Prop} (e:A:=by
 exact cH.fin Rb (λz=>absurd z (by decide))):A:=e
def z93{A:Prop} (e:A:=by
 rw[aA (e.some hg0)];have:bH x.ev 1=1\/bH x.ev 1=2\/bH x.ev 1=3\/bH x.ev 1=4:=by omega
 rcases this with z|z|z|z<;>rw[z]<;>rfl):A:=e
def Mm{A:Prop} (e:A:=by
 simp only[Yl,Yq]at z;omega):A:=e
def PE{A:Prop} (e:A:=by
 rw[YF,XY hlt,tj];simp only[Option.toList_some,cJ,YJ,YQ];rw[ZN (by omega)]):A:=e
def I5{A:Prop} (e:A:=by
 exact cH.fin sY (λz=>absurd z (by decide))):A:=e
def PD{A:Prop} (e:A:=by
 cases hk:cG oj.k with
 |true=>exact .inl rfl
 |false=>
  cases QS:kF oj with
  |true=>exact .inr rfl
  |false=>have:=hHh j oj h3 hk QS;omega):A:=e
def PC{A:Prop} (e:A:=by
 have hne:io.dst≠some d:=hd i io hio (by simp[mark]);rw[dE hne];refine M.yy d λj o hj hs=>hd j o hj ?_
 unfold mark;split
 ·rfl
 ·exact hs):A:=e
def PB{A:Prop} (e:A:=by
 have d1:decide (n<10)=true:=XZ h10;refine Ws (A4 @d0 @d1 @uE @y5) ?_;rw[kC,Lib.decDigits,dif_pos (by omega),y0 h0 h10]):A:=e
def JX{A:Prop} (e:A:=by
 have e3:=jn hmo (show i<j by omega) hio hj Wf (hrp hk) Uc (hld hk) (.inl ⟨Sh,hk⟩);have e4:=hcl j i SN hin e3;rw[RU]at e4;cases e4):A:=e
def JW{A:Prop} (e:A:=by
 rw[VR]at ha hv ⊢;obtain⟨e,he,_⟩:=ha;obtain⟨e',RO,hv⟩:=hv;exact⟨e',by unfold cp.dI;rw[X9 (hd _ _ he)];exact RO,hv⟩):A:=e
def GD{A:Prop} (e:A:=by
 exact h3 (by rw[<-z];simp[RV.bl])):A:=e
def JV{A:Prop} (e:A:=by
 have:=(Fr.push (N:=0) (es:=3) (h:=W4) (Yt _) [z] (λx hx=>by rw[Yl]at hx;rw[hx,hz];rfl)).a8
 simpa using this):A:=e
def JU{A:Prop} (e:A:=by
 simp only[aQ,aT,ba,bd,Nat.reduceAdd,Nat.reduceMul,Nat.reduceLeDiff,Nat.reduceEqDiff,bg,hlen,Yb,Yf,t0,aA hg.1]):A:=e
def z105{A:Prop} (e:A:=by
 have hl:=(XT.1 this).1;rw[XY hl]at this;rw[<-YU this];exact List.set_getElem_self hl):A:=e
def JT{A:Prop} (e:A:=by
 split at hn
 case isFalse=>cases hn
 rename_i S9;subst S9;cases hn;obtain⟨e,rfl⟩:=hd;simp[Builtin.len_,S2,Yg hu,goInt]):A:=e
def z107{A:Prop} (e:A:=by
 by_cases hab:a=b
 ·simp[dG,dx,hab,Au]
 ·have:(a==b)=false:=by simp[hab]
  simp[dG,dx,hab,Au,this]):A:=e
def zm{A:Prop} (e:A:=by
 subst z;have:=(hnt i hi).1;omega):A:=e
def z109{A:Prop} (e:A:=by
 rw[ei];refine Rs (A5 @t0 @t1 @ix @ld @on) ?_;exact⟨x,Sm,sp,rfl⟩):A:=e
def JS{A:Prop} (e:A:=by
 have:jO V.an x.ev=3:=by rw[jO,X5 (by rw[h1];decide),<-jx.e,X9 h2]
 rw[bC,X9 (by rw[this];decide),this]):A:=e
def JR{A:Prop} (e:A:=by
 simp only[YH,YL (show i<listed.size by omega),Z8]at hl ⊢;exact hl):A:=e
def JQ{A:Prop} (e:A:=by
 obtain⟨h1,h2,h3⟩:=s.kl i hi;rw[hk i (YM h1 s.ln) (λz=>h3 (by rw[<-z];simp[RV.bl]))];exact s.kp i hi):A:=e
def JP{A:Prop} (e:A:=by
 obtain⟨y,hy,rfl⟩:=Ys.1 hx;have:=tV w.n2 (Ym (f:=jP.name) (Zd.1 hy).1);omega):A:=e
def JO{A:Prop} (e:A:=by
 have UE:(ps.map λ(i,x)=>(i,σ x)).toList=ps.toList.map λp=>(p.1,σ p.2):=by simp
 rw[UE,R5];simp[newRow]):A:=e
def JN{A:Prop} (e:A:=by
 by_cases hlt:j<i
 ·have:=Sl (j+1) i (by omega) (by omega);omega
 ·have:=Sl (i+1) j (by omega) (by omega);omega):A:=e
def z116{A:Prop} (e:A:=by
 have e3:V.cU.length=V.bW.cU.length:=by simp[HV.bW]
 have e4:V.bW.dt.length=V.dt.length:=by simp[HV.bW]
 omega):A:=e
def z117{A:Prop} (e:A:=by
 split at h
 ·rename_i h1 h2 h3 h4;simp only at h1 h2 h3 h4;subst h1;subst h2;subst h3;subst h4;cases h;rfl
 ·cases h):A:=e
def zl{A:Prop} (e:A:=by
 exact Ws (A2 @hld @R8) trivial):A:=e
def z119{A:Prop} (e:A:=by
 rw[VR]at ha hv ⊢;obtain⟨l1,_,h1⟩:=ha;obtain⟨l2,hv,h2⟩:=hv;exact⟨l2,hv,cL.cut hd l _ _ h1 h2⟩):A:=e
def JM{A:Prop} (e:A:=by
 rcases X3.1 hx with hx|hx
 ·exact w.ev x hx
 ·rw[Yl]at hx;subst hx;exact⟨d,we⟩):A:=e
def JL{A:Prop} (e:A:=by
 show 0+(dP k z.cells).length<=row.size;rw[jw,hrs,hzl,YJ];exact YZ _ hkn):A:=e
def JK{A:Prop} (e:A:=by
 have e1:decide (jO V.an x.ev≠0)=true:=XZ hb;refine Rs (A3 @t0 @t1 @e1) ?_;rw[bC,X9 hb]):A:=e
def Dd{A:Prop} (e:A:=by
 rw[ei];exact Rs (A4 @t0 @t1 @ix @ld) trivial):A:=e
def z124{A:Prop} (e:A:=by
 rw[<-Rl]at hx;exact e1 (huniq j i oj io d hj hio TA hx)):A:=e
def JJ{A:Prop} (e:A:=by
 refine WF.ce T.c254 (Z.atoi Rl.2 (by simp) (by omega)) λg2=>?_
 refine Rs @t0 ?_;unfold kZ;rw[e1];rfl):A:=e
def JI{A:Prop} (e:A:=by
 obtain⟨ma,va,h1,h2⟩:=h;exact⟨ma,va,λb e hb=>YM (h1 b e hb) hnk,h2⟩):A:=e
def z127{A:Prop} (e:A:=by
 exact propext ⟨λz=>by omega,λz=>by omega⟩):A:=e
def Dc{A:Prop} (e:A:=by
 simp only[RV.an,Y7];rfl):A:=e
def JH{A:Prop} (e:A:=by
 have hne:=hb' b 0 _ _ rfl;rw[<-YP _ _ hN,Yc (Zk hne)]):A:=e
def z130{A:Prop} (e:A:=by
 have:jO V.an x.ev=23:=by rw[jO,X9 h1]
 rw[bC,X9 (by rw[this];decide),this]):A:=e
def z131{A:Prop} (e:A:=by
 rw[hr]at h1;simp only[YQ]at h1;omega):A:=e
def GC{A:Prop} (e:A:=by
 rename_i hu;cases hf;exact⟨_,hu,λ_=>rfl⟩):A:=e
def JG{A:Prop} (e:A:=by
 refine hall ?_;cases hy:fc s[k]with
 |false=>rfl
 |true=>have:=kB.1 hy;omega):A:=e
def JF{A:Prop} (e:A:=by
 have a1:=hdom b e RS;have a2:=fH hlen (i:=θ) (j:=j) (by omega) (by omega);omega):A:=e
def Db{A:Prop} (e:A:=by
 have:=st.ts.length;simpa using this):A:=e
def JE{A:Prop} (e:A:=by
 subst he;rw[X9 rfl]at q4;simp only[Yi,Yf];exact⟨h5,g5,rfl,h6,q4⟩):A:=e
def JD{A:Prop} (e:A:=by
 simp only[ez,qT,Yq,AV.bool.injEq];by_cases hab:x=y<;>simp[hab]):A:=e
def z138{A:Prop} (e:A:=by
 rw[X6 (by omega),aac,Nat.add_sub_cancel' (by omega)]):A:=e
def z139{A:Prop} (e:A:=by
 exact fin (ku h2 h3) h1 h4 h5):A:=e
def JC{A:Prop} (e:A:=by
 simp only[stepT,ni,po];cases val ts x with
 |func f a c=>cases f<;>rfl
 |_=>rfl):A:=e
def z141{A:Prop} (e:A:=by
 cases k2<;>first|trivial|exact absurd rfl hl):A:=e
def JB{A:Prop} (e:A:=by
 simp only[RV.bl,X3,Ys];exact .inl (.inl (.inr ⟨x,hx,hb⟩))):A:=e
def z143{A:Prop} (e:A:=by
 rcases X3.1 hx with hx|hx
 ·exact hs.a8.rows x hx
 ·exact hy.rows x hx):A:=e
def GB{A:Prop} (e:A:=by
 have:=hTl l.length (X8 _);simp;omega):A:=e
def z145{A:Prop} (e:A:=by
 exact cH.fin Sv (λz=>absurd z (by decide))):A:=e
def z146{A:Prop} (e:A:=by
 cases hs with
 |nil=>exact .nil
 |mk hN hb he=>exact .mk hN ((hk _ rfl).trans hb) he):A:=e
def JA{A:Prop} (e:A:=by
 rw[<-hS,ZC];rintro⟨y,hy,hy2⟩;rw[hsf y hy]at hy2;cases hy2):A:=e
def z148{A:Prop} (e:A:=by
 rw[XV,X6 (X8 _),YY];rfl):A:=e
def GA{A:Prop} (e:A:=by
 exact cH.fin s (λz=>absurd z (by decide))):A:=e
def Jz{A:Prop} (e:A:=by
 rw[YP _ _ (X8 _),YY,XV];rfl):A:=e
def Jy{A:Prop} (e:A:=by
 simp only[RV.bl,X3,Ys];exact .inl (.inr ⟨x,hx,hb⟩)):A:=e
def z152{A:Prop} (e:A:=by
 simp only[Yj]at hc;obtain⟨f,_,rfl⟩:=hc;exact hs.elim):A:=e
def Jx{A:Prop} (e:A:=by
 rw[fJ,<-jx.e,YC,XY hsl];rfl):A:=e
def z154{A:Prop} (e:A:=by
 rw[fJ,<-hy1,YC,XY hlt];rfl):A:=e
def Jw{A:Prop} (e:A:=by
 rw[YF,XY hlt,ga,List.foldl_append];rfl):A:=e
def z156{A:Prop} (e:A:=by
 rw[X6 hN,Yd (by simp at hbl;omega)]):A:=e
def z157{A:Prop} (e:A:=by
 rw[hh]at hi;refine Rs (A5 @t2 @t3 @t5 @t6 @hi) ?_;exact⟨U5.trans Xx,rfl⟩):A:=e
def Gz{A:Prop} (e:A:=by
 rw[em];exact w.n3.add (gn 0 (by decide)) f0):A:=e
def z159{A:Prop} (e:A:=by
 rw[XV (h++[ak.bo (lH ds vf)]) g];exact K _ _ (s.put g1 hc)):A:=e
def z160{A:Prop} (e:A:=by
 cases SM:o.k<;>rw[SM]at hk<;>first|(cases hk;done)|simp[mI,SM]):A:=e
def Jv{A:Prop} (e:A:=by
 rw[hy1];unfold jO at hb;split at hb
 ·cases hb
 split at hb
 ·cases hb
 omega):A:=e
def z162{A:Prop} (e:A:=by
 rw[YG];exact propext ⟨λz=>by omega,λz=>by omega⟩):A:=e
def Ju{A:Prop} (e:A:=by
 cases ok
 ·exact Ua
 ·exact⟨_,rfl,_,_,rfl,Ua,_,_,rfl,rfl,rfl⟩):A:=e
def z164{A:Prop} (e:A:=by
 exact⟨hone,v,by rw[Wi _ (by omega)];exact hv,VR.mono Tu _ _ QT⟩):A:=e
def Jt{A:Prop} (e:A:=by
 rw[<-nS];exact hF.aB λj hj=>ne j (by have:=hlo j hj;omega)):A:=e
def Js{A:Prop} (e:A:=by
 simp only[RV.bl,X3,Ys];exact .inr ⟨x,hx,hb⟩):A:=e
def z167{A:Prop} (e:A:=by
 rw[XS,Y6,Y6];omega):A:=e
def z168{A:Prop} (e:A:=by
 rw[X5 hbb]at ht;exact ht):A:=e
def Jr{A:Prop} (e:A:=by
 subst hn;exact .of hmix hA (H (aU A.nt [a0,a1,a2]) hl rfl rfl rfl)):A:=e
def Jq{A:Prop} (e:A:=by
 simp only[XS,XX,X1];omega):A:=e
def z171{A:Prop} (e:A:=by
 rw[X2];exact YI (Yu _ _) w.l2):A:=e
def Jp{A:Prop} (e:A:=by
 obtain⟨cv',m',rfl,h1,h2,h3⟩:=he;exact hn cv' m' w'' h1 h2 h3):A:=e
def z173{A:Prop} (e:A:=by
 exact⟨s.length-(k+1),by omega,k+1,by omega,rfl,rfl,rfl⟩):A:=e
def Da{A:Prop} (e:A:=by
 exact dl (by omega) (by omega)):A:=e
def z175{A:Prop} (e:A:=by
 simp only[FQ,FA,Ex.leaves,aav];cases cT rs ts h<;>simp):A:=e
def Gy{A:Prop} (e:A:=by
 rw[this];exact List.set_getElem_self _):A:=e
def Jo{A:Prop} (e:A:=by
 rename_i hu;rw[hu]at Uf;cases Uf;cases hf;exact hone rfl rfl hu):A:=e
def Jn{A:Prop} (e:A:=by
 rw[R9];exact cH.fin s5 (λ_=>by simp only[dz,sp,hp];rfl)):A:=e
def Jm{A:Prop} (e:A:=by
 refine⟨_,by omega,k+1,by omega,rfl,Vp.trans Xx,hu,rfl⟩):A:=e
def Jl{A:Prop} (e:A:=by
 refine⟨_,by omega,k+1,by omega,rfl,SZ.trans Xx,hu,rfl⟩):A:=e
def Jk{A:Prop} (e:A:=by
 have:=hlate j oj hj hk hjf (by omega);rw[SN]at this;cases this):A:=e
def z182{A:Prop} (e:A:=by
 simp only[WR,iH.app,YK,false_implies,aav]):A:=e
def z183{A:Prop} (e:A:=by
 refine⟨_,by omega,k+1,by omega,rfl,hx.trans Xx,hu,rfl⟩):A:=e
def Gx{A:Prop} (e:A:=by
 subst e1;rw[RU]at SN;cases SN):A:=e
def Jj{A:Prop} (e:A:=by
 rw[beq_eq_false_iff_ne];rintro rfl;exact absurd hc.1 (by decide)):A:=e
def Ji{A:Prop} (e:A:=by
 refine Rs (A3 @t0 @t1 @eX) ?_;exact⟨g',V',rfl,h1,h2⟩):A:=e
def Jh{A:Prop} (e:A:=by
 exact⟨_,by omega,k+1,by omega,rfl,hx.trans Xx,hi,rfl⟩):A:=e
def Jg{A:Prop} (e:A:=by
 simp only[stepT,ni];cases ez op (val ts x) (val ts y)<;>rfl):A:=e
def Jf{A:Prop} (e:A:=by
 simp only[RV.bl,l1,l2,e2,XV,Zg]):A:=e
def Je{A:Prop} (e:A:=by
 subst hn;exact .of hmix hA (H (aU A.nt [a0,a1]) hl rfl rfl)):A:=e
def Jd{A:Prop} (e:A:=by
 subst h3;exact⟨cv,w,m,h1,h2,hr,Grow.refl m _ w hr.cN⟩):A:=e
def Jc{A:Prop} (e:A:=by
 refine .run hw (by rw[hk];trivial) ?_;rw[hk];exact nK hs):A:=e
def z193{A:Prop} (e:A:=by
 exact⟨_,_,rfl,.inr ⟨H7 hlt (by omega),by omega⟩⟩):A:=e
def z194{A:Prop} (e:A:=by
 exact⟨_,[],rfl,⟨.nil,λx hx=>by cases hx⟩,rfl⟩):A:=e
def Gw{A:Prop} (e:A:=by
 exact(bad (by rw[R2];rfl) Xx).2):A:=e
def z196{A:Prop} (e:A:=by
 simp only[aaa,YK,Yb];omega):A:=e
def Jb{A:Prop} (e:A:=by
 exact lC (by rw[hTl];exact M.size) (VR.mono h1 _ _ hv)):A:=e
def z198{A:Prop} (e:A:=by
 rw[X5 SO];simp only[aak (Zk SO)]):A:=e
def Ja{A:Prop} (e:A:=by
 cases k<;>first|exact H|exact absurd ⟨_,_,rfl⟩ hc):A:=e
def I9{A:Prop} (e:A:=by
 simp only[XS,Yn];omega):A:=e
def z201{A:Prop} (e:A:=by
 rw[bD]at hl;subst hl;cases hf;exact⟨cx,rfl,hx⟩):A:=e
def I8{A:Prop} (e:A:=by
 have:c=[]:=YW.1 h;subst this;rfl):A:=e
end Go.Abs
