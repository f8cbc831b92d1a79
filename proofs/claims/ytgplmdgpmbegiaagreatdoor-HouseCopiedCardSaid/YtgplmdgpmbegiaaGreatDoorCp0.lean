/- Ends of proofs that stand in more than one place. No condition. -/
import Derived.Tactics
set_option linter.all false
namespace Go.Abs
def YP:=@List.length_append
def YQ:=@List.getElem?_eq_some_iff
def YR:=@List.append_assoc
def YS:=@decide_eq_false
def YT:=@List.getElem?_append_left
def YU:=@List.getElem?_eq_getElem
def YV:=@List.length_cons
def YW:=@decide_eq_true
def YX:=@List.length_nil
def YY:=@List.length_map
def YZ:=@List.mem_append
def Y5:=@List.map_append
def Y6:=@if_neg
def Y7:=@List.getElem?_append_right
def Y8:=@Result.andThen_ok
def Y9:=@Nat.le_refl
def Za:=@List.getElem_mem
def Zb:=@if_pos
def Zc:=@List.getElem?_set_ne
def Zd:=@List.getElem?_set_self
def Ze:=@Array.getElem?_eq_some_iff
def Zf:=@if_false
def Zg:=@Bool.not_true
def Zh:=@run_underlying
def Zi:=@if_true
def Zj:=@Sem.run_bind
def Zk:=@Option.map_eq_some_iff
def Zl:=@decide_true
def Zm:=@List.mem_singleton
def Zo:=@List.mem_map_of_mem
def Zp:=@List.length_singleton
def Zq:=@Bool.not_false
def Zr:=@List.append_nil
def Zt:=@decide_false
def Zu:=@Option.some.injEq
def Zv:=@List.mem_map
def Zw:=@Nat.zero_le
def Zx:=@Bool.and_eq_true
def Zy:=@List.all_eq_true
def Zz:=@congrArg
def ZA:=@List.take_length
def ZB:=@Sem.run_pure
def ZC:=@List.mem_cons
def ZD:=@List.length_filter_le
def ZE:=@List.take_of_length_le
def ZF:=@List.take_add_one
def ZG:=@List.mem_cons_of_mem
def ZH:=@List.getD_eq_getElem?_getD
def ZI:=@List.length_set
def ZJ:=@decide_eq_true_eq
def ZK:=@Array.getD_eq_getD_getElem?
def ZL:=@Nat.le_trans
def ZM:=@Bool.false_eq_true
def ZN:=@Nat.zero_add
def ZO:=@Array.getElem?_eq_getElem
def ZP:=@List.map_cons
def ZQ:=@Nat.lt_of_lt_of_le
def ZR:=@List.length_take
def ZS:=@List.mem_cons_self
def ZT:=@List.mem_of_getElem?
def ZU:=@Option.some.inj
def ZV:=@List.set_append_right
def ZW:=@List.mem_of_mem_take
def ZX:=@List.drop_length
def ZY:=@List.not_mem_nil
def ZZ:=@List.length_eq_zero_iff
def Z0:=@List.pairwise_cons
def Z1:=@Option.bind_eq_some_iff
def Z2:=@Nat.sub_self
def Z3:=@Nat.mul_le_mul_right
def Z4:=@List.length_replicate
def Z5:=@List.cons_append
def Z6:=@List.getElem_map
def Z7:=@List.getElem?_cons_zero
def Z8:=@List.mem_range
def Z9:=@List.flatten_cons
def aaa:=@List.mem_filter
def aab:=@List.pairwise_append
def aac:=@List.getElem?_map
def aad:=@of_decide_eq_true
def aae:=@Array.getElem?_setIfInBounds_self_of_lt
def aaf:=@Nat.succ_mul
def aag:=@List.drop_zero
def aah:=@List.take_append_drop
def aai:=@List.getElem?_cons_succ
def aaj:=@List.any_eq_true
def aak:=@Bool.not_eq_true'
def aal:=@List.getLastD_eq_getLast?
def aam:=@Ne.symm
def aan:=@List.filter_append
def aao:=@Bool.true_and
def aap:=@Array.getElem?_toList
def aaq:=@List.getElem?_toArray
def aar:=@eq_false
def aas:=@Array.getElem?_eq_none
def aat:=@List.drop_drop
def aau:=@List.all_cons
def aav:=@List.replicate_succ
def aaw:=@Decidable.not_not
def aax:=@List.pairwise_singleton
def aay:=@or_false
def aaz:=@List.nil_append
def aaA:=@List.map_map
def aaB:=@Array.getElem?_setIfInBounds_ne
def aaC:=@List.flatten_append
def aaD:=@List.drop_eq_getElem_cons
def aaE:=@List.mem_or_eq_of_mem_set
def aaF:=@List.map_nil
def aaG:=@Bool.or_eq_true
def aaH:=@List.filter_cons
def aaI:=@decide_eq_decide
def aaJ:=@decide_eq_false_iff_not
def aaK:=@List.append_cancel_left
def aaL:=@Nat.min_eq_left
def aaM:=@List.filter_map
def aaN:=@List.take_succ_cons
def aaO:=@Option.map_some
def aaP:=@List.length_reverse
def aaQ:=@List.length_pos_iff
def aaR:=@List.getElem?_eq_none
def aaS:=@Nat.le_of_lt
def aaT:=@List.getElem_set_self
def aaU:=@Bool.false_ne_true
def aaV:=@Bool.false_and
def aaW:=@List.flatten_replicate_singleton
def aaX:=@List.filter_nil
def aaY:=@List.getElem?_take_of_lt
def aaZ:=@Nat.zero_mul
def aa0:=@List.map_set
def aa1:=@List.getElem_of_mem
def aa2:=@Option.bind_eq_bind
def aa3:=@Nat.mul_one
def aa4:=@Array.length_toList
def aa5:=@Bool.false_or
def aa6:=@Option.getD_some
def aa7:=@List.length_drop
def aa8:=@List.findIdx?_cons
def aa9:=@List.getElem?_drop
def aba:=@Nat.add_mul
def abb:=@Option.map_none
def abc:=@Prod.mk.injEq
def abd:=@List.ext_getElem?
def abe:=@Function.comp_def
def abf:=@List.any_cons
def abg:=@List.mem_of_getLast?
def abh:=@List.mapM_cons
def abi:=@List.getElem_set_ne
def abj:=@List.replicate_zero
def abk:=@Array.ext'
def abl:=@Nat.add_zero
def abm:=@List.find?_some
def abn:=@Option.pure_def
def abo:=@List.foldl_cons
def abp:=@List.nodup_cons
def abq:=@Eq.trans
def abr:=@Nat.le_succ
def abt:=@true_and
def abu:=@eq_true
abbrev By:=List UInt8
def Tv:True:=trivial
def Om{A:Prop}(e:A:=by omega):A:=e
def De{A:Prop}(e:A:=by decide):A:=e
def Si{A:Prop}(e:A:=by simp):A:=e
def z1{A:Prop} (e:A:=by
 refine Ws hs.aJ ?_;refine WL.inv T.mix (λn ts h'=>∃k:Nat,k<=L.length/\n=L.length-k/\Ext h h'/\L.findIdx? p=((L.drop k).findIdx? p).map (· +k)/\ts.length=19/\slot ts 0=s/\slot ts 1=f/\slot ts 7=.i L.length/\slot ts 8=.i k) L.length
  ⟨0,by omega,rfl,Ext.refl h,by simp,rfl,rfl,rfl,rfl,rfl⟩ ?_
 rintro _ ts _ ⟨k,hk,rfl,⟨g,rfl⟩,hi,hlen,t0,t1,t7,t8⟩;rw[k8 ts 19 hlen];by_cases hlt:k<L.length
 ·have hd:L.drop k=L[k]::L.drop (k+1):=by simp
  have e3:(k:Int)<L.length:=by omega
  simp only[aQ,aT,bo,bp,Nat.reduceAdd,Nat.reduceMul,Nat.reduceLeDiff,Nat.reduceEqDiff,t0,t1,t7,t8,e3,Zl,hs.dG hlt,hs.jD hlt];refine WF.val (hf L[k] (by simp) _ ⟨g,rfl⟩) ?_;rintro _ g1 rfl;cases hp:p L[k]with
  |true=>
   refine Ws @t8 ?_;rw[cT,hi,hd,aa8,hp];simp
  |false=>
   refine Ws (A2 @t8 (wrapN (show k+1<2^63 by omega))) ?_;refine⟨_,?_,k+1,by omega,rfl,?_,rfl⟩
   ·omega
   ·rw[hi,hd,aa8,hp];simp only[ZM,Zf,Option.map_map];congr 1;funext i;simp only[Function.comp];omega
 ·have e3:¬(k:Int)<L.length:=by omega
  have e4:k=L.length:=by omega
  refine Ws (A6 @t0 @t1 @t7 @t8 @e3 @Zt) ?_;rw[cT,hi,e4,ZX];rfl):A:=e
def z2{A:Prop} (e:A:=by
 rw[hrow]at hff;rw[hrow];refine Ws (A6 @t1 @t5 @t8 @t9 @t10 (wrapN (show k+1<2^63 by omega))) ?_;have hout:∀b,sB out=some b->b<(h++g).length:=λb hb=>(hfr.bN hb).2
 have hnew:∀b,sB s' =some b->(h++g).length<=b/\b<(h++g).length+(1+g1.length):=λb hb=>by
  have:=YE.bN hb;simp only[YP,YV,YX]at this ⊢;omega
 have hold:∀x∈L',∀b,sB x.2=some b->b<(h++g).length/\sB out≠some b:=λx hx b hb=>by
  refine⟨((hin x hx).bN hb).2,λe=>?_⟩;exact(Z0.1 SC).1 _ (Zo hx) b e hb
 refine⟨_,?_,k+1,_,L'++[(L[k].1,s')],by omega,rfl,?_,hff,?_,?_,rfl,rfl⟩
 ·omega
 ·rw[Y5,hm,ZF,YU hlt,Y5];rfl
 ·intro x hx;rcases YZ.1 hx with hx|hx
  ·refine((((hin x hx).app _).app _).app _).aD λb hb=>hkp b ?_ λb0 o n e hso=>?_
   ·have:=(hold x hx b hb).1;simp only[YP]at this ⊢;omega
   ·intro e;subst e;exact(hold x hx b hb).2 (by rw[hso];rfl)
  ·rw[Zm]at hx;subst hx;refine Fr.low (N:=(h++g++[ak.cells [] true true]).length) ?_ (by simp only[YP];omega);refine Fr.aD (h:=_) ((YE.app _).low ?_) λb hb=>hkp b ?_ λb0 o n e hso=>?_
   ·simp
   ·have:=hnew b hb;simp only[YP,YV,YX]at this ⊢;omega
   ·intro e;subst e;have h1:=hout b (by rw[hso];rfl);have h2:=(hnew b hb).1;omega
 ·have em:(L'++[(L[k].1,s')]).map (λx=>sB x.2)=(L'.map λx=>sB x.2)++[sB s']:=by rw[Y5];rfl
  rw[em];refine Z0.2 ⟨?_,aab.2 ⟨(Z0.1 SC).2,aax _ _,?_⟩⟩
  ·intro y hy b hb UE;cases hb;rcases YZ.1 hy with hy|hy
   ·obtain⟨x,hx,rfl⟩:=Zv.1 hy;have:=(hold x hx _ UE).1;simp only[YP]at this;omega
   ·rw[Zm]at hy;rw[hy]at UE;have:=(hnew _ UE).2;simp only[YP,YV,YX]at this;omega
  ·intro y hy z hz b hb hzb;obtain⟨x,hx,rfl⟩:=Zv.1 hy;rw[Zm]at hz;rw[hz]at hzb;have h1:=(hold x hx _ hb).1;have h2:=(hnew _ hzb).1;omega):A:=e
def z3{A:Prop} (e:A:=by
 obtain⟨V2,rfl,sb,K1⟩:=fin hv;refine Rs (A4 @t3 @t4 @t7 @sb) ?_;refine K1 _ ?_ ?_ ?_ ?_ ?_
 ·simp only[bz,hlen]
 ·exact Zs @t3 trivial
 ·exact Zs @t4 trivial
 ·exact Zs @t7 trivial
 ·exact Zn trivial):A:=e
def z4{A:Prop} (e:A:=by
 refine WF.val (hvk _ (by repeat first|exact Ext.refl _|refine Ext.app _ ?_)) ?_;rintro _ g1 rfl;refine Wn ?_;refine WR.fG (h0:=h) (cs:=((L.take k).map F).map ao) (ys:=[ao (F L[k])]) ((((hfr.app _).app _).app _)) (Fr.push (N:=0) (Zw _) [ao (F L[k])] (by simp[ao])).ba (by decide) (by simp) (by simp;omega) (by simp only[sj]) ?_;intro g' RT hff hkp;have hrow:((L.take k).map F).map ao++[ao (F L[k])]=((L.take (k+1)).map F).map ao:=by rw[ZF,YU hlt,Y5,Y5];rfl
 rw[hrow]at hff;rw[hrow];refine Ws (A6 @t1 @t5 @t8 @t9 @t10 (wrapN (show k+1<2^63 by omega))) ?_;refine⟨_,?_,k+1,_,by omega,rfl,hff,rfl,rfl⟩;omega):A:=e
def z5{A:Prop} (e:A:=by
 have e3:¬(k:Int)<L.length:=by omega
 have e4:k=L.length:=by omega
 refine Ws (A7 @t1 @t5 @t8 @t9 @t10 @e3 @Zt) ?_;rw[e4,ZA]at hfr;exact hfr):A:=e
def z6{A:Prop} (e:A:=by
 rw[hrow]at hff;rw[hrow];refine Ws (A6 @t1 @t5 @t8 @t9 @t10 (wrapN (show k+1<2^63 by omega))) ?_;refine⟨_,?_,k+1,_,by omega,rfl,hff,rfl,rfl⟩;omega):A:=e
def z7{A:Prop} (e:A:=by
 have SP:some i∈V.bl:=by rw[hd];exact jg hi
 refine hk i (hin i SP).2 (λe=>?_) (λe=>r.ne (e▸SP));obtain⟨h1,h2,h3⟩:=aab.1 SC;rcases hi with hi|hi
 ·exact h3 _ hi _ (by simp) i rfl e
 ·exact(Z0.1 h2).1 _ hi i e rfl):A:=e
def z8{A:Prop} (e:A:=by
 have hrow:V.aE.map aV++[aV (y,t)]=(V.aE++[(y,t)]).map aV:=by rw[Y5];rfl
 rw[hrow]at hff;rw[hrow];have hbl:=r.lt;have RY:sB V.s3≠some b:=λe=>r.ne (by rw[<-e];simp[RV.bl])
 have hk1:∀i,i<(B++g).length->sB V.s3≠some i->(B++g')[i]? =(B++g)[i]? :=λi hi hne=>by
  rw[hkp i (by simp only[YP]at hi ⊢;omega) (λb0 o n e he z=>hne (by rw[he,z];rfl))];exact(show Ext (B++g) _ from Xx).get hi
 have mB:(B++g')[b]? =some (.b V.row):=(hk1 b hbl RY).trans r.m;have UL:=λ(b' o n e:Nat)=>iO (i:=4) (v:=.slice b' o n e) mB rfl (by decide)
 refine Rs (A4 @t0 @t1 @UL @eZ) ?_;refine Gw r hff ?_ (λi hi=>by cases hi;exact .inr (by simp only[YP];omega)) hk1 ?_ ?_
 ·refine Fr.low (N:=(B++g).length) ((show Fr (B++g).length _ t 1 _ from SL.app _).aD λi hi=>hkp i ?_ (λb0 o n e he z=>?_)) (by simp)
  ·have:=(SL.bN hi).2;simp only[YP]at this ⊢;omega
  ·have h1:=(SL.bN hi).1;have h2:=(r.o.i3.bN (show sB V.s3=some i by rw[he,z];rfl)).2;omega
 ·intro i hi;have h1:=SL.bN hi;refine⟨h1.1,λe=>?_⟩;cases e;have:=h1.2;simp only[YP,YV,YX]at this;omega
 ·rw[hy];simp[RV.an,dq]):A:=e
def z9{A:Prop} (e:A:=by
 rcases hn i hi with hn|hn
 ·exact .inl hn
 ·refine .inr ⟨λy hy e=>?_,λy hy e=>?_⟩
  ·subst e;have:=(hin i (by rw[hd];exact jg (.inl hy))).2;omega
  ·subst e;have:=(hin i (by rw[hd];exact jg (.inr hy))).2;omega):A:=e
def NH{A:Prop} (e:A:=by
 refine⟨own,r.hN,hm,λhb=>?_⟩;have hbl:=r.lt;have T4:=r.ne;rw[hd]at T4;by_cases hsb:sB s=some b
 ·rcases hn b hsb with z|z
  ·exact T4 (by rw[z];simp)
  ·omega
 ·by_cases htb:sB t=some b
  ·have:=(hnt b htb).1;omega
  ·have TK:some b≠sB s:=λz=>hsb z.symm
   have htb':some b≠sB t:=λz=>htb z.symm
   simp only[RV.bl,Y5,ZP,aaF,YZ,ZC,ZY,aay]at hb;simp only[YZ,ZC,ZY,aay]at T4
   grind):A:=e
def Jq{A:Prop} (e:A:=by
 rw[hkp i (by simp only[YP]at hi ⊢;omega) (λb0 o n e he z=>hne (by rw[he,z];rfl))];exact(show Ext (B++g) _ from Xx).get hi):A:=e
def z12{A:Prop} (e:A:=by
 by_cases hex:∃(x:Nat) (ox:bI),l[x]? =some ox/\listed.getD x false=true/\ox.dst=some t
 ·obtain⟨x,ox,hx,hxl,U4⟩:=hex;obtain⟨oo,Ul,Vk⟩:=SV x ox t hx U4;have hxi:x<i:=by
   by_cases e1:x=i
   ·subst e1;rw[Ss]at hxl;cases hxl
   ·by_cases e2:x<i
    ·exact e2
    ·have e3:=(cO hsl (show i<x by omega) ho Ul).2 t Vk ht;have e4:=hcl x i hxl hin e3;rw[Ss]at e4;cases e4
  rw[RX (x+1) i t (by omega) (by omega) (λk o' a2 a3 a4 a5=>by have:=huniq x k ox o' t hx a4 U4 a5;omega)];exact h2 t x ox hx hxl U4
 ·rw[RX 0 i t (by omega) (by omega) (λk o' e2 e3 e4 e5=>by
   obtain⟨oo,Ul,Sh⟩:=SV k o' t e4 e5;have h6:=((cO hsl e3 Ul ho).1 t Sh).2 ht;exact hex ⟨k,o',e4,hahead k (Ze.1 Ul).1 h6,e5⟩)]
  exact h1 t λj oj hj hl Sh=>hex ⟨j,oj,hj,hl,Sh⟩):A:=e
def QV{A:Prop} (e:A:=by
 repeat (first|simp (config:={maxSteps:=1000000}) only[aQ,aT,bo,bp,Nat.reduceAdd,Nat.reduceMul,Nat.reduceLeDiff,Nat.reduceEqDiff,bz,hlen,Zf,Zi,t2,t3,t4,le,lr,bj,aI,aY,aF,RM,gU,reduceCtorEq,Zt,Zl,gh,j1,f1,ix,l2,oJ.aJ,e2,iy,lv,e3,sb,gm]|simp (config:={maxSteps:=1000000}) (disch:=first|(simp only[YP,YV,YX]<;>omega)|rfl|omega|fail) only[fc,aQ,aT,bo,bp,Nat.reduceAdd,Nat.reduceMul,Nat.reduceLeDiff,Nat.reduceEqDiff,bz,hlen,Zf,Zi,t2,t3,t4,le,lr,bj,aI,aY,aF,RM,gU,reduceCtorEq,Zt,Zl,gh,j1,f1,ix,l2,oJ.aJ,e2,iy,lv,e3,sb,gm])
 rw[bC,Y6 (λz=>z hct),Zb h3];exact cE.fin Sa (λz=>absurd z (by decide))):A:=e
def AQ{A:Prop} (e:A:=by
 exact⟨by simp[Op.equalIn,Zh hu],λl=>by simp,by simp,rfl,rfl⟩):A:=e
def QU{A:Prop} (e:A:=by
 have hlt:=(YQ.1 hx).1;have Sk:t<a1.tmps.size:=by have:=hTl l.length (Y9 _);omega
 have ex:(T l.length).getD t az=x:=by simp[List.getD,hx]
 have ey:a1.tmps.getD t undef=a1.tmps[t]:=by simp[ZK,ZO Sk]
 refine⟨a1.tmps[t],by simp,?_⟩;rw[<-ex,<-ey];by_cases hw:∃(j:Nat) (o:bI),l[j]? =some o/\o.dst=some t
 ·obtain⟨j,o,hj,ho⟩:=hw;have T6:=(YQ.1 hj).1;rw[RX (j+1) l.length t (by omega) (Y9 _) (λk o' a2 a3 a4 a5=>by have:=huniq j k o o' t hj a4 ho a5;omega)];exact h2 t j o hj (hall j (by omega)) ho
 ·rw[RX 0 l.length t (by omega) (Y9 _) (λk o' _ _ h4 h5=>hw ⟨k,o',h4,h5⟩)];exact h1 t λj o hj _ ho=>hw ⟨j,o,hj,ho⟩):A:=e
def QT{A:Prop} (e:A:=by
 cases x with
 |agg l=>cases hx
 |dM l=>cases hx
 |bool b=>rw[VR]at h;subst h;rfl
 |int k n=>rw[VR]at h;subst h;rfl
 |wR k b=>rw[VR]at h;obtain⟨_,rfl,_⟩:=h;rfl
 |wy k x y=>rw[VR]at h;obtain⟨_,_,rfl,_⟩:=h;rfl
 |str s=>rw[VR]at h;subst h;rfl
 |ptr b o=>rw[VR]at h;obtain⟨_,_,rfl⟩:=h;rfl
 |nilPtr=>rw[VR]at h;subst h;rfl
 |slice b o n e=>rw[VR]at h;obtain⟨_,_,_,_,rfl,_⟩:=h;rfl
 |af=>rw[VR]at h;subst h;rfl
 |map r=>rw[VR]at h;obtain⟨_,_,rfl⟩:=h;rfl
 |db=>rw[VR]at h;subst h;rfl
 |func f a c=>rw[VR]at h;obtain⟨_,_,_,rfl,_⟩:=h;rfl
 |nilFunc=>rw[VR]at h;subst h;rfl
 |uM u a=>rw[VR]at h;obtain⟨_,rfl,_⟩:=h;rfl
 |kE=>cases hx):A:=e
def QS{A:Prop} (e:A:=by
 simp only[ZM,Zf,Option.map_map];congr 1;funext i;simp only[Function.comp];omega):A:=e
def Jp{A:Prop} (e:A:=by
 obtain⟨h1,h2,h3⟩:=s.kl i hi;rw[g2 i h2,hk i (ZQ h1 s.ln) (λz=>h3 (by rw[<-z];simp[RV.bl]))];exact s.kp i hi):A:=e
def Jo{A:Prop} (e:A:=by
 simp only[RV.bl,Y5,ZP,aaF,YZ,ZC,List.mem_nil_iff,aay]at h ⊢
 grind):A:=e
def z20{A:Prop} (e:A:=by
 have hX:Ext X (X++[.b V.row]++[.b x.row]++[.b kT]):=Xx;have ho:cH B.length (X++[.b V.row]++[.b x.row]++[.b kT]) V:=o.au λi hi=>hX.get (o.dR hi).2
 refine⟨⟨ho,hx.len,by simp,λhi=>by have:=(o.dR hi).2;omega⟩,hx.trans hX,Y9 _,λ_ _=>rfl,λi hi=>?_⟩;simp only[YP,YV,YX];rcases hi with⟨h1,h2⟩|h1|h1
 ·exact⟨by omega,by omega,h2⟩
 ·exact⟨by omega,by omega,λz=>by have:=(o.dR z).2;omega⟩
 ·exact⟨by omega,by omega,λz=>by have:=(o.dR z).2;omega⟩):A:=e
def z21{A:Prop} (e:A:=by
 split at hk
 case isFalse=>cases hk
 rename_i hg;cases Sg:flat P 20 t with
 |none=>simp[Sg]at hk
 |some ks=>
  simp[Sg]at hk;subst hk;have hb':y7 ks (ρ x) (ρ y)=some b:=hb;unfold y7 at hb';split at hb'
  case h_2=>cases hb'
  rename_i xs ys hxa Ts;rw[hxa]at hx;rw[Ts]at hy;obtain⟨lx,rfl,UH⟩:=hx;obtain⟨ly,rfl,UG⟩:=hy;split at hb'
  case isFalse=>cases hb'
  rename_i hlen;refine fin (wq hg) ?_ rfl rfl;exact BI 20 t ks Sg 10000 (by omega) _ hu xs ys lx ly b hlen.1 hlen.2 UH UG hb' w):A:=e
def Ba{A:Prop} (e:A:=by
 simp only[compile]at hc
 (repeat' split at hc)
 all_goals cases hc):A:=e
def M9{A:Prop} (e:A:=by
 have:∀n,qM (Array.replicate ops.size false) n<=n:=by
  intro n
  induction n with
  |zero=>exact Y9 _
  |succ n ihn=>simp only[qM];split<;>omega
 exact this _):A:=e
def z24{A:Prop} (e:A:=by
 cases hk;exact eU.nG hr (Ge (w:=w) (ox:=x) (oy:=y) hk0 hx hy hs) (λcv h=>by simp only[execOp,ho];rw[Zj,h];rfl)):A:=e
def NG{A:Prop} (e:A:=by
 rcases hs.OO with⟨rfl,rfl⟩|hq
 ·refine Ws @B9 ?_;exact .nil
 ·refine Ws @hq ?_;refine WR.ql (N:=h.length) a8 (Y9 _) (hs.ext (by repeat first|exact Ext.refl _|refine Ext.app _ ?_)) (by omega) λs' g hf=>?_
  refine Wn ?_;exact hf):A:=e
def NF{A:Prop} (e:A:=by
 obtain⟨xi,a1,a2⟩:=SV i oi d hi h1;obtain⟨xj,b1,b2⟩:=SV j oj d hj h2;by_cases hlt:i<j
 ·exact absurd b2 ((cO hsl hlt a1 b1).1 d a2).1
 ·by_cases UX:j<i
  ·exact absurd a2 ((cO hsl UX b1 a1).1 d b2).1
  ·omega):A:=e
def ND{A:Prop} (e:A:=by
 show 0+0+nc*i.size<=(vo++vn).length+rest.length;rw[YP,SN,SB,Yi,S2];have e1:nc*i.size=(n+k)*i.size+(nc-(n+k))*i.size:=by rw[<-aba];congr 1;omega
 rw[aba]at e1;simp;omega):A:=e
def z28{A:Prop} (e:A:=by
 rw[e]at hb;by_cases hsb:sB s=some b
 ·rcases hn b hsb with z|z
  ·exact T4 (by rw[z];simp)
  ·omega
 ·rcases vH hb with z|z|z
  ·exact T4 (jg (.inl z))
  ·exact hsb z.symm
  ·exact T4 (jg (.inr z))):A:=e
def NC{A:Prop} (e:A:=by
 have hlt:j<ops.size:=by have:=(YQ.1 hj).1;omega
 have ho:ops[j]? =some ops[j]:=ZO hlt;obtain⟨io',h1,h2⟩:=RP j ops[j] (by simp);rw[hj]at h1;cases h1;exact⟨_,ho,h2⟩):A:=e
def QR{A:Prop} (e:A:=by
 have hsh:U.an.aj=V.an.aj.map (fO a z):=by
  refine List.ext_getElem (by simp[RV.an,TF]) λi h1 h2=>?_
  have hi:i<U.aj.length:=by simpa [RV.an]using h1
  have:=hU i hi (by omega);rw[Zb (by omega)]at this
  simpa [RV.an]using this
 have heq:∀A C:eM,{A with aj:=C.aj} =C->A={C with aj:=A.aj}:=by
  intro A C h;cases A;cases C;simp_all
 have:=heq _ _ hreg;rw[this,hsh,dq,ha,hz]):A:=e
def z31{A:Prop} (e:A:=by
 refine⟨(fn.aD λj hj=>kp j (ln j hj).2 λe=>?_).low (by simp only[YP];omega),(fv.aD λj hj=>kp j (lv j hj).2 λe=>?_).low (by simp only[YP];omega),λj hj e=>?_,λj hj e=>?_⟩
 ·have h1:=(ln j hj).1;have h2:=hout j e;omega
 ·have h1:=(lv j hj).1;have h2:=hout j e;omega
 ·have h1:=(ln j hj).2;have h2:=Um j e;omega
 ·have h1:=(lv j hj).2;have h2:=Um j e;omega):A:=e
def QQ{A:Prop} (e:A:=by
 by_cases hxy:x<=y
 ·have:=UB x (y-x) (by omega) (λj o h1 h2 h3=>by
   cases hk:cD o.k with
   |true=>rfl
   |false=>have:=hno j o h3 hk;omega)
  rw[show x+(y-x)=y from by omega]at this;exact this.symm
 ·have:=UB y (x-y) (by omega) (λj o h1 h2 h3=>by
   cases hk:cD o.k with
   |true=>rfl
   |false=>have:=hno j o h3 hk;omega)
  rw[show y+(x-y)=x from by omega]at this;exact this):A:=e
def NB{A:Prop} (e:A:=by
 subst e;by_cases hsi:sB s=some i
 ·exact n2 hsi
 ·have:=(hin i (by rw[hd];simp only[YZ,ZC,ZY,aay]at hy ⊢;have hsi':some i≠sB s:=λz=>hsi z.symm;grind)).2;omega):A:=e
def M8{A:Prop} (e:A:=by
 obtain⟨e,he,hb,hor⟩:=(om hed ho).2 x hx ha;have hle:=WY e he hb;rcases hor with rfl|hor
 ·exact hle
 ·exact hcl e.on x hle hx hor):A:=e
def QP{A:Prop} (e:A:=by
 simp only[RI]at hc;split at hc
 case h_2=>cases hc
 rename_i kt e x' i' y' hu RN hi' hy';simp only[Zk]at hc;obtain⟨kk,hkk,rfl⟩:=hc;obtain⟨w',h1,rfl,h2,h3⟩:=Hr (w:=w) hu hkk hr (hρ x (by simp[RI,Op.operands]) x' RN) (hρ i (by simp[RI,Op.operands]) i' hi') (hρ y (by simp[RI,Op.operands]) y' hy') hs;exact⟨undef,w',m,.inr ⟨by simp[execOp,RI,h1],rfl⟩,jV m,h2,h3⟩):A:=e
def NA{A:Prop} (e:A:=by
 rw[hp,Y6 (by decide),Zr]at R4;refine Ws (A6 @t1 @t5 @t8 @t9 @t10 (wrapN (show k+1<2^63 by omega))) ?_;refine⟨_,?_,k+1,out,by omega,rfl,by rw[R4];exact(hfr.app _).app _,rfl,rfl⟩;omega):A:=e
def z37{A:Prop} (e:A:=by
 have h1:=SL.bN hi;refine⟨h1.1,λe=>?_⟩;cases e;have:=h1.2;simp only[YP,YV,YX]at this;omega):A:=e
def QO{A:Prop} (e:A:=by
 rcases RW b1 e1 h1 with⟨rfl,rfl⟩|⟨WN,Ty⟩
 ·rcases RW b2 e2 h2 with⟨rfl,rfl⟩|⟨hl2,We⟩
  ·exact absurd rfl hne
  ·exact absurd hcb.symm (hout b2 e2 We)
 ·rcases RW b2 e2 h2 with⟨rfl,rfl⟩|⟨hl2,We⟩
  ·exact absurd hcb (hout b1 e1 Ty)
  ·rw[YT WN]at hk1;rw[YT hl2]at RJ;exact hr.sep b1 b2 e1 e2 k1 k2 hne Ty We hk1 RJ hcb):A:=e
def M7{A:Prop} (e:A:=by
 rw[c6 (by omega)]at hj ⊢;split
 ·rfl
 ·split at hj
  ·rename_i hji;subst hji;exact hahead x hx ha
  ·exact hcl j x hj hx ha):A:=e
def z40{A:Prop} (e:A:=by
 exact cE.fin Sa (λz=>absurd z (by decide))):A:=e
def Nz{A:Prop} (e:A:=by
 have e3:¬(k:Int)<L.length:=by omega
 have e4:k=L.length:=by omega
 refine Ws (A7 @t1 @t5 @t8 @t9 @t10 @e3 @Zt) ?_;rw[e4,ZA]at hm;exact⟨L',hm,hfr,hin,SC⟩):A:=e
def M6{A:Prop} (e:A:=by
 rw[hkp i (by simp only[YP];omega) (λb0 o n e he z=>hne (by rw[he,z];rfl))];exact YT hi):A:=e
def Ny{A:Prop} (e:A:=by
 exact(show Ext (B++g) _ from Xx).get hi):A:=e
def GX{A:Prop} (e:A:=by
 exact⟨_,by omega,k+1,_,by omega,rfl,hff,rfl,rfl⟩):A:=e
def Nx{A:Prop} (e:A:=by
 cases RH;rw[hv]at h1;have h1':=h1;obtain⟨f',a',c',h2,h3,_⟩:=h1;simp only[AP]at h3;subst h3;exact eU.same hr h1' (by simp[execOp,RI,h2])):A:=e
def z46{A:Prop} (e:A:=by
 simp only[YP,YV,YX]at this ⊢;omega):A:=e
def QN{A:Prop} (e:A:=by
 simp only[RI,Zk]at hc;obtain⟨x',RN,rfl⟩:=hc;have RH:dx (.cA x') ρ h=some (v,h'):=hs;simp only[dx,Zu,abc]at RH;obtain⟨rfl,rfl⟩:=RH;exact eU.same hr (hρ x (by simp[RI,Op.operands]) x' RN) (by simp[execOp,RI])):A:=e
def QM{A:Prop} (e:A:=by
 have:=uJ (T:=T) (t:=t) (a:=x) (y-x) (λj h1 h2=>by
  have hj:l[j]? =some (l[j]'(by omega)):=YU (by omega);obtain⟨v,hv⟩:=Tr j _ hj;exact⟨_,v,hv,hno j _ h1 (by omega) hj⟩)
 rwa [show x+(y-x)=y from by omega]at this):A:=e
def z49{A:Prop} (e:A:=by
 rename_i hm;cases h;rw[Zx,Zx]at hm;obtain⟨f,hf⟩:=Option.isSome_iff_exists.1 hm.1.2;have h1:=abm hf;rw[Zx]at h1;exact .inr (.inr ⟨l3,rfl,hq.2,⟨l,hl⟩,2,Yx,.inr ⟨f,h1.1,h1.2⟩,hm.2⟩)):A:=e
def QL{A:Prop} (e:A:=by
 refine⟨_,w',m',room VH hlen TZ (by simp only[VK];rw[gO];exact h0),⟨_,_,cap,h1,rfl,VH,λ_=>?_,?_⟩,h2,h3⟩
 ·rw[VK];simp only[Addr.mk.injEq,abt,and_true];omega
 ·show 0+(en.d+o)+cap*i.size<=en.sz;omega):A:=e
def z51{A:Prop} (e:A:=by
 have RH:S j=true:=by unfold mark at hs;rwa [Y6 hji]at hs
 rw[dD (huniq j o d hji hj ho)];refine VR.mono ?_ _ _ (M.yD d j o hj RH ho);intro b e hb;unfold b9.dJ at hb ⊢;split at hb
 ·rename_i hlt;rw[Zb hlt];exact Uh _ _ hb
 ·cases hb):A:=e
def QK{A:Prop} (e:A:=by
 have e2:(#[]++(⟨[.string ⟨⟨s⟩⟩,.int .u8 (c.toNat:Int)]⟩:Array Value)++#[])=#[]++#[.string ⟨⟨s⟩⟩,.int .u8 (c.toNat:Int)]++#[]:=rfl;simp only[e2,e',Result.andThen];exact⟨_,m,rfl,rfl,hr,Grow.refl m h w hr.cK⟩):A:=e
def z53{A:Prop} (e:A:=by
 cases hx:m h.length with
 |none=>rfl
 |some y=>exact absurd (hr.cK _ _ hx) (by omega)):A:=e
def Nw{A:Prop} (e:A:=by
 rw[R4,aan];simp only[aaH,aaX,hd,Zi,Y5,ZP,aaF]):A:=e
def QJ{A:Prop} (e:A:=by
 rw[a5 i hi (by omega),hU i (by omega) hi'];by_cases TO:i=k
 ·subst TO;rw[Zb rfl,Y6 (by omega),Zb (by omega)]
 ·rw[Y6 TO];by_cases hil:i<k
  ·rw[Zb hil,Zb (by omega)]
  ·rw[Y6 hil,Y6 (by omega)]):A:=e
def Jn{A:Prop} (e:A:=by
 subst z;rcases hb' i hi with z|z
 ·exact RY z
 ·omega):A:=e
def QI{A:Prop} (e:A:=by
 have hj:l[x+k]? =some (l[x+k]'(by omega)):=YU (by omega);rw[show x+(k+1)=x+k+1 from by omega,UA _ _ hj (hno _ _ (by omega) (by omega) hj)];exact ih (by omega) λj o h1 h2 h3=>hno j o h1 (by omega) h3):A:=e
def Jm{A:Prop} (e:A:=by
 subst z;rcases hn i hi with z|z
 ·exact RY z
 ·omega):A:=e
def z59{A:Prop} (e:A:=by
 obtain⟨v,hv⟩:=Tr j _ (YU (show j<l.length by omega));rw[hv,nf];exact ih (by omega)):A:=e
def QH{A:Prop} (e:A:=by
 split at hk
 case isFalse=>cases hk
 simp only[Zk]at hk;obtain⟨ks,_,rfl⟩:=hk;exact eU.nG hr (Ge (w:=w) (ox:=x) (oy:=y) hk0 hx hy hs) (λcv h=>by simp only[execOp,ho];rw[Zj,h];rfl)):A:=e
def QG{A:Prop} (e:A:=by
 refine⟨e,ts,h'++[ak.dead]++g',λr hr=>?_,done e h' g' hl Tq⟩;have:r=none:=hr;subst this;have:=Ev.fL (h:=h) (ps:=ps) (asg:=asg) (body:=body) hA hg hs (ni hl) bU;rw[ru hl]at this;exact this):A:=e
def Nv{A:Prop} (e:A:=by
 rw[ZF,YU hlt,aan];congr 1;cases hp:p L[k]<;>simp[hp]):A:=e
def QF{A:Prop} (e:A:=by
 rw[ZF,YU SR]at hy';rcases YZ.1 hy' with hy'|hy'
 ·exact hsf y' hy'
 ·simp only[Option.toList_some,Zm]at hy';rw[hy',<-hy];exact h4):A:=e
def QE{A:Prop} (e:A:=by
 refine y6 hg RN ?_ (λt TX=>ht t ?_)
 ·exact Zy.1 hgok x (Array.mem_toList_iff.2 hx)
 ·subst TX;exact List.mem_append_left _ (List.mem_filterMap.2 ⟨.tmp t,by simpa using hx,rfl⟩)):A:=e
def QD{A:Prop} (e:A:=by
 refine Rs (A2 @t0 @o1) ?_;refine WF.res T.c177 (r177 T (hx.ext Xx) (by simp;omega)) ?_;rintro s' g1 hf;have o2:=hf.ba.one;refine Rs (A3 @t0 @o1 @o2) ?_;exact⟨s',rfl,(Fr.swap hf (by simp)).low (by simp)⟩):A:=e
def M5{A:Prop} (e:A:=by
 rw[Y6 Su]at RJ;exact hr.sep b1 b2 e1 e2 k1 k2 hne Tf RS hk1 RJ hcb):A:=e
def QC{A:Prop} (e:A:=by
 refine⟨_,by omega,k+1,out,by omega,rfl,?_,rfl,rfl⟩;rw[R4,aan];simp only[aaH,aaX,hd,ZM,Zf,Zr];exact hfr.app _):A:=e
def QB{A:Prop} (e:A:=by
 rw[bC]at hc;split at hc
 case isTrue hb=>exact absurd hc hb
 case isFalse hb=>
  unfold jT at hb;split at hb
  ·exact absurd (by decide) hb
  split at hb
  ·exact absurd (by decide) hb
  omega):A:=e
def Nu{A:Prop} (e:A:=by
 obtain⟨h3,h4,h5⟩:=w.md x hx;exact⟨h3,h4,λt ht=>by rw[em];exact gD (h5 t ht)⟩):A:=e
def z70{A:Prop} (e:A:=by
 rw[ZK,Array.getElem?_replicate];split<;>rfl):A:=e
def Nt{A:Prop} (e:A:=by
 obtain⟨o,h1,h2⟩:=VM j io hj;exact⟨o,h1,by rw[<- (dw h2).1];exact hd⟩):A:=e
def z72{A:Prop} (e:A:=by
 have hi':i<x.ev.names.length:=by omega
 have:aM x.ev i=x.ev.names[i]:=by rw[aM,ZH,YU hi'];rfl
 rw[this];exact ox.n.kY hi' rfl e):A:=e
def M4{A:Prop} (e:A:=by
 by_cases e1:j=i
 ·subst e1;exact hlt
 ·rw[hne j e1];exact hl):A:=e
def Ns{A:Prop} (e:A:=by
 rw[Y7 (by simp;omega),Y7 (by simp;omega)];simp):A:=e
def z75{A:Prop} (e:A:=by
 have e3:=fo hlt;have e4:k=V.aj.length:=by omega
 refine Rs (A8 @t1 @t2 @t5 @t6 @lr @dy o.i2.aJ @e3) ?_;rw[e4,ZA]at hfr;exact⟨Sb.trans he,hfr.ba⟩):A:=e
def z76{A:Prop} (e:A:=by
 have:=Bd (listed:=listed) (by omega) Ss ops.size hin;omega):A:=e
def QA{A:Prop} (e:A:=by
 refine⟨λh1=>?_,λh1=>⟨l.length-(k+1),by omega,k+1,by omega,rfl,?_,rfl⟩⟩
 ·rw[hf,hd,aZ,Y6 h1]
 ·rw[hf,hd,aZ,Zb (by omega)]):A:=e
def F3{A:Prop} (e:A:=by
 exact Rs (A3 @t0 @t1 @t2) trivial):A:=e
def Nr{A:Prop} (e:A:=by
 rw[ZF,YU (by rw[hRl];exact hlt),hy];simp[RV.an]):A:=e
def z80{A:Prop} (e:A:=by
 rename_i cs;cases hl:cs.toList.mapM (mE n)with
 |none=>simp[hl]at h
 |some r=>simp[hl]at h;subst h;exact⟨cs.toList,rfl,vI m n (qA m n) _ _ hl⟩):A:=e
def Nq{A:Prop} (e:A:=by
 have h1:=(s.bk.o.dR (b:=i) (by rw[<-e];simp[RV.bl])).2;have:=(htb i hi).1;omega):A:=e
def Qz{A:Prop} (e:A:=by
 unfold b9.add at Th;by_cases hx:b=h.length
 ·rw[Zb hx]at Th;cases Th;exact .inl ⟨hx,rfl⟩
 ·rw[Y6 hx]at Th;exact .inr ⟨hr.cK _ _ Th,Th⟩):A:=e
def Qy{A:Prop} (e:A:=by
 simp only[Fy,Fx,Fw,I5,I6,FB,FA,Fz,MC,MB,aaz,Z5,ne_eq,Zu,and_true];omega):A:=e
def M3{A:Prop} (e:A:=by
 exact⟨_,by omega,j+1,by omega,rfl,e2.trans Xx,rfl⟩):A:=e
def z85{A:Prop} (e:A:=by
 refine Rs (Jl @t4 @t6 @t20 @t21 @t22 @e3 @ix @ld @e5 @l2 @l3 @bS @hP @lk @hb @mp @a4) ?_;exact⟨_,by omega,k+1,_,by omega,rfl,rfl,hnew,rfl⟩):A:=e
def Np{A:Prop} (e:A:=by
 show(R.aE++[_]).length<=32;rw[YP,Zp];omega):A:=e
def z87{A:Prop} (e:A:=by
 rcases hn i z with z|z
 ·exact h3 (by rw[<-z];simp[RV.bl])
 ·have:=s.ln;omega):A:=e
def JF{A:Prop} (e:A:=by
 exact cE.fin R5 (λz=>absurd z (by decide))):A:=e
def Qx{A:Prop} (e:A:=by
 rw[aA (e.some hg0)];have:bH x.ev 1=1\/bH x.ev 1=2\/bH x.ev 1=3\/bH x.ev 1=4:=by omega
 rcases this with z|z|z|z<;>rw[z]<;>rfl):A:=e
def M1{A:Prop} (e:A:=by
 simp only[Zm,Zu]at z;omega):A:=e
def z91{A:Prop} (e:A:=by
 rw[ZF,YU hlt,tn];simp only[Option.toList_some,cW,ZN,ZR];rw[aaL (by omega)]):A:=e
def JE{A:Prop} (e:A:=by
 exact cE.fin sY (λz=>absurd z (by decide))):A:=e
def z93{A:Prop} (e:A:=by
 cases hk:cD oj.k with
 |true=>exact .inl rfl
 |false=>
  cases RJ:kN oj with
  |true=>exact .inr rfl
  |false=>have:=hHh j oj h3 hk RJ;omega):A:=e
def Qw{A:Prop} (e:A:=by
 have hne:io.dst≠some d:=hd i io hio (by simp[mark]);rw[dD hne];refine M.yE d λj o hj hs=>hd j o hj ?_
 unfold mark;split
 ·rfl
 ·exact hs):A:=e
def Qv{A:Prop} (e:A:=by
 have d1:decide (n<10)=true:=YW h10;refine Ws (A4 @d0 @d1 @uI @ze) ?_;rw[kL,Lib.decDigits,dif_pos (by omega),y8 h0 h10]):A:=e
def Qu{A:Prop} (e:A:=by
 have e3:=jy hmo (show i<j by omega) hio hj Xz (hrp hk) U7 (hld hk) (.inl ⟨Tm,hk⟩);have e4:=hcl j i TN hin e3;rw[Ss]at e4;cases e4):A:=e
def Qt{A:Prop} (e:A:=by
 rw[VR]at ha hv ⊢;obtain⟨e,he,_⟩:=ha;obtain⟨e',SM,hv⟩:=hv;exact⟨e',by unfold b9.dJ;rw[Zb (hd _ _ he)];exact SM,hv⟩):A:=e
def No{A:Prop} (e:A:=by
 exact h3 (by rw[<-z];simp[RV.bl])):A:=e
def Qs{A:Prop} (e:A:=by
 have:=(Fr.push (N:=0) (es:=3) (h:=W4) (Zw _) [z] (λx hx=>by rw[Zm]at hx;rw[hx,hz];rfl)).ba
 simpa using this):A:=e
def Kz{A:Prop} (e:A:=by
 simp only[aQ,aT,bo,bp,Nat.reduceAdd,Nat.reduceMul,Nat.reduceLeDiff,Nat.reduceEqDiff,bz,hlen,Zf,Zi,t0,aA hg.1]):A:=e
def Ky{A:Prop} (e:A:=by
 have hl:=(YQ.1 this).1;rw[YU hl]at this;rw[<-ZU this];exact List.set_getElem_self hl):A:=e
def G8{A:Prop} (e:A:=by
 refine WF.ce T.c15 (ha _ Xx) λg2=>?_
 refine Rs @t0 ?_;exact⟨Xx,rfl⟩):A:=e
def Kx{A:Prop} (e:A:=by
 split at hn
 case isFalse=>cases hn
 rename_i T5;subst T5;cases hn;obtain⟨e,rfl⟩:=hd;simp[Builtin.len_,T0,Zh hu,goInt]):A:=e
def Kw{A:Prop} (e:A:=by
 by_cases hab:a=b
 ·simp[dI,cV,hab,AE]
 ·have:(a==b)=false:=by simp[hab]
  simp[dI,cV,hab,AE,this]):A:=e
def z105{A:Prop} (e:A:=by
 subst z;have:=(hnt i hi).1;omega):A:=e
def G7{A:Prop} (e:A:=by
 rw[ei];refine Rs (A5 @t0 @t1 @ix @ld @on) ?_;exact⟨x,SP,sp,rfl⟩):A:=e
def z107{A:Prop} (e:A:=by
 have:jT V.an x.ev=3:=by rw[jT,Y6 (by rw[h1];decide),<-jx.e,Zb h2]
 rw[bC,Zb (by rw[this];decide),this]):A:=e
def Bb{A:Prop} (e:A:=by
 simp only[RV.an,Z6];rfl):A:=e
def z109{A:Prop} (e:A:=by
 simp only[ZK,ZO (show i<listed.size by omega),aa6]at hl ⊢;exact hl):A:=e
def Kv{A:Prop} (e:A:=by
 obtain⟨h1,h2,h3⟩:=s.kl i hi;rw[hk i (ZQ h1 s.ln) (λz=>h3 (by rw[<-z];simp[RV.bl]))];exact s.kp i hi):A:=e
def Ku{A:Prop} (e:A:=by
 obtain⟨y,hy,rfl⟩:=Zv.1 hx;have:=ua w.n2 (Zo (f:=gN.name) (aaa.1 hy).1);omega):A:=e
def Ks{A:Prop} (e:A:=by
 have Vz:(ps.map λ(i,x)=>(i,σ x)).toList=ps.toList.map λp=>(p.1,σ p.2):=by simp
 rw[Vz,S4];simp[newRow]):A:=e
def Kq{A:Prop} (e:A:=by
 by_cases hlt:j<i
 ·have:=Tp (j+1) i (by omega) (by omega);omega
 ·have:=Tp (i+1) j (by omega) (by omega);omega):A:=e
def Kp{A:Prop} (e:A:=by
 have e3:V.cJ.length=V.bU.cJ.length:=by simp[HV.bU]
 have e4:V.bU.c8.length=V.c8.length:=by simp[HV.bU]
 omega):A:=e
def Ko{A:Prop} (e:A:=by
 split at h
 ·rename_i h1 h2 h3 h4;simp only at h1 h2 h3 h4;subst h1;subst h2;subst h3;subst h4;cases h;rfl
 ·cases h):A:=e
def z116{A:Prop} (e:A:=by
 exact Ws (A2 @hld @Tc) trivial):A:=e
def z117{A:Prop} (e:A:=by
 rw[VR]at ha hv ⊢;obtain⟨l1,_,h1⟩:=ha;obtain⟨l2,hv,h2⟩:=hv;exact⟨l2,hv,cI.cut hd l _ _ h1 h2⟩):A:=e
def Kn{A:Prop} (e:A:=by
 rcases YZ.1 hx with hx|hx
 ·exact w.ev x hx
 ·rw[Zm]at hx;subst hx;exact⟨d,we⟩):A:=e
def z119{A:Prop} (e:A:=by
 show 0+(dN k z.cells).length<=row.size;rw[jE,hrs,hzl,ZN];exact Z3 _ hkn):A:=e
def Km{A:Prop} (e:A:=by
 have e1:decide (jT V.an x.ev≠0)=true:=YW hb;refine Rs (A3 @t0 @t1 @e1) ?_;rw[bC,Zb hb]):A:=e
def Dw{A:Prop} (e:A:=by
 rw[ei];exact Rs (A4 @t0 @t1 @ix @ld) trivial):A:=e
def G6{A:Prop} (e:A:=by
 rw[<-Sh]at hx;exact e1 (huniq j i oj io d hj hio Uu hx)):A:=e
def Kl{A:Prop} (e:A:=by
 by_cases h2:w' =a
 ·subst h2;rw[Zb rfl,Y6 (aam h1),Zb rfl]
 ·rw[Y6 h2,Y6 h2]):A:=e
def z124{A:Prop} (e:A:=by
 refine WF.ce T.c254 (Z.atoi Sh.2 (by simp) (by omega)) λg2=>?_
 refine Rs @t0 ?_;unfold kZ;rw[e1];rfl):A:=e
def Kk{A:Prop} (e:A:=by
 obtain⟨ma,va,h1,h2⟩:=h;exact⟨ma,va,λb e hb=>ZQ (h1 b e hb) hnk,h2⟩):A:=e
def G5{A:Prop} (e:A:=by
 exact propext ⟨λz=>by omega,λz=>by omega⟩):A:=e
def z127{A:Prop} (e:A:=by
 exact main hV oV wV Xe oU wU Sn (Sq @t0) (Sq @t8) (Sq @t150) Sw Sw Sw (Sq @t148) (Sq @t149) (Sq @t150)):A:=e
def Dv{A:Prop} (e:A:=by
 simp only[RV.an,Z6];rfl):A:=e
def Kj{A:Prop} (e:A:=by
 refine Rs (A6 @t0 @t8 @t148 @t149 @t150 @e5) ?_;exact⟨_,by omega,k+1,by omega,rfl,e4,rfl⟩):A:=e
def z130{A:Prop} (e:A:=by
 have hne:=hb' b 0 _ _ rfl;rw[<-ZV _ _ hN,Zc (aam hne)]):A:=e
def z131{A:Prop} (e:A:=by
 have:jT V.an x.ev=23:=by rw[jT,Zb h1]
 rw[bC,Zb (by rw[this];decide),this]):A:=e
def G4{A:Prop} (e:A:=by
 rw[hr]at h1;simp only[ZR]at h1;omega):A:=e
def G3{A:Prop} (e:A:=by
 rename_i hu;cases hf;exact⟨_,hu,λ_=>rfl⟩):A:=e
def Ki{A:Prop} (e:A:=by
 refine hall ?_;cases hy:fe s[k]with
 |false=>rfl
 |true=>have:=kK.1 hy;omega):A:=e
def Kh{A:Prop} (e:A:=by
 have a1:=hdom b e SQ;have a2:=fF hlen (i:=θ) (j:=j) (by omega) (by omega);omega):A:=e
def Du{A:Prop} (e:A:=by
 have:=st.ts.length;simpa using this):A:=e
def Kg{A:Prop} (e:A:=by
 subst he;rw[Zb rfl]at q4;simp only[Zl,Zi];exact⟨h5,g5,rfl,h6,q4⟩):A:=e
def z138{A:Prop} (e:A:=by
 simp only[eo,qO,Zu,AV.bool.injEq];by_cases hab:x=y<;>simp[hab]):A:=e
def z139{A:Prop} (e:A:=by
 rw[Y7 (by omega),aa9,Nat.add_sub_cancel' (by omega)]):A:=e
def Dt{A:Prop} (e:A:=by
 exact fin (kI h2 h3) h1 h4 h5):A:=e
def z141{A:Prop} (e:A:=by
 simp only[stepT,nv,qj];cases val ts x with
 |func f a c=>cases f<;>rfl
 |_=>rfl):A:=e
def G2{A:Prop} (e:A:=by
 cases k2<;>first|trivial|exact absurd rfl hl):A:=e
def z143{A:Prop} (e:A:=by
 simp only[RV.bl,YZ,Zv];exact .inl (.inl (.inr ⟨x,hx,hb⟩))):A:=e
def Kf{A:Prop} (e:A:=by
 rcases YZ.1 hx with hx|hx
 ·exact hs.ba.rows x hx
 ·exact hy.rows x hx):A:=e
def z145{A:Prop} (e:A:=by
 have:=hTl l.length (Y9 _);simp;omega):A:=e
def z146{A:Prop} (e:A:=by
 exact cE.fin Tw (λz=>absurd z (by decide))):A:=e
def Ke{A:Prop} (e:A:=by
 by_cases h2:w' =w
 ·rw[Zb h2,Zb h2]
 ·rw[Y6 h2,Y6 h2,Y6 h2]):A:=e
def z148{A:Prop} (e:A:=by
 cases hs with
 |nil=>exact .nil
 |mk hN hb he=>exact .mk hN ((hk _ rfl).trans hb) he):A:=e
def Kc{A:Prop} (e:A:=by
 rw[<-hS,aaj];rintro⟨y,hy,hy2⟩;rw[hsf y hy]at hy2;cases hy2):A:=e
def Kb{A:Prop} (e:A:=by
 rw[YR,Y7 (Y9 _),Z2];rfl):A:=e
def G1{A:Prop} (e:A:=by
 exact cE.fin s (λz=>absurd z (by decide))):A:=e
def z152{A:Prop} (e:A:=by
 rw[ZV _ _ (Y9 _),Z2,YR];rfl):A:=e
def Ka{A:Prop} (e:A:=by
 simp only[RV.bl,YZ,Zv];exact .inl (.inr ⟨x,hx,hb⟩)):A:=e
def z154{A:Prop} (e:A:=by
 simp only[Zk]at hc;obtain⟨f,_,rfl⟩:=hc;exact hs.elim):A:=e
def J9{A:Prop} (e:A:=by
 rw[fH,<-jx.e,ZH,YU hsl];rfl):A:=e
def z156{A:Prop} (e:A:=by
 rw[fH,<-Vj,ZH,YU hlt];rfl):A:=e
def z157{A:Prop} (e:A:=by
 rw[ZF,YU hlt,fZ,List.foldl_append];rfl):A:=e
def J8{A:Prop} (e:A:=by
 rw[Y7 hN,Zd (by simp at hbl;omega)]):A:=e
def z159{A:Prop} (e:A:=by
 rw[hh]at hi;refine Rs (A5 @t2 @t3 @t5 @t6 @hi) ?_;exact⟨V4.trans Xx,rfl⟩):A:=e
def z160{A:Prop} (e:A:=by
 rw[em];exact w.n3.add (gn 0 (by decide)) f0):A:=e
def J7{A:Prop} (e:A:=by
 rw[YR (h++[ak.bf (lI ds vf)]) g];exact K _ _ (s.put g1 hc)):A:=e
def z162{A:Prop} (e:A:=by
 cases TM:o.k<;>rw[TM]at hk<;>first|(cases hk;done)|simp[mK,TM]):A:=e
def J6{A:Prop} (e:A:=by
 rw[Vj];unfold jT at hb;split at hb
 ·cases hb
 split at hb
 ·cases hb
 omega):A:=e
def z164{A:Prop} (e:A:=by
 rw[ZJ];exact propext ⟨λz=>by omega,λz=>by omega⟩):A:=e
def J5{A:Prop} (e:A:=by
 cases ok
 ·exact U5
 ·exact⟨_,rfl,_,_,rfl,U5,_,_,rfl,rfl,rfl⟩):A:=e
def J4{A:Prop} (e:A:=by
 exact⟨hone,v,by rw[XC _ (by omega)];exact hv,VR.mono Up _ _ RK⟩):A:=e
def z167{A:Prop} (e:A:=by
 rw[<-nT];exact hF.aD λj hj=>ne j (by have:=hlo j hj;omega)):A:=e
def z168{A:Prop} (e:A:=by
 simp only[RV.bl,YZ,Zv];exact .inr ⟨x,hx,hb⟩):A:=e
def J3{A:Prop} (e:A:=by
 rw[YP,Z4,Z4];omega):A:=e
def J2{A:Prop} (e:A:=by
 exact⟨_,by omega,j+1,by omega,rfl,e2.trans Xx,by rw[TB],rfl⟩):A:=e
def z171{A:Prop} (e:A:=by
 rw[Y6 hbb]at ht;exact ht):A:=e
def J1{A:Prop} (e:A:=by
 exact⟨_,by omega,j+1,by omega,rfl,(e2.trans e23).trans Xx,rfl⟩):A:=e
def z173{A:Prop} (e:A:=by
 subst hn;exact .of hmix hA (H (aR A.nt [a0,a1,a2]) hl rfl rfl rfl)):A:=e
def J0{A:Prop} (e:A:=by
 simp only[YP,YV,YX];omega):A:=e
def z175{A:Prop} (e:A:=by
 rw[YY];exact ZL (ZD _ _) w.l2):A:=e
def JZ{A:Prop} (e:A:=by
 obtain⟨cv',m',rfl,h1,h2,h3⟩:=he;exact hn cv' m' w'' h1 h2 h3):A:=e
def JY{A:Prop} (e:A:=by
 exact⟨s.length-(k+1),by omega,k+1,by omega,rfl,rfl,rfl⟩):A:=e
def Ds{A:Prop} (e:A:=by
 exact dl (by omega) (by omega)):A:=e
def JX{A:Prop} (e:A:=by
 simp only[FQ,F0,Ex.leaves,abt];cases cQ rs ts h<;>simp):A:=e
def G0{A:Prop} (e:A:=by
 rw[this];exact List.set_getElem_self _):A:=e
def JW{A:Prop} (e:A:=by
 rename_i hu;rw[hu]at Va;cases Va;cases hf;exact hone rfl rfl hu):A:=e
def z182{A:Prop} (e:A:=by
 exact⟨_,by omega,i+1,by omega,rfl,by rw[R7];rfl,rfl⟩):A:=e
def z183{A:Prop} (e:A:=by
 rw[Td];exact cE.fin s5 (λ_=>by simp only[dq,sp,hp];rfl)):A:=e
def JV{A:Prop} (e:A:=by
 refine⟨_,by omega,k+1,by omega,rfl,Wt.trans Xx,hu,rfl⟩):A:=e
def JU{A:Prop} (e:A:=by
 refine⟨_,by omega,k+1,by omega,rfl,TX.trans Xx,hu,rfl⟩):A:=e
def JT{A:Prop} (e:A:=by
 have:=hlate j oj hj hk hjf (by omega);rw[TN]at this;cases this):A:=e
def JS{A:Prop} (e:A:=by
 simp only[WR,iT.app,ZM,false_implies,abt]):A:=e
def JR{A:Prop} (e:A:=by
 refine⟨_,by omega,k+1,by omega,rfl,hx.trans Xx,hu,rfl⟩):A:=e
def GZ{A:Prop} (e:A:=by
 subst e1;rw[Ss]at TN;cases TN):A:=e
def JQ{A:Prop} (e:A:=by
 rw[beq_eq_false_iff_ne];rintro rfl;exact absurd hc.1 (by decide)):A:=e
def JP{A:Prop} (e:A:=by
 refine Rs (A3 @t0 @t1 @eZ) ?_;exact⟨g',V',rfl,h1,h2⟩):A:=e
def JO{A:Prop} (e:A:=by
 exact⟨_,by omega,k+1,by omega,rfl,hx.trans Xx,hi,rfl⟩):A:=e
def z193{A:Prop} (e:A:=by
 simp only[stepT,nv];cases eo op (val ts x) (val ts y)<;>rfl):A:=e
def z194{A:Prop} (e:A:=by
 simp only[RV.bl,l1,l2,e2,YR,Z5]):A:=e
def JN{A:Prop} (e:A:=by
 subst hn;exact .of hmix hA (H (aR A.nt [a0,a1]) hl rfl rfl)):A:=e
def z196{A:Prop} (e:A:=by
 subst h3;exact⟨cv,w,m,h1,h2,hr,Grow.refl m _ w hr.cK⟩):A:=e
def JM{A:Prop} (e:A:=by
 refine .run hw (by rw[hk];trivial) ?_;rw[hk];exact nL hs):A:=e
def z198{A:Prop} (e:A:=by
 exact⟨_,_,rfl,.inr ⟨IG hlt (by omega),by omega⟩⟩):A:=e
def JL{A:Prop} (e:A:=by
 exact⟨_,[],rfl,⟨.nil,λx hx=>by cases hx⟩,rfl⟩):A:=e
def JK{A:Prop} (e:A:=by
 simp only[fj,RV.an,aaM,aaA];rfl):A:=e
def z201{A:Prop} (e:A:=by
 exact⟨_,by omega,j+1,by omega,rfl,e4.trans Xx,rfl⟩):A:=e
def GY{A:Prop} (e:A:=by
 exact(bad (by rw[SZ];rfl) Xx).2):A:=e
def z203{A:Prop} (e:A:=by
 simp only[aaV,ZM,Zf];omega):A:=e
def JJ{A:Prop} (e:A:=by
 exact lF (by rw[hTl];exact M.size) (VR.mono h1 _ _ hv)):A:=e
def JI{A:Prop} (e:A:=by
 rw[Y6 TO];simp only[abi (aam TO)]):A:=e
def z206{A:Prop} (e:A:=by
 cases k<;>first|exact H|exact absurd ⟨_,_,rfl⟩ hc):A:=e
def JH{A:Prop} (e:A:=by
 simp only[YP,Zp];omega):A:=e
def z208{A:Prop} (e:A:=by
 rw[bE]at hl;subst hl;cases hf;exact⟨cx,rfl,hx⟩):A:=e
def JG{A:Prop} (e:A:=by
 have:c=[]:=ZZ.1 h;subst this;rfl):A:=e
end Go.Abs
