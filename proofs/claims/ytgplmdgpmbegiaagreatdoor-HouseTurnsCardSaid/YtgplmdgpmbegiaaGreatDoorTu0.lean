/- Ends of proofs that stand in more than one place. No condition. -/
import Derived.Tactics
set_option linter.all false
namespace Go.Abs
def Z1:=@List.length_append
def Z2:=@List.getElem?_eq_some_iff
def Z3:=@decide_eq_false
def Z4:=@List.append_assoc
def Z5:=@List.length_cons
def Z6:=@List.getElem?_eq_getElem
def Z7:=@List.getElem?_append_left
def Z8:=@decide_eq_true
def Z9:=@List.length_nil
def aaa:=@List.length_map
def aab:=@if_neg
def aac:=@List.mem_append
def aad:=@List.getElem_mem
def aae:=@List.map_append
def aaf:=@List.getElem?_append_right
def aag:=@Result.andThen_ok
def aah:=@Nat.le_refl
def aai:=@if_pos
def aaj:=@List.getElem?_set_ne
def aak:=@List.getElem?_set_self
def aal:=@if_false
def aam:=@List.mem_singleton
def aan:=@if_true
def aao:=@List.mem_map_of_mem
def aap:=@Array.getElem?_eq_some_iff
def aaq:=@decide_true
def aar:=@Bool.not_true
def aas:=@run_underlying
def aat:=@Sem.run_bind
def aau:=@List.length_singleton
def aav:=@Option.map_eq_some_iff
def aaw:=@List.append_nil
def aax:=@congrArg
def aay:=@Bool.not_false
def aaz:=@decide_false
def aaA:=@List.mem_map
def aaB:=@Option.some.injEq
def aaC:=@Nat.zero_le
def aaD:=@Bool.and_eq_true
def aaE:=@List.all_eq_true
def aaF:=@List.length_filter_le
def aaG:=@Sem.run_pure
def aaH:=@List.mem_cons_of_mem
def aaI:=@List.take_length
def aaJ:=@List.mem_cons
def aaK:=@decide_eq_true_eq
def aaL:=@List.length_set
def aaM:=@List.take_of_length_le
def aaN:=@List.getD_eq_getElem?_getD
def aaO:=@List.take_add_one
def aaP:=@Nat.zero_add
def aaQ:=@List.length_take
def aaR:=@Array.getD_eq_getD_getElem?
def aaS:=@List.mem_cons_self
def aaT:=@Nat.le_trans
def aaU:=@Bool.false_eq_true
def aaV:=@Array.getElem?_eq_getElem
def aaW:=@List.mem_of_getElem?
def aaX:=@List.map_cons
def aaY:=@Nat.lt_of_lt_of_le
def aaZ:=@List.filter_append
def aa0:=@Option.some.inj
def aa1:=@List.set_append_right
def aa2:=@List.drop_length
def aa3:=@List.not_mem_nil
def aa4:=@List.mem_of_mem_take
def aa5:=@List.flatten_cons
def aa6:=@List.mem_filter
def aa7:=@List.getElem?_map
def aa8:=@List.pairwise_cons
def aa9:=@List.length_eq_zero_iff
def aba:=@Option.bind_eq_some_iff
def abb:=@Nat.sub_self
def abc:=@Nat.mul_le_mul_right
def abd:=@List.length_replicate
def abe:=@List.cons_append
def abf:=@List.getElem_map
def abg:=@List.getElem?_cons_zero
def abh:=@List.mem_range
def abi:=@List.filter_cons
def abj:=@List.pairwise_append
def abk:=@of_decide_eq_true
def abl:=@decide_eq_false_iff_not
def abm:=@Array.getElem?_setIfInBounds_self_of_lt
def abn:=@List.take_append_drop
def abo:=@Ne.symm
def abp:=@Nat.succ_mul
def abq:=@List.getElem?_cons_succ
def abr:=@Bool.not_eq_true'
def abt:=@List.drop_zero
def abu:=@Bool.true_and
def abv:=@Array.getElem?_toList
def abw:=@List.getElem?_toArray
def abx:=@List.any_eq_true
def aby:=@eq_false
def abz:=@Array.getElem?_eq_none
def abA:=@List.filter_map
def abB:=@List.drop_drop
def abC:=@List.getLastD_eq_getLast?
def abD:=@List.all_cons
def abE:=@List.replicate_succ
def abF:=@List.map_nil
def abG:=@List.pairwise_singleton
def abH:=@or_false
def abI:=@List.nil_append
def abJ:=@List.map_map
def abK:=@decide_eq_decide
def abL:=@Array.getElem?_setIfInBounds_ne
def abM:=@List.flatten_append
def abN:=@Decidable.not_not
def abO:=@List.mem_or_eq_of_mem_set
def abP:=@Bool.or_eq_true
def abQ:=@List.append_cancel_left
def abR:=@Nat.min_eq_left
def abS:=@List.take_succ_cons
def abT:=@Option.map_some
def abU:=@List.length_reverse
def abV:=@List.length_pos_iff
def abW:=@List.flatten_nil
def abX:=@List.getElem?_eq_none
def abY:=@List.getElem_set_self
def abZ:=@Bool.false_ne_true
def ab0:=@Bool.false_and
def ab1:=@List.drop_eq_getElem_cons
def ab2:=@List.flatten_replicate_singleton
def ab3:=@List.filter_nil
def ab4:=@List.getElem?_take_of_lt
def ab5:=@List.foldl_cons
def ab6:=@List.nodup_cons
def ab7:=@Nat.zero_mul
def ab8:=@Nat.add_zero
def ab9:=@List.map_set
def aca:=@List.getElem_of_mem
def acb:=@Option.bind_eq_bind
def acd:=@Nat.mul_one
def ace:=@Array.length_toList
def acf:=@Bool.false_or
def acg:=@Option.getD_some
def ach:=@List.length_drop
def aci:=@List.filter_eq_nil_iff
def acj:=@List.findIdx?_cons
def ack:=@List.getElem?_drop
def acm:=@Nat.add_mul
def acn:=@Nat.add_comm
def aco:=@Option.map_none
def acp:=@Nat.le_of_lt
def acq:=@Prod.mk.injEq
def acr:=@List.ext_getElem?
def acs:=@Function.comp_def
def acu:=@List.any_cons
def acv:=@Eq.trans
def acw:=@List.mapM_cons
def acx:=@List.getElem_set_ne
def acy:=@List.replicate_zero
def acz:=@Array.ext'
def acA:=@List.find?_some
def acB:=@Option.pure_def
def acC:=@List.map_take
def acD:=@Nat.le_succ
def acE:=@true_and
def acF:=@eq_true
abbrev By:=List UInt8
def Tv:True:=trivial
def Om{A:Prop}(e:A:=by omega):A:=e
def De{A:Prop}(e:A:=by decide):A:=e
def Si{A:Prop}(e:A:=by simp):A:=e
def z1{A:Prop} (e:A:=by
 refine Ws hs.aH ?_;refine WL.inv T.mix (λn ts h'=>∃k:Nat,k<=L.length/\n=L.length-k/\Ext h h'/\L.findIdx? p=((L.drop k).findIdx? p).map (· +k)/\ts.length=19/\slot ts 0=s/\slot ts 1=f/\slot ts 7=.i L.length/\slot ts 8=.i k) L.length
  ⟨0,by omega,rfl,Ext.refl h,by simp,rfl,rfl,rfl,rfl,rfl⟩ ?_
 rintro _ ts _ ⟨k,hk,rfl,⟨g,rfl⟩,hi,hlen,t0,t1,t7,t8⟩;rw[lG ts 19 hlen];by_cases hlt:k<L.length
 ·have hd:L.drop k=L[k]::L.drop (k+1):=by simp
  have e3:(k:Int)<L.length:=by omega
  simp only[aO,aT,aZ,a8,Nat.reduceAdd,Nat.reduceMul,Nat.reduceLeDiff,Nat.reduceEqDiff,t0,t1,t7,t8,e3,aaq,hs.c6 hlt,hs.gP hlt];refine WF.val (hf L[k] (by simp) _ ⟨g,rfl⟩) ?_;rintro _ g1 rfl;cases hp:p L[k]with
  |true=>
   refine Ws @t8 ?_;rw[cV,hi,hd,acj,hp];simp
  |false=>
   refine Ws (A2 @t8 (wrapN (show k+1<2^63 by omega))) ?_;refine⟨_,?_,k+1,by omega,rfl,?_,rfl⟩
   ·omega
   ·rw[hi,hd,acj,hp];simp only[aaU,aal,Option.map_map];congr 1;funext i;simp only[Function.comp];omega
 ·have e3:¬(k:Int)<L.length:=by omega
  have e4:k=L.length:=by omega
  refine Ws (A6 @t0 @t1 @t7 @t8 @e3 @aaz) ?_;rw[cV,hi,e4,aa2];rfl):A:=e
def z2{A:Prop} (e:A:=by
 rw[hrow]at hff;rw[hrow];refine Ws (A6 @t1 @t5 @t8 @t9 @t10 (wrapN (show k+1<2^63 by omega))) ?_;have hout:∀b,sB out=some b->b<(h++g).length:=λb hb=>(hfr.bQ hb).2
 have hnew:∀b,sB s' =some b->(h++g).length<=b/\b<(h++g).length+(1+g1.length):=λb hb=>by
  have:=ZN.bQ hb;simp only[Z1,Z5,Z9]at this ⊢;omega
 have hold:∀x∈L',∀b,sB x.2=some b->b<(h++g).length/\sB out≠some b:=λx hx b hb=>by
  refine⟨((hin x hx).bQ hb).2,λe=>?_⟩;exact(aa8.1 TD).1 _ (aao hx) b e hb
 refine⟨_,?_,k+1,_,L'++[(L[k].1,s')],by omega,rfl,?_,hff,?_,?_,rfl,rfl⟩
 ·omega
 ·rw[aae,hm,aaO,Z6 hlt,aae];rfl
 ·intro x hx;rcases aac.1 hx with hx|hx
  ·refine((((hin x hx).app _).app _).app _).aD λb hb=>hkp b ?_ λb0 o n e hso=>?_
   ·have:=(hold x hx b hb).1;simp only[Z1]at this ⊢;omega
   ·intro e;subst e;exact(hold x hx b hb).2 (by rw[hso];rfl)
  ·rw[aam]at hx;subst hx;refine Fr.low (N:=(h++g++[ak.cells [] true true]).length) ?_ (by simp only[Z1];omega);refine Fr.aD (h:=_) ((ZN.app _).low ?_) λb hb=>hkp b ?_ λb0 o n e hso=>?_
   ·simp
   ·have:=hnew b hb;simp only[Z1,Z5,Z9]at this ⊢;omega
   ·intro e;subst e;have h1:=hout b (by rw[hso];rfl);have h2:=(hnew b hb).1;omega
 ·have em:(L'++[(L[k].1,s')]).map (λx=>sB x.2)=(L'.map λx=>sB x.2)++[sB s']:=by rw[aae];rfl
  rw[em];refine aa8.2 ⟨?_,abj.2 ⟨(aa8.1 TD).2,abG _ _,?_⟩⟩
  ·intro y hy b hb VH;cases hb;rcases aac.1 hy with hy|hy
   ·obtain⟨x,hx,rfl⟩:=aaA.1 hy;have:=(hold x hx _ VH).1;simp only[Z1]at this;omega
   ·rw[aam]at hy;rw[hy]at VH;have:=(hnew _ VH).2;simp only[Z1,Z5,Z9]at this;omega
  ·intro y hy z hz b hb hzb;obtain⟨x,hx,rfl⟩:=aaA.1 hy;rw[aam]at hz;rw[hz]at hzb;have h1:=(hold x hx _ hb).1;have h2:=(hnew _ hzb).1;omega):A:=e
def z3{A:Prop} (e:A:=by
 obtain⟨V2,rfl,sb,K1⟩:=fin hv;refine Rs (A4 @t3 @t4 @t7 @sb) ?_;refine K1 _ ?_ ?_ ?_ ?_ ?_
 ·simp only[bd,hlen]
 ·exact Zs @t3 trivial
 ·exact Zs @t4 trivial
 ·exact Zs @t7 trivial
 ·exact Zn trivial):A:=e
def z4{A:Prop} (e:A:=by
 refine WF.val (hvk _ (by repeat first|exact Ext.refl _|refine Ext.app _ ?_)) ?_;rintro _ g1 rfl;refine Wn ?_;refine WR.fg (h0:=h) (cs:=((L.take k).map F).map aq) (ys:=[aq (F L[k])]) ((((hfr.app _).app _).app _)) (Fr.push (N:=0) (aaC _) [aq (F L[k])] (by simp[aq])).aY (by decide) (by simp) (by simp;omega) (by simp only[tf]) ?_;intro g' SP hff hkp;have hrow:((L.take k).map F).map aq++[aq (F L[k])]=((L.take (k+1)).map F).map aq:=by rw[aaO,Z6 hlt,aae,aae];rfl
 rw[hrow]at hff;rw[hrow];refine Ws (A6 @t1 @t5 @t8 @t9 @t10 (wrapN (show k+1<2^63 by omega))) ?_;refine⟨_,?_,k+1,_,by omega,rfl,hff,rfl,rfl⟩;omega):A:=e
def z5{A:Prop} (e:A:=by
 have e3:¬(k:Int)<L.length:=by omega
 have e4:k=L.length:=by omega
 refine Ws (A7 @t1 @t5 @t8 @t9 @t10 @e3 @aaz) ?_;rw[e4,aaI]at hfr;exact hfr):A:=e
def z6{A:Prop} (e:A:=by
 rw[hrow]at hff;rw[hrow];refine Ws (A6 @t1 @t5 @t8 @t9 @t10 (wrapN (show k+1<2^63 by omega))) ?_;refine⟨_,?_,k+1,_,by omega,rfl,hff,rfl,rfl⟩;omega):A:=e
def z7{A:Prop} (e:A:=by
 have Us:some i∈V.bl:=by rw[hd];exact jq hi
 refine hk i (hin i Us).2 (λe=>?_) (λe=>r.ne (e▸Us));obtain⟨h1,h2,h3⟩:=abj.1 TD;rcases hi with hi|hi
 ·exact h3 _ hi _ (by simp) i rfl e
 ·exact(aa8.1 h2).1 _ hi i e rfl):A:=e
def z8{A:Prop} (e:A:=by
 have hrow:V.aC.map aR++[aR (y,t)]=(V.aC++[(y,t)]).map aR:=by rw[aae];rfl
 rw[hrow]at hff;rw[hrow];have hbl:=r.lt;have SY:sB V.s3≠some b:=λe=>r.ne (by rw[<-e];simp[RV.bl])
 have hk1:∀i,i<(B++g).length->sB V.s3≠some i->(B++g')[i]? =(B++g)[i]? :=λi hi hne=>by
  rw[hkp i (by simp only[Z1]at hi ⊢;omega) (λb0 o n e he z=>hne (by rw[he,z];rfl))];exact(show Ext (B++g) _ from Xx).get hi
 have mB:(B++g')[b]? =some (.b V.row):=(hk1 b hbl SY).trans r.m;have VP:=λ(b' o n e:Nat)=>iX (i:=4) (v:=.slice b' o n e) mB rfl (by decide)
 refine Rs (A4 @t0 @t1 @VP @fx) ?_;refine G9 r hff ?_ (λi hi=>by cases hi;exact .inr (by simp only[Z1];omega)) hk1 ?_ ?_
 ·refine Fr.low (N:=(B++g).length) ((show Fr (B++g).length _ t 1 _ from TN.app _).aD λi hi=>hkp i ?_ (λb0 o n e he z=>?_)) (by simp)
  ·have:=(TN.bQ hi).2;simp only[Z1]at this ⊢;omega
  ·have h1:=(TN.bQ hi).1;have h2:=(r.o.i3.bQ (show sB V.s3=some i by rw[he,z];rfl)).2;omega
 ·intro i hi;have h1:=TN.bQ hi;refine⟨h1.1,λe=>?_⟩;cases e;have:=h1.2;simp only[Z1,Z5,Z9]at this;omega
 ·rw[hy];simp[RV.an,dF]):A:=e
def z9{A:Prop} (e:A:=by
 rcases hn i hi with hn|hn
 ·exact .inl hn
 ·refine .inr ⟨λy hy e=>?_,λy hy e=>?_⟩
  ·subst e;have:=(hin i (by rw[hd];exact jq (.inl hy))).2;omega
  ·subst e;have:=(hin i (by rw[hd];exact jq (.inr hy))).2;omega):A:=e
def N8{A:Prop} (e:A:=by
 refine⟨own,r.hN,hm,λhb=>?_⟩;have hbl:=r.lt;have U6:=r.ne;rw[hd]at U6;by_cases hsb:sB s=some b
 ·rcases hn b hsb with z|z
  ·exact U6 (by rw[z];simp)
  ·omega
 ·by_cases htb:sB t=some b
  ·have:=(hnt b htb).1;omega
  ·have UN:some b≠sB s:=λz=>hsb z.symm
   have htb':some b≠sB t:=λz=>htb z.symm
   simp only[RV.bl,aae,aaX,abF,aac,aaJ,aa3,abH]at hb;simp only[aac,aaJ,aa3,abH]at U6
   grind):A:=e
def JU{A:Prop} (e:A:=by
 rw[hkp i (by simp only[Z1]at hi ⊢;omega) (λb0 o n e he z=>hne (by rw[he,z];rfl))];exact(show Ext (B++g) _ from Xx).get hi):A:=e
def z12{A:Prop} (e:A:=by
 by_cases hex:∃(x:Nat) (ox:bL),l[x]? =some ox/\listed.getD x false=true/\ox.dst=some t
 ·obtain⟨x,ox,hx,hxl,Wd⟩:=hex;obtain⟨oo,Vo,Wx⟩:=TZ x ox t hx Wd;have hxi:x<i:=by
   by_cases e1:x=i
   ·subst e1;rw[TV]at hxl;cases hxl
   ·by_cases e2:x<i
    ·exact e2
    ·have e3:=(cR hsl (show i<x by omega) ho Vo).2 t Wx ht;have e4:=hcl x i hxl hin e3;rw[TV]at e4;cases e4
  rw[SX (x+1) i t (by omega) (by omega) (λk o' a2 a3 a4 a5=>by have:=huniq x k ox o' t hx a4 Wd a5;omega)];exact h2 t x ox hx hxl Wd
 ·rw[SX 0 i t (by omega) (by omega) (λk o' e2 e3 e4 e5=>by
   obtain⟨oo,Vo,Tn⟩:=TZ k o' t e4 e5;have h6:=((cR hsl e3 Vo ho).1 t Tn).2 ht;exact hex ⟨k,o',e4,hahead k (aap.1 Vo).1 h6,e5⟩)]
  exact h1 t λj oj hj hl Tn=>hex ⟨j,oj,hj,hl,Tn⟩):A:=e
def RH{A:Prop} (e:A:=by
 repeat (first|simp (config:={maxSteps:=1000000}) only[aO,aT,aZ,a8,Nat.reduceAdd,Nat.reduceMul,Nat.reduceLeDiff,Nat.reduceEqDiff,bd,hlen,aal,aan,t2,t3,t4,le,lr,bB,aS,bg,aG,SN,iI,reduceCtorEq,aaz,aaq,fc,j1,f1,ix,l2,oJ.aH,e2,iy,lv,e3,sb,gm]|simp (config:={maxSteps:=1000000}) (disch:=first|(simp only[Z1,Z5,Z9]<;>omega)|rfl|omega|fail) only[dX,aO,aT,aZ,a8,Nat.reduceAdd,Nat.reduceMul,Nat.reduceLeDiff,Nat.reduceEqDiff,bd,hlen,aal,aan,t2,t3,t4,le,lr,bB,aS,bg,aG,SN,iI,reduceCtorEq,aaz,aaq,fc,j1,f1,ix,l2,oJ.aH,e2,iy,lv,e3,sb,gm])
 rw[bz,aab (λz=>z hct),aai h3];exact cH.fin Ti (λz=>absurd z (by decide))):A:=e
def Bp{A:Prop} (e:A:=by
 exact⟨by simp[Op.equalIn,aas hu],λl=>by simp,by simp,rfl,rfl⟩):A:=e
def RG{A:Prop} (e:A:=by
 have hlt:=(Z2.1 hx).1;have Th:t<a1.tmps.size:=by have:=hTl l.length (aah _);omega
 have ex:(T l.length).getD t az=x:=by simp[List.getD,hx]
 have ey:a1.tmps.getD t undef=a1.tmps[t]:=by simp[aaR,aaV Th]
 refine⟨a1.tmps[t],by simp,?_⟩;rw[<-ex,<-ey];by_cases hw:∃(j:Nat) (o:bL),l[j]? =some o/\o.dst=some t
 ·obtain⟨j,o,hj,ho⟩:=hw;have U9:=(Z2.1 hj).1;rw[SX (j+1) l.length t (by omega) (aah _) (λk o' a2 a3 a4 a5=>by have:=huniq j k o o' t hj a4 ho a5;omega)];exact h2 t j o hj (hall j (by omega)) ho
 ·rw[SX 0 l.length t (by omega) (aah _) (λk o' _ _ h4 h5=>hw ⟨k,o',h4,h5⟩)];exact h1 t λj o hj _ ho=>hw ⟨j,o,hj,ho⟩):A:=e
def RF{A:Prop} (e:A:=by
 cases x with
 |agg l=>cases hx
 |dW l=>cases hx
 |bool b=>rw[VR]at h;subst h;rfl
 |int k n=>rw[VR]at h;subst h;rfl
 |xS k b=>rw[VR]at h;obtain⟨_,rfl,_⟩:=h;rfl
 |xE k x y=>rw[VR]at h;obtain⟨_,_,rfl,_⟩:=h;rfl
 |str s=>rw[VR]at h;subst h;rfl
 |ptr b o=>rw[VR]at h;obtain⟨_,_,rfl⟩:=h;rfl
 |nilPtr=>rw[VR]at h;subst h;rfl
 |slice b o n e=>rw[VR]at h;obtain⟨_,_,_,_,rfl,_⟩:=h;rfl
 |af=>rw[VR]at h;subst h;rfl
 |map r=>rw[VR]at h;obtain⟨_,_,rfl⟩:=h;rfl
 |dz=>rw[VR]at h;subst h;rfl
 |func f a c=>rw[VR]at h;obtain⟨_,_,_,rfl,_⟩:=h;rfl
 |nilFunc=>rw[VR]at h;subst h;rfl
 |vk u a=>rw[VR]at h;obtain⟨_,rfl,_⟩:=h;rfl
 |kS=>cases hx):A:=e
def RE{A:Prop} (e:A:=by
 simp only[aaU,aal,Option.map_map];congr 1;funext i;simp only[Function.comp];omega):A:=e
def JT{A:Prop} (e:A:=by
 obtain⟨h1,h2,h3⟩:=s.kl i hi;rw[g2 i h2,hk i (aaY h1 s.ln) (λz=>h3 (by rw[<-z];simp[RV.bl]))];exact s.kp i hi):A:=e
def JS{A:Prop} (e:A:=by
 simp only[RV.bl,aae,aaX,abF,aac,aaJ,List.mem_nil_iff,abH]at h ⊢
 grind):A:=e
def z20{A:Prop} (e:A:=by
 have hX:Ext X (X++[.b V.row]++[.b x.row]++[.b ki]):=Xx;have ho:cK B.length (X++[.b V.row]++[.b x.row]++[.b ki]) V:=o.ar λi hi=>hX.get (o.ep hi).2
 refine⟨⟨ho,hx.len,by simp,λhi=>by have:=(o.ep hi).2;omega⟩,hx.trans hX,aah _,λ_ _=>rfl,λi hi=>?_⟩;simp only[Z1,Z5,Z9];rcases hi with⟨h1,h2⟩|h1|h1
 ·exact⟨by omega,by omega,h2⟩
 ·exact⟨by omega,by omega,λz=>by have:=(o.ep z).2;omega⟩
 ·exact⟨by omega,by omega,λz=>by have:=(o.ep z).2;omega⟩):A:=e
def z21{A:Prop} (e:A:=by
 have e5:=wrapN (n:=k) (by omega);by_cases hp:L[k]=M[k]
 ·have q:decide (L[k]≠M[k])=false:=Z3 (λz=>z hp);refine Rs (lI @t0 @t1 @t5 @e3 hs.aH @ix @ld @iy @ly @q @e5) ?_;refine⟨_,by omega,k+1,by omega,rfl,?_,rfl⟩;rw[aaO,aaO,hi,Z6 hlt,Z6 Th,hp]
 ·have q:decide (L[k]≠M[k])=true:=Z8 hp;refine Rs (mU @t0 @t1 @t5 @e3 hs.aH @ix @ld @iy @ly @q) ?_;exact aax AV.bool (Z3 (λ(e:L=M)=>hp (by simp only[e]))).symm):A:=e
def RD{A:Prop} (e:A:=by
 split at hk
 case isFalse=>cases hk
 rename_i hg;cases Tg:flat P 20 t with
 |none=>simp[Tg]at hk
 |some ks=>
  simp[Tg]at hk;subst hk;have hb':zG ks (ρ x) (ρ y)=some b:=hb;unfold zG at hb';split at hb'
  case h_2=>cases hb'
  rename_i xs ys hxa Uv;rw[hxa]at hx;rw[Uv]at hy;obtain⟨lx,rfl,VK⟩:=hx;obtain⟨ly,rfl,VJ⟩:=hy;split at hb'
  case isFalse=>cases hb'
  rename_i hlen;refine fin (xB hg) ?_ rfl rfl;exact Cq 20 t ks Tg 10000 (by omega) _ hu xs ys lx ly b hlen.1 hlen.2 VK VJ hb' w):A:=e
def BA{A:Prop} (e:A:=by
 simp only[compile]at hc
 (repeat' split at hc)
 all_goals cases hc):A:=e
def z24{A:Prop} (e:A:=by
 have:=(Fr.push (N:=0) (es:=3) (h:=W++[ak.cells z true false]) (aaC _) [z] (λx hx=>by rw[aam]at hx;rw[hx,hz];rfl)).aY
 simpa only[aa5,abW,aaw,Z5,Z9,aaP]using this):A:=e
def JR{A:Prop} (e:A:=by
 rw[hkp _ (by have:=s.lt;have:=Ue.len;omega) λb0 o n e he z=>hub (by rw[he,z];rfl)];exact Ue.some s.b3):A:=e
def NH{A:Prop} (e:A:=by
 have:∀n,rq (Array.replicate ops.size false) n<=n:=by
  intro n
  induction n with
  |zero=>exact aah _
  |succ n ihn=>simp only[rq];split<;>omega
 exact this _):A:=e
def Ka{A:Prop} (e:A:=by
 cases hk;exact fu.nU hr (GS (w:=w) (ox:=x) (oy:=y) hk0 hx hy hs) (λcv h=>by simp only[execOp,ho];rw[aat,h];rfl)):A:=e
def z28{A:Prop} (e:A:=by
 rcases hs.PB with⟨rfl,rfl⟩|hq
 ·refine Ws @CS ?_;exact .nil
 ·refine Ws @hq ?_;refine WR.pk (N:=h.length) ba (aah _) (hs.ext (by repeat first|exact Ext.refl _|refine Ext.app _ ?_)) (by omega) λs' g hf=>?_
  refine Wn ?_;exact hf):A:=e
def N7{A:Prop} (e:A:=by
 obtain⟨xi,a1,a2⟩:=TZ i oi d hi h1;obtain⟨xj,b1,b2⟩:=TZ j oj d hj h2;by_cases hlt:i<j
 ·exact absurd b2 ((cR hsl hlt a1 b1).1 d a2).1
 ·by_cases V3:j<i
  ·exact absurd a2 ((cR hsl V3 b1 a1).1 d b2).1
  ·omega):A:=e
def N6{A:Prop} (e:A:=by
 show 0+0+nc*i.size<=(vo++vn).length+rest.length;rw[Z1,TQ,Ty,Zr,Uk];have e1:nc*i.size=(n+k)*i.size+(nc-(n+k))*i.size:=by rw[<-acm];congr 1;omega
 rw[acm]at e1;simp;omega):A:=e
def z31{A:Prop} (e:A:=by
 rw[e]at hb;by_cases hsb:sB s=some b
 ·rcases hn b hsb with z|z
  ·exact U6 (by rw[z];simp)
  ·omega
 ·rcases wq hb with z|z|z
  ·exact U6 (jq (.inl z))
  ·exact hsb z.symm
  ·exact U6 (jq (.inr z))):A:=e
def N5{A:Prop} (e:A:=by
 have hlt:j<ops.size:=by have:=(Z2.1 hj).1;omega
 have ho:ops[j]? =some ops[j]:=aaV hlt;obtain⟨io',h1,h2⟩:=SR j ops[j] (by simp);rw[hj]at h1;cases h1;exact⟨_,ho,h2⟩):A:=e
def RC{A:Prop} (e:A:=by
 have hsh:U.an.aj=V.an.aj.map (jS a z):=by
  refine List.ext_getElem (by simp[RV.an,UY]) λi h1 h2=>?_
  have hi:i<U.aj.length:=by simpa [RV.an]using h1
  have:=hU i hi (by omega);rw[aai (by omega)]at this
  simpa [RV.an]using this
 have heq:∀A C:dM,{A with aj:=C.aj} =C->A={C with aj:=A.aj}:=by
  intro A C h;cases A;cases C;simp_all
 have:=heq _ _ hreg;rw[this,hsh,dF,ha,hz]):A:=e
def Rz{A:Prop} (e:A:=by
 refine⟨(fn.aD λj hj=>kp j (ln j hj).2 λe=>?_).low (by simp only[Z1];omega),(fv.aD λj hj=>kp j (lv j hj).2 λe=>?_).low (by simp only[Z1];omega),λj hj e=>?_,λj hj e=>?_⟩
 ·have h1:=(ln j hj).1;have h2:=hout j e;omega
 ·have h1:=(lv j hj).1;have h2:=hout j e;omega
 ·have h1:=(ln j hj).2;have h2:=Vp j e;omega
 ·have h1:=(lv j hj).2;have h2:=Vp j e;omega):A:=e
def Ry{A:Prop} (e:A:=by
 by_cases hxy:x<=y
 ·have:=VE x (y-x) (by omega) (λj o h1 h2 h3=>by
   cases hk:cG o.k with
   |true=>rfl
   |false=>have:=hno j o h3 hk;omega)
  rw[show x+(y-x)=y from by omega]at this;exact this.symm
 ·have:=VE y (x-y) (by omega) (λj o h1 h2 h3=>by
   cases hk:cG o.k with
   |true=>rfl
   |false=>have:=hno j o h3 hk;omega)
  rw[show y+(x-y)=x from by omega]at this;exact this):A:=e
def N4{A:Prop} (e:A:=by
 subst e;by_cases hsi:sB s=some i
 ·exact n2 hsi
 ·have:=(hin i (by rw[hd];simp only[aac,aaJ,aa3,abH]at hy ⊢;have hsi':some i≠sB s:=λz=>hsi z.symm;grind)).2;omega):A:=e
def z37{A:Prop} (e:A:=by
 obtain⟨e,he,hb,hor⟩:=(o9 hed ho).2 x hx ha;have hle:=Ye e he hb;rcases hor with rfl|hor
 ·exact hle
 ·exact hcl e.on x hle hx hor):A:=e
def Rx{A:Prop} (e:A:=by
 simp only[SJ]at hc;split at hc
 case h_2=>cases hc
 rename_i kt e x' i' y' hu SO hi' hy';simp only[aav]at hc;obtain⟨kk,hkk,rfl⟩:=hc;obtain⟨w',h1,rfl,h2,h3⟩:=H5 (w:=w) hu hkk hr (hρ x (by simp[SJ,Op.operands]) x' SO) (hρ i (by simp[SJ,Op.operands]) i' hi') (hρ y (by simp[SJ,Op.operands]) y' hy') hs;exact⟨undef,w',m,.inr ⟨by simp[execOp,SJ,h1],rfl⟩,ko m,h2,h3⟩):A:=e
def N3{A:Prop} (e:A:=by
 rw[hp,aab (by decide),aaw]at S9;refine Ws (A6 @t1 @t5 @t8 @t9 @t10 (wrapN (show k+1<2^63 by omega))) ?_;refine⟨_,?_,k+1,out,by omega,rfl,by rw[S9];exact(hfr.app _).app _,rfl,rfl⟩;omega):A:=e
def z40{A:Prop} (e:A:=by
 have h1:=TN.bQ hi;refine⟨h1.1,λe=>?_⟩;cases e;have:=h1.2;simp only[Z1,Z5,Z9]at this;omega):A:=e
def Rw{A:Prop} (e:A:=by
 rcases SW b1 e1 h1 with⟨rfl,rfl⟩|⟨X9,UE⟩
 ·rcases SW b2 e2 h2 with⟨rfl,rfl⟩|⟨hl2,XJ⟩
  ·exact absurd rfl hne
  ·exact absurd hcb.symm (hout b2 e2 XJ)
 ·rcases SW b2 e2 h2 with⟨rfl,rfl⟩|⟨hl2,XJ⟩
  ·exact absurd hcb (hout b1 e1 UE)
  ·rw[Z7 X9]at hk1;rw[Z7 hl2]at SK;exact hr.sep b1 b2 e1 e2 k1 k2 hne UE XJ hk1 SK hcb):A:=e
def NG{A:Prop} (e:A:=by
 rw[dh (by omega)]at hj ⊢;split
 ·rfl
 ·split at hj
  ·rename_i hji;subst hji;exact hahead x hx ha
  ·exact hcl j x hj hx ha):A:=e
def D4{A:Prop} (e:A:=by
 exact cH.fin Ti (λz=>absurd z (by decide))):A:=e
def N2{A:Prop} (e:A:=by
 have e3:¬(k:Int)<L.length:=by omega
 have e4:k=L.length:=by omega
 refine Ws (A7 @t1 @t5 @t8 @t9 @t10 @e3 @aaz) ?_;rw[e4,aaI]at hm;exact⟨L',hm,hfr,hin,TD⟩):A:=e
def NF{A:Prop} (e:A:=by
 rw[hkp i (by simp only[Z1];omega) (λb0 o n e he z=>hne (by rw[he,z];rfl))];exact Z7 hi):A:=e
def z46{A:Prop} (e:A:=by
 exact(show Ext (B++g) _ from Xx).get hi):A:=e
def HC{A:Prop} (e:A:=by
 exact⟨_,by omega,k+1,_,by omega,rfl,hff,rfl,rfl⟩):A:=e
def N1{A:Prop} (e:A:=by
 cases SI;rw[hv]at h1;have h1':=h1;obtain⟨f',a',c',h2,h3,_⟩:=h1;simp only[Bm]at h3;subst h3;exact fu.same hr h1' (by simp[execOp,SJ,h2])):A:=e
def z49{A:Prop} (e:A:=by
 simp only[Z1,Z5,Z9]at this ⊢;omega):A:=e
def Rv{A:Prop} (e:A:=by
 simp only[SJ,aav]at hc;obtain⟨x',SO,rfl⟩:=hc;have SI:dI (.bV x') ρ h=some (v,h'):=hs;simp only[dI,aaB,acq]at SI;obtain⟨rfl,rfl⟩:=SI;exact fu.same hr (hρ x (by simp[SJ,Op.operands]) x' SO) (by simp[execOp,SJ])):A:=e
def z51{A:Prop} (e:A:=by
 have:=(Fr.push (N:=0) (es:=4) (h:=W++[ak.cells z true false]) (aaC _) [z] (λx hx=>by rw[aam]at hx;rw[hx,hz];rfl)).aY
 simpa only[aa5,abW,aaw,Z5,Z9,aaP]using this):A:=e
def Ru{A:Prop} (e:A:=by
 have:=vg (T:=T) (t:=t) (a:=x) (y-x) (λj h1 h2=>by
  have hj:l[j]? =some (l[j]'(by omega)):=Z6 (by omega);obtain⟨v,hv⟩:=Uu j _ hj;exact⟨_,v,hv,hno j _ h1 (by omega) hj⟩)
 rwa [show x+(y-x)=y from by omega]at this):A:=e
def z53{A:Prop} (e:A:=by
 rename_i hm;cases h;rw[aaD,aaD]at hm;obtain⟨f,hf⟩:=Option.isSome_iff_exists.1 hm.1.2;have h1:=acA hf;rw[aaD]at h1;exact .inr (.inr ⟨l3,rfl,hq.2,⟨l,hl⟩,2,ZG,.inr ⟨f,h1.1,h1.2⟩,hm.2⟩)):A:=e
def Rt{A:Prop} (e:A:=by
 refine⟨_,w',m',room Xi hlen U3 (by simp only[Xl];rw[iA];exact h0),⟨_,_,cap,h1,rfl,Xi,λ_=>?_,?_⟩,h2,h3⟩
 ·rw[Xl];simp only[Addr.mk.injEq,acE,and_true];omega
 ·show 0+(en.d+o)+cap*i.size<=en.sz;omega):A:=e
def Rr{A:Prop} (e:A:=by
 have SI:S j=true:=by unfold mark at hs;rwa [aab hji]at hs
 rw[dO (huniq j o d hji hj ho)];refine VR.mono ?_ _ _ (M.y8 d j o hj SI ho);intro b e hb;unfold cj.dQ at hb ⊢;split at hb
 ·rename_i hlt;rw[aai hlt];exact Vk _ _ hb
 ·cases hb):A:=e
def Rq{A:Prop} (e:A:=by
 have e2:(#[]++(⟨[.string ⟨⟨s⟩⟩,.int .u8 (c.toNat:Int)]⟩:Array Value)++#[])=#[]++#[.string ⟨⟨s⟩⟩,.int .u8 (c.toNat:Int)]++#[]:=rfl;simp only[e2,e',Result.andThen];exact⟨_,m,rfl,rfl,hr,Grow.refl m h w hr.cO⟩):A:=e
def ND{A:Prop} (e:A:=by
 cases hx:m h.length with
 |none=>rfl
 |some y=>exact absurd (hr.cO _ _ hx) (by omega)):A:=e
def NZ{A:Prop} (e:A:=by
 rw[S9,aaZ];simp only[abi,ab3,hd,aan,aae,aaX,abF]):A:=e
def z59{A:Prop} (e:A:=by
 rw[a5 i hi (by omega),hU i (by omega) hi'];by_cases UR:i=k
 ·subst UR;rw[aai rfl,aab (by omega),aai (by omega)]
 ·rw[aab UR];by_cases hil:i<k
  ·rw[aai hil,aai (by omega)]
  ·rw[aab hil,aab (by omega)]):A:=e
def JQ{A:Prop} (e:A:=by
 subst z;rcases hb' i hi with z|z
 ·exact SY z
 ·omega):A:=e
def Rp{A:Prop} (e:A:=by
 have hj:l[x+k]? =some (l[x+k]'(by omega)):=Z6 (by omega);rw[show x+(k+1)=x+k+1 from by omega,VD _ _ hj (hno _ _ (by omega) (by omega) hj)];exact ih (by omega) λj o h1 h2 h3=>hno j o h1 (by omega) h3):A:=e
def JP{A:Prop} (e:A:=by
 subst z;rcases hn i hi with z|z
 ·exact SY z
 ·omega):A:=e
def NY{A:Prop} (e:A:=by
 obtain⟨v,hv⟩:=Uu j _ (Z6 (show j<l.length by omega));rw[hv,nG];exact ih (by omega)):A:=e
def Ro{A:Prop} (e:A:=by
 split at hk
 case isFalse=>cases hk
 simp only[aav]at hk;obtain⟨ks,_,rfl⟩:=hk;exact fu.nU hr (GS (w:=w) (ox:=x) (oy:=y) hk0 hx hy hs) (λcv h=>by simp only[execOp,ho];rw[aat,h];rfl)):A:=e
def Rn{A:Prop} (e:A:=by
 refine⟨e,ts,h'++[ak.dead]++g',λr hr=>?_,done e h' g' hl Ut⟩;have:r=none:=hr;subst this;have:=Ev.gg (h:=h) (ps:=ps) (asg:=asg) (body:=body) hA hg hs (nJ hl) bY;rw[rY hl]at this;exact this):A:=e
def NX{A:Prop} (e:A:=by
 rw[aaO,Z6 hlt,aaZ];congr 1;cases hp:p L[k]<;>simp[hp]):A:=e
def Rm{A:Prop} (e:A:=by
 rw[aaO,Z6 TU]at hy';rcases aac.1 hy' with hy'|hy'
 ·exact hsf y' hy'
 ·simp only[Option.toList_some,aam]at hy';rw[hy',<-hy];exact h4):A:=e
def Rl{A:Prop} (e:A:=by
 refine zF hg SO ?_ (λt U1=>ht t ?_)
 ·exact aaE.1 hgok x (Array.mem_toList_iff.2 hx)
 ·subst U1;exact List.mem_append_left _ (List.mem_filterMap.2 ⟨.tmp t,by simpa using hx,rfl⟩)):A:=e
def Rk{A:Prop} (e:A:=by
 refine Rs (A2 @t0 @o1) ?_;refine WF.res T.c177 (r177 T (hx.ext Xx) (by simp;omega)) ?_;rintro s' g1 hf;have o2:=hf.aY.one;refine Rs (A3 @t0 @o1 @o2) ?_;exact⟨s',rfl,(Fr.swap hf (by simp)).low (by simp)⟩):A:=e
def z70{A:Prop} (e:A:=by
 rw[aab Tx]at SK;exact hr.sep b1 b2 e1 e2 k1 k2 hne Ug SU hk1 SK hcb):A:=e
def Rj{A:Prop} (e:A:=by
 have q:decide ((L.length:Int)≠M.length)=true:=Z8 (by omega);refine Rs (A5 @t0 @t1 hs.aH ht.aH @q) ?_;exact aax AV.bool (Z3 (λ(e:L=M)=>h1 (by rw[e]))).symm):A:=e
def z72{A:Prop} (e:A:=by
 refine⟨_,by omega,k+1,out,by omega,rfl,?_,rfl,rfl⟩;rw[S9,aaZ];simp only[abi,ab3,hd,aaU,aal,aaw];exact hfr.app _):A:=e
def Ri{A:Prop} (e:A:=by
 rw[bz]at hc;split at hc
 case isTrue hb=>exact absurd hc hb
 case isFalse hb=>
  unfold kh at hb;split at hb
  ·exact absurd (by decide) hb
  split at hb
  ·exact absurd (by decide) hb
  omega):A:=e
def NW{A:Prop} (e:A:=by
 obtain⟨h3,h4,h5⟩:=w.md x hx;exact⟨h3,h4,λt ht=>by rw[em];exact gW (h5 t ht)⟩):A:=e
def z75{A:Prop} (e:A:=by
 rw[aaR,Array.getElem?_replicate];split<;>rfl):A:=e
def z76{A:Prop} (e:A:=by
 have e3:=eF hlt;have e4:k=L.length:=by omega
 refine Rs (A5 @t0 @t1 @t5 @e3 hs.aH) ?_;rw[e4,aaI,h1,aaI]at hi;exact aax AV.bool (Z8 hi).symm):A:=e
def NV{A:Prop} (e:A:=by
 obtain⟨o,h1,h2⟩:=Xm j io hj;exact⟨o,h1,by rw[<- (dE h2).1];exact hd⟩):A:=e
def Rh{A:Prop} (e:A:=by
 have hi':i<x.ev.names.length:=by omega
 have:aL x.ev i=x.ev.names[i]:=by rw[aL,aaN,Z6 hi'];rfl
 rw[this];exact ox.n.lC hi' rfl e):A:=e
def NC{A:Prop} (e:A:=by
 by_cases e1:j=i
 ·subst e1;exact hlt
 ·rw[hne j e1];exact hl):A:=e
def z80{A:Prop} (e:A:=by
 rw[aaf (by simp;omega),aaf (by simp;omega)];simp):A:=e
def Rg{A:Prop} (e:A:=by
 have e3:=eF hlt;have e4:k=V.aj.length:=by omega
 refine Rs (A8 @t1 @t2 @t5 @t6 @lr @dC o.i2.aH @e3) ?_;rw[e4,aaI]at hfr;exact⟨Tj.trans he,hfr.aY⟩):A:=e
def NB{A:Prop} (e:A:=by
 have:=BD (listed:=listed) (by omega) TV ops.size hin;omega):A:=e
def Rf{A:Prop} (e:A:=by
 refine⟨λh1=>?_,λh1=>⟨l.length-(k+1),by omega,k+1,by omega,rfl,?_,rfl⟩⟩
 ·rw[hf,hd,aQ,aab h1]
 ·rw[hf,hd,aQ,aai (by omega)]):A:=e
def GF{A:Prop} (e:A:=by
 exact Rs (A3 @t0 @t1 @t2) trivial):A:=e
def z85{A:Prop} (e:A:=by
 rw[aaO,Z6 (by rw[hRl];exact hlt),hy];simp[RV.an]):A:=e
def Re{A:Prop} (e:A:=by
 rename_i cs;cases hl:cs.toList.mapM (mR n)with
 |none=>simp[hl]at h
 |some r=>simp[hl]at h;subst h;exact⟨cs.toList,rfl,wv m n (rf m n) _ _ hl⟩):A:=e
def z87{A:Prop} (e:A:=by
 have h1:=(s.bk.o.ep (b:=i) (by rw[<-e];simp[RV.bl])).2;have:=(htb i hi).1;omega):A:=e
def Rd{A:Prop} (e:A:=by
 unfold cj.add at Ui;by_cases hx:b=h.length
 ·rw[aai hx]at Ui;cases Ui;exact .inl ⟨hx,rfl⟩
 ·rw[aab hx]at Ui;exact .inr ⟨hr.cO _ _ Ui,Ui⟩):A:=e
def Rc{A:Prop} (e:A:=by
 simp only[F9,F8,F7,Jz,JA,Gc,Gb,Ga,M9,M8,abI,abe,ne_eq,aaB,and_true];omega):A:=e
def NA{A:Prop} (e:A:=by
 exact⟨_,by omega,k+1,by omega,rfl,eW.trans Xx,rfl⟩):A:=e
def z91{A:Prop} (e:A:=by
 refine Rs (J7 @t4 @t6 @t20 @t21 @t22 @e3 @ix @ld @e5 @l2 @l3 @bZ @jK @lk @hb @mp @a4) ?_;exact⟨_,by omega,k+1,_,by omega,rfl,rfl,hnew,rfl⟩):A:=e
def NU{A:Prop} (e:A:=by
 show(R.aC++[_]).length<=32;rw[Z1,aau];omega):A:=e
def z93{A:Prop} (e:A:=by
 rcases hn i z with z|z
 ·exact h3 (by rw[<-z];simp[RV.bl])
 ·have:=s.ln;omega):A:=e
def J9{A:Prop} (e:A:=by
 exact cH.fin Tb (λz=>absurd z (by decide))):A:=e
def Rb{A:Prop} (e:A:=by
 rw[aA (e.some hg0)];have:bI x.ev 1=1\/bI x.ev 1=2\/bI x.ev 1=3\/bI x.ev 1=4:=by omega
 rcases this with z|z|z|z<;>rw[z]<;>rfl):A:=e
def Nz{A:Prop} (e:A:=by
 simp only[aam,aaB]at z;omega):A:=e
def Ra{A:Prop} (e:A:=by
 rw[aaO,Z6 hlt,tP];simp only[Option.toList_some,cZ,aaP,aaQ];rw[abR (by omega)]):A:=e
def J8{A:Prop} (e:A:=by
 exact cH.fin sY (λz=>absurd z (by decide))):A:=e
def Q9{A:Prop} (e:A:=by
 cases hk:cG oj.k with
 |true=>exact .inl rfl
 |false=>
  cases SK:lh oj with
  |true=>exact .inr rfl
  |false=>have:=hHh j oj h3 hk SK;omega):A:=e
def K9{A:Prop} (e:A:=by
 refine⟨λhm=>(by cases hm),λ_=>⟨Xv,s.ln,s.tp,s.sh,?_⟩⟩;show A.aC=(R.aC++_).filter _;rw[aaZ,s.md];simp[abo hn]):A:=e
def K8{A:Prop} (e:A:=by
 have hne:io.dst≠some d:=hd i io hio (by simp[mark]);rw[dO hne];refine M.y9 d λj o hj hs=>hd j o hj ?_
 unfold mark;split
 ·rfl
 ·exact hs):A:=e
def K7{A:Prop} (e:A:=by
 have d1:decide (n<10)=true:=Z8 h10;refine Ws (A4 @d0 @d1 @ve @zM) ?_;rw[k5,Lib.decDigits,dif_pos (by omega),zH h0 h10]):A:=e
def K6{A:Prop} (e:A:=by
 have e3:=jM hmo (show i<j by omega) hio hj YG (hrp hk) Wh (hld hk) (.inl ⟨Uo,hk⟩);have e4:=hcl j i UQ hin e3;rw[TV]at e4;cases e4):A:=e
def K5{A:Prop} (e:A:=by
 rw[VR]at ha hv ⊢;obtain⟨e,he,_⟩:=ha;obtain⟨e',TP,hv⟩:=hv;exact⟨e',by unfold cj.dQ;rw[aai (hd _ _ he)];exact TP,hv⟩):A:=e
def z105{A:Prop} (e:A:=by
 exact h3 (by rw[<-z];simp[RV.bl])):A:=e
def K4{A:Prop} (e:A:=by
 have:=(Fr.push (N:=0) (es:=3) (h:=W4) (aaC _) [z] (λx hx=>by rw[aam]at hx;rw[hx,hz];rfl)).aY
 simpa using this):A:=e
def z107{A:Prop} (e:A:=by
 simp only[aO,aT,aZ,a8,Nat.reduceAdd,Nat.reduceMul,Nat.reduceLeDiff,Nat.reduceEqDiff,bd,hlen,aal,aan,t0,aA hg.1]):A:=e
def K3{A:Prop} (e:A:=by
 have hl:=(Z2.1 this).1;rw[Z6 hl]at this;rw[<-aa0 this];exact List.set_getElem_self hl):A:=e
def z109{A:Prop} (e:A:=by
 split at hn
 case isFalse=>cases hn
 rename_i U8;subst U8;cases hn;obtain⟨e,rfl⟩:=hd;simp[Builtin.len_,U4,aas hu,goInt]):A:=e
def KZ{A:Prop} (e:A:=by
 by_cases hab:a=b
 ·simp[dm,cX,hab,Bc]
 ·have:(a==b)=false:=by simp[hab]
  simp[dm,cX,hab,Bc,this]):A:=e
def Ad{A:Prop} (e:A:=by
 subst z;have:=(hnt i hi).1;omega):A:=e
def HK{A:Prop} (e:A:=by
 rw[ei];refine Rs (A5 @t0 @t1 @ix @ld @on) ?_;exact⟨x,Us,sp,rfl⟩):A:=e
def KY{A:Prop} (e:A:=by
 have:kh V.an x.ev=3:=by rw[kh,aab (by rw[h1];decide),<-jx.e,aai h2]
 rw[bz,aai (by rw[this];decide),this]):A:=e
def BB{A:Prop} (e:A:=by
 simp only[RV.an,abf];rfl):A:=e
def KX{A:Prop} (e:A:=by
 simp only[aaR,aaV (show i<listed.size by omega),acg]at hl ⊢;exact hl):A:=e
def z116{A:Prop} (e:A:=by
 obtain⟨h1,h2,h3⟩:=s.kl i hi;rw[hk i (aaY h1 s.ln) (λz=>h3 (by rw[<-z];simp[RV.bl]))];exact s.kp i hi):A:=e
def z117{A:Prop} (e:A:=by
 obtain⟨y,hy,rfl⟩:=aaA.1 hx;have:=uD w.n2 (aao (f:=jc.name) (aa6.1 hy).1);omega):A:=e
def KW{A:Prop} (e:A:=by
 have W9:(ps.map λ(i,x)=>(i,σ x)).toList=ps.toList.map λp=>(p.1,σ p.2):=by simp
 rw[W9,T8];simp[newRow]):A:=e
def z119{A:Prop} (e:A:=by
 by_cases hlt:j<i
 ·have:=Ur (j+1) i (by omega) (by omega);omega
 ·have:=Ur (i+1) j (by omega) (by omega);omega):A:=e
def KV{A:Prop} (e:A:=by
 have e3:V.cM.length=V.bY.cM.length:=by simp[HV.bY]
 have e4:V.bY.c9.length=V.c9.length:=by simp[HV.bY]
 omega):A:=e
def KU{A:Prop} (e:A:=by
 refine Rs (A3 @t0 @t1 @aay) ?_;refine WF.ce T.c15 (ha0 _ Xx) λg2=>?_
 refine Rs @t0 ?_;exact⟨e0.trans Xx,rfl⟩):A:=e
def KT{A:Prop} (e:A:=by
 split at h
 ·rename_i h1 h2 h3 h4;simp only at h1 h2 h3 h4;subst h1;subst h2;subst h3;subst h4;cases h;rfl
 ·cases h):A:=e
def Ac{A:Prop} (e:A:=by
 exact Ws (A2 @hld @Uc) trivial):A:=e
def z124{A:Prop} (e:A:=by
 rw[VR]at ha hv ⊢;obtain⟨l1,_,h1⟩:=ha;obtain⟨l2,hv,h2⟩:=hv;exact⟨l2,hv,cL.cut hd l _ _ h1 h2⟩):A:=e
def KS{A:Prop} (e:A:=by
 rcases aac.1 hx with hx|hx
 ·exact w.ev x hx
 ·rw[aam]at hx;subst hx;exact⟨d,we⟩):A:=e
def KR{A:Prop} (e:A:=by
 show 0+(dY k z.cells).length<=row.size;rw[jT,hrs,hzl,aaP];exact abc _ YJ):A:=e
def z127{A:Prop} (e:A:=by
 have e1:decide (kh V.an x.ev≠0)=true:=Z8 hb;refine Rs (A3 @t0 @t1 @e1) ?_;rw[bz,aai hb]):A:=e
def D9{A:Prop} (e:A:=by
 rw[ei];exact Rs (A4 @t0 @t1 @ix @ld) trivial):A:=e
def HJ{A:Prop} (e:A:=by
 rw[<-Tn]at hx;exact e1 (huniq j i oj io d hj hio Vz hx)):A:=e
def z130{A:Prop} (e:A:=by
 refine WF.ce T.c254 (Z.atoi Tn.2 (by simp) (by omega)) λg2=>?_
 refine Rs @t0 ?_;unfold lF;rw[e1];rfl):A:=e
def z131{A:Prop} (e:A:=by
 obtain⟨ma,va,h1,h2⟩:=h;exact⟨ma,va,λb e hb=>aaY (h1 b e hb) hnk,h2⟩):A:=e
def HI{A:Prop} (e:A:=by
 exact propext ⟨λz=>by omega,λz=>by omega⟩):A:=e
def D8{A:Prop} (e:A:=by
 simp only[RV.an,abf];rfl):A:=e
def D7{A:Prop} (e:A:=by
 rw[this];exact List.set_getElem_self _):A:=e
def KQ{A:Prop} (e:A:=by
 have hne:=hb' b 0 _ _ rfl;rw[<-aa1 _ _ hN,aaj (abo hne)]):A:=e
def KP{A:Prop} (e:A:=by
 have:kh V.an x.ev=23:=by rw[kh,aai h1]
 rw[bz,aai (by rw[this];decide),this]):A:=e
def HH{A:Prop} (e:A:=by
 rw[hr]at h1;simp only[aaQ]at h1;omega):A:=e
def z138{A:Prop} (e:A:=by
 rename_i hu;cases hf;exact⟨_,hu,λ_=>rfl⟩):A:=e
def z139{A:Prop} (e:A:=by
 exact⟨_,by omega,k+1,by omega,rfl,eW,rfl⟩):A:=e
def KO{A:Prop} (e:A:=by
 refine hall ?_;cases hy:fE s[k]with
 |false=>rfl
 |true=>have:=kZ.1 hy;omega):A:=e
def z141{A:Prop} (e:A:=by
 have a1:=hdom b e TT;have a2:=fW hlen (i:=θ) (j:=j) (by omega) (by omega);omega):A:=e
def D6{A:Prop} (e:A:=by
 have:=st.ts.length;simpa using this):A:=e
def z143{A:Prop} (e:A:=by
 subst he;rw[aai rfl]at q4;simp only[aaq,aan];exact⟨h5,g5,rfl,h6,q4⟩):A:=e
def KN{A:Prop} (e:A:=by
 simp only[eV,rr,aaB,AV.bool.injEq];by_cases hab:x=y<;>simp[hab]):A:=e
def z145{A:Prop} (e:A:=by
 rw[aaf (by omega),ack,Nat.add_sub_cancel' (by omega)]):A:=e
def z146{A:Prop} (e:A:=by
 exact fin (kX h2 h3) h1 h4 h5):A:=e
def KM{A:Prop} (e:A:=by
 simp only[stepT,nM,qO];cases val ts x with
 |func f a c=>cases f<;>rfl
 |_=>rfl):A:=e
def z148{A:Prop} (e:A:=by
 cases k2<;>first|trivial|exact absurd rfl hl):A:=e
def KL{A:Prop} (e:A:=by
 simp only[RV.bl,aac,aaA];exact .inl (.inl (.inr ⟨x,hx,hb⟩))):A:=e
def KK{A:Prop} (e:A:=by
 rcases aac.1 hx with hx|hx
 ·exact hs.aY.rows x hx
 ·exact hy.rows x hx):A:=e
def HG{A:Prop} (e:A:=by
 have:=hTl l.length (aah _);simp;omega):A:=e
def z152{A:Prop} (e:A:=by
 exact cH.fin Uz (λz=>absurd z (by decide))):A:=e
def KJ{A:Prop} (e:A:=by
 cases hs with
 |nil=>exact .nil
 |mk hN hb he=>exact .mk hN ((hk _ rfl).trans hb) he):A:=e
def z154{A:Prop} (e:A:=by
 rw[<-hS,abx];rintro⟨y,hy,hy2⟩;rw[hsf y hy]at hy2;cases hy2):A:=e
def KI{A:Prop} (e:A:=by
 rw[Z4,aaf (aah _),abb];rfl):A:=e
def z156{A:Prop} (e:A:=by
 exact cH.fin s (λz=>absurd z (by decide))):A:=e
def z157{A:Prop} (e:A:=by
 rw[aa1 _ _ (aah _),abb,Z4];rfl):A:=e
def KH{A:Prop} (e:A:=by
 simp only[RV.bl,aac,aaA];exact .inl (.inr ⟨x,hx,hb⟩)):A:=e
def z159{A:Prop} (e:A:=by
 simp only[aav]at hc;obtain⟨f,_,rfl⟩:=hc;exact hs.elim):A:=e
def z160{A:Prop} (e:A:=by
 rw[fY,<-jx.e,aaN,Z6 hsl];rfl):A:=e
def KG{A:Prop} (e:A:=by
 rw[fY,<-Ww,aaN,Z6 hlt];rfl):A:=e
def z162{A:Prop} (e:A:=by
 rw[aaO,Z6 hlt,gE,List.foldl_append];rfl):A:=e
def KF{A:Prop} (e:A:=by
 rw[aaf hN,aak (by simp at hbl;omega)]):A:=e
def z164{A:Prop} (e:A:=by
 rw[hh]at hi;refine Rs (A5 @t2 @t3 @t5 @t6 @hi) ?_;exact⟨XB.trans Xx,rfl⟩):A:=e
def HF{A:Prop} (e:A:=by
 rw[em];exact w.n3.add (gn 0 (by decide)) f0):A:=e
def KE{A:Prop} (e:A:=by
 rw[Z4 (h++[ak.bA (lZ ds vf)]) g];exact K _ _ (s.put g1 hc)):A:=e
def z167{A:Prop} (e:A:=by
 cases UP:o.k<;>rw[UP]at hk<;>first|(cases hk;done)|simp[nf,UP]):A:=e
def z168{A:Prop} (e:A:=by
 rw[Ww];unfold kh at hb;split at hb
 ·cases hb
 split at hb
 ·cases hb
 omega):A:=e
def KD{A:Prop} (e:A:=by
 rw[aaK];exact propext ⟨λz=>by omega,λz=>by omega⟩):A:=e
def KC{A:Prop} (e:A:=by
 cases ok
 ·exact We
 ·exact⟨_,rfl,_,_,rfl,We,_,_,rfl,rfl,rfl⟩):A:=e
def z171{A:Prop} (e:A:=by
 exact⟨hone,v,by rw[YK _ (by omega)];exact hv,VR.mono Vu _ _ SL⟩):A:=e
def KB{A:Prop} (e:A:=by
 refine WF.ce T.c15 (ha _ Xx) λg2=>?_
 refine Rs @t0 ?_;exact⟨Xx,rfl⟩):A:=e
def z173{A:Prop} (e:A:=by
 rw[<-om];exact hF.aD λj hj=>ne j (by have:=hlo j hj;omega)):A:=e
def KA{A:Prop} (e:A:=by
 simp only[RV.bl,aac,aaA];exact .inr ⟨x,hx,hb⟩):A:=e
def z175{A:Prop} (e:A:=by
 rw[Z1,abd,abd];omega):A:=e
def Kz{A:Prop} (e:A:=by
 exact⟨_,by omega,i+1,by omega,rfl,e2.trans Xx,by rw[Uw],rfl⟩):A:=e
def D5{A:Prop} (e:A:=by
 rw[aab hbb]at ht;exact ht):A:=e
def Ky{A:Prop} (e:A:=by
 subst hn;exact .of hmix hA (H (aW A.nt [a0,a1,a2]) hl rfl rfl rfl)):A:=e
def Kx{A:Prop} (e:A:=by
 simp only[Z1,Z5,Z9];omega):A:=e
def Kw{A:Prop} (e:A:=by
 rw[aaa];exact aaT (aaF _ _) w.l2):A:=e
def Kv{A:Prop} (e:A:=by
 obtain⟨cv',m',rfl,h1,h2,h3⟩:=he;exact hn cv' m' w'' h1 h2 h3):A:=e
def z182{A:Prop} (e:A:=by
 exact⟨s.length-(k+1),by omega,k+1,by omega,rfl,rfl,rfl⟩):A:=e
def z183{A:Prop} (e:A:=by
 exact dl (by omega) (by omega)):A:=e
def Ku{A:Prop} (e:A:=by
 simp only[FQ,GA,Ex.leaves,acE];cases cT rs ts h<;>simp):A:=e
def Ks{A:Prop} (e:A:=by
 rename_i hu;rw[hu]at Wl;cases Wl;cases hf;exact hone rfl rfl hu):A:=e
def Kq{A:Prop} (e:A:=by
 rw[Ud];exact cH.fin s5 (λ_=>by simp only[dF,sp,hp];rfl)):A:=e
def Kp{A:Prop} (e:A:=by
 refine⟨_,by omega,k+1,by omega,rfl,XW.trans Xx,hu,rfl⟩):A:=e
def Ko{A:Prop} (e:A:=by
 refine⟨_,by omega,k+1,by omega,rfl,U1.trans Xx,hu,rfl⟩):A:=e
def Kn{A:Prop} (e:A:=by
 have:=hlate j oj hj hk hjf (by omega);rw[UQ]at this;cases this):A:=e
def Km{A:Prop} (e:A:=by
 simp only[WR,jd.app,aaU,false_implies,acE]):A:=e
def Kl{A:Prop} (e:A:=by
 refine⟨_,by omega,k+1,by omega,rfl,hx.trans Xx,hu,rfl⟩):A:=e
def HE{A:Prop} (e:A:=by
 subst e1;rw[TV]at UQ;cases UQ):A:=e
def z193{A:Prop} (e:A:=by
 rw[beq_eq_false_iff_ne];rintro rfl;exact absurd hc.1 (by decide)):A:=e
def z194{A:Prop} (e:A:=by
 refine Rs (A3 @t0 @t1 @fx) ?_;exact⟨g',V',rfl,h1,h2⟩):A:=e
def Kk{A:Prop} (e:A:=by
 exact⟨_,by omega,k+1,by omega,rfl,hx.trans Xx,hi,rfl⟩):A:=e
def z196{A:Prop} (e:A:=by
 simp only[stepT,nM];cases eV op (val ts x) (val ts y)<;>rfl):A:=e
def Kj{A:Prop} (e:A:=by
 simp only[RV.bl,l1,l2,e2,Z4,abe]):A:=e
def z198{A:Prop} (e:A:=by
 subst hn;exact .of hmix hA (H (aW A.nt [a0,a1]) hl rfl rfl)):A:=e
def Ki{A:Prop} (e:A:=by
 subst h3;exact⟨cv,w,m,h1,h2,hr,Grow.refl m _ w hr.cO⟩):A:=e
def Kh{A:Prop} (e:A:=by
 refine .run hw (by rw[hk];trivial) ?_;rw[hk];exact nZ hs):A:=e
def z201{A:Prop} (e:A:=by
 exact⟨_,_,rfl,.inr ⟨Jh hlt (by omega),by omega⟩⟩):A:=e
def Kg{A:Prop} (e:A:=by
 exact⟨_,[],rfl,⟨.nil,λx hx=>by cases hx⟩,rfl⟩):A:=e
def z203{A:Prop} (e:A:=by
 simp only[fK,RV.an,abA,abJ];rfl):A:=e
def HD{A:Prop} (e:A:=by
 exact(bad (by rw[T5];rfl) Xx).2):A:=e
def Kf{A:Prop} (e:A:=by
 simp only[ab0,aaU,aal];omega):A:=e
def z206{A:Prop} (e:A:=by
 exact lU (by rw[hTl];exact M.size) (VR.mono h1 _ _ hv)):A:=e
def Ke{A:Prop} (e:A:=by
 rw[aab UR];simp only[acx (abo UR)]):A:=e
def z208{A:Prop} (e:A:=by
 cases k<;>first|exact H|exact absurd ⟨_,_,rfl⟩ hc):A:=e
def Kc{A:Prop} (e:A:=by
 simp only[Z1,aau];omega):A:=e
def z210{A:Prop} (e:A:=by
 rw[bG]at hl;subst hl;cases hf;exact⟨cx,rfl,hx⟩):A:=e
def Kb{A:Prop} (e:A:=by
 have:c=[]:=aa9.1 h;subst this;rfl):A:=e
end Go.Abs
