/- Ends of proofs that stand in more than one place. No condition. -/
import Derived.Tactics
set_option linter.all false
namespace Go.Abs
def ZL:=@List.length_append
def ZM:=@List.getElem?_eq_some_iff
def ZN:=@decide_eq_false
def ZO:=@List.append_assoc
def ZP:=@List.length_cons
def ZQ:=@List.getElem?_append_left
def ZR:=@decide_eq_true
def ZS:=@List.getElem?_eq_getElem
def ZT:=@List.length_nil
def ZU:=@List.length_map
def ZV:=@List.map_append
def ZW:=@if_neg
def ZX:=@List.mem_append
def ZY:=@if_pos
def ZZ:=@List.getElem_mem
def Z0:=@Nat.le_refl
def Z1:=@List.getElem?_append_right
def Z2:=@Result.andThen_ok
def Z3:=@if_false
def Z4:=@List.getElem?_set_ne
def Z5:=@decide_true
def Z6:=@List.length_singleton
def Z7:=@if_true
def Z8:=@List.getElem?_set_self
def Z9:=@List.mem_singleton
def aaa:=@Array.getElem?_eq_some_iff
def aab:=@run_underlying
def aac:=@decide_false
def aad:=@Bool.not_true
def aae:=@Sem.run_bind
def aaf:=@List.append_nil
def aag:=@Option.map_eq_some_iff
def aah:=@List.mem_map_of_mem
def aai:=@Bool.not_false
def aaj:=@List.take_length
def aak:=@Option.some.injEq
def aal:=@List.mem_map
def aam:=@Nat.zero_le
def aan:=@congrArg
def aao:=@List.mem_cons_of_mem
def aap:=@List.mem_cons
def aaq:=@Bool.and_eq_true
def aar:=@List.getD_eq_getElem?_getD
def aas:=@List.all_eq_true
def aat:=@Sem.run_pure
def aau:=@List.take_of_length_le
def aav:=@List.length_filter_le
def aaw:=@List.length_take
def aax:=@List.length_set
def aay:=@List.take_add_one
def aaz:=@Nat.le_trans
def aaA:=@decide_eq_true_eq
def aaB:=@Array.getD_eq_getD_getElem?
def aaC:=@Bool.false_eq_true
def aaD:=@Nat.zero_add
def aaE:=@List.set_append_right
def aaF:=@Array.getElem?_eq_getElem
def aaG:=@Nat.lt_of_lt_of_le
def aaH:=@List.mem_cons_self
def aaI:=@List.not_mem_nil
def aaJ:=@List.map_cons
def aaK:=@List.mem_of_getElem?
def aaL:=@List.take_append_drop
def aaM:=@List.pairwise_cons
def aaN:=@Option.some.inj
def aaO:=@List.length_eq_zero_iff
def aaP:=@List.mem_of_mem_take
def aaQ:=@of_decide_eq_true
def aaR:=@Nat.sub_self
def aaS:=@Option.bind_eq_some_iff
def aaT:=@List.drop_length
def aaU:=@Nat.mul_le_mul_right
def aaV:=@List.length_replicate
def aaW:=@List.getElem_map
def aaX:=@List.cons_append
def aaY:=@List.getElem?_cons_zero
def aaZ:=@List.mem_range
def aa0:=@List.flatten_cons
def aa1:=@List.pairwise_append
def aa2:=@Bool.not_eq_true'
def aa3:=@List.mem_filter
def aa4:=@Array.getElem?_setIfInBounds_self_of_lt
def aa5:=@Nat.succ_mul
def aa6:=@List.getLastD_eq_getLast?
def aa7:=@List.length_drop
def aa8:=@List.getElem?_map
def aa9:=@List.getElem?_cons_succ
def aba:=@List.length_pos_iff
def abb:=@List.drop_eq_getElem_cons
def abc:=@List.drop_zero
def abd:=@List.map_nil
def abe:=@Ne.symm
def abf:=@List.filter_append
def abg:=@List.nil_append
def abh:=@Array.getElem?_toList
def abi:=@List.getElem?_toArray
def abj:=@List.flatten_append
def abk:=@List.drop_drop
def abl:=@Decidable.not_not
def abm:=@or_false
def abn:=@eq_false
def abo:=@Array.getElem?_eq_none
def abp:=@List.all_cons
def abq:=@List.take_succ_cons
def abr:=@List.replicate_succ
def abt:=@List.map_map
def abu:=@List.pairwise_singleton
def abv:=@decide_eq_false_iff_not
def abw:=@Bool.or_eq_true
def abx:=@List.any_eq_true
def aby:=@Array.getElem?_setIfInBounds_ne
def abz:=@List.mem_or_eq_of_mem_set
def abA:=@List.filter_cons
def abB:=@decide_eq_decide
def abC:=@List.append_cancel_left
def abD:=@List.take_zero
def abE:=@Nat.min_eq_left
def abF:=@Option.map_some
def abG:=@UInt8.toNat_inj
def abH:=@List.length_reverse
def abI:=@List.drop_eq_nil_of_le
def abJ:=@Bool.true_and
def abK:=@List.getElem?_eq_none
def abL:=@List.getElem_set_self
def abM:=@Bool.false_ne_true
def abN:=@List.flatten_replicate_singleton
def abO:=@List.count_le_length
def abP:=@List.filter_nil
def abQ:=@List.filter_map
def abR:=@List.getElem?_take_of_lt
def abS:=@List.all_append
def abT:=@Nat.zero_mul
def abU:=@List.map_set
def abV:=@List.getElem_of_mem
def abW:=@Option.bind_eq_bind
def abX:=@Nat.mul_one
def abY:=@Array.length_toList
def abZ:=@Bool.false_or
def ab0:=@Option.getD_some
def ab1:=@List.findIdx?_cons
def ab2:=@List.getElem?_drop
def ab3:=@Nat.add_mul
def ab4:=@List.foldl_cons
def ab5:=@Option.map_none
def ab6:=@Prod.mk.injEq
def ab7:=@List.ext_getElem?
def ab8:=@Function.comp_def
def ab9:=@List.any_cons
def aca:=@List.mapM_cons
def acb:=@Eq.trans
def acd:=@List.getElem_set_ne
def ace:=@List.replicate_zero
def acf:=@Array.ext'
def acg:=@Nat.le_of_lt
def ach:=@Nat.add_zero
def aci:=@Bool.true_or
def acj:=@List.find?_some
def ack:=@Option.pure_def
def acm:=@List.nodup_cons
def acn:=@Nat.le_succ
def aco:=@true_and
def acp:=@eq_true
abbrev By:=List UInt8
def Tv:True:=trivial
def Om{A:Prop}(e:A:=by omega):A:=e
def De{A:Prop}(e:A:=by decide):A:=e
def Si{A:Prop}(e:A:=by simp):A:=e
def z1{A:Prop} (e:A:=by
 refine Ws hs.aL ?_;refine WL.inv T.mix (λn ts h'=>∃k:Nat,k<=L.length/\n=L.length-k/\Ext h h'/\L.findIdx? p=((L.drop k).findIdx? p).map (· +k)/\ts.length=19/\slot ts 0=s/\slot ts 1=f/\slot ts 7=.i L.length/\slot ts 8=.i k) L.length
  ⟨0,by omega,rfl,Ext.refl h,by simp,rfl,rfl,rfl,rfl,rfl⟩ ?_
 rintro _ ts _ ⟨k,hk,rfl,⟨g,rfl⟩,hi,hlen,t0,t1,t7,t8⟩;rw[mh ts 19 hlen];by_cases hlt:k<L.length
 ·have hd:L.drop k=L[k]::L.drop (k+1):=by simp
  have e3:(k:Int)<L.length:=by omega
  simp only[aQ,aR,aX,aY,Nat.reduceAdd,Nat.reduceMul,Nat.reduceLeDiff,Nat.reduceEqDiff,t0,t1,t7,t8,e3,Z5,hs.dA hlt,hs.kR hlt];refine WF.val (hf L[k] (by simp) _ ⟨g,rfl⟩) ?_;rintro _ g1 rfl;cases hp:p L[k]with
  |true=>
   refine Ws @t8 ?_;rw[de,hi,hd,ab1,hp];simp
  |false=>
   refine Ws (A2 @t8 (wrapN (show k+1<2^63 by omega))) ?_;refine⟨_,?_,k+1,by omega,rfl,?_,rfl⟩
   ·omega
   ·rw[hi,hd,ab1,hp];simp only[aaC,Z3,Option.map_map];congr 1;funext i;simp only[Function.comp];omega
 ·have e3:¬(k:Int)<L.length:=by omega
  have e4:k=L.length:=by omega
  refine Ws (A6 @t0 @t1 @t7 @t8 @e3 @aac) ?_;rw[de,hi,e4,aaT];rfl):A:=e
def z2{A:Prop} (e:A:=by
 rw[hrow]at hff;rw[hrow];refine Ws (A6 @t1 @t5 @t8 @t9 @t10 (wrapN (show k+1<2^63 by omega))) ?_;have hout:∀b,sB out=some b->b<(h++g).length:=λb hb=>(hfr.bB hb).2
 have hnew:∀b,sB s' =some b->(h++g).length<=b/\b<(h++g).length+(1+g1.length):=λb hb=>by
  have:=Zy.bB hb;simp only[ZL,ZP,ZT]at this ⊢;omega
 have hold:∀x∈L',∀b,sB x.2=some b->b<(h++g).length/\sB out≠some b:=λx hx b hb=>by
  refine⟨((hin x hx).bB hb).2,λe=>?_⟩;exact(aaM.1 Tt).1 _ (aah hx) b e hb
 refine⟨_,?_,k+1,_,L'++[(L[k].1,s')],by omega,rfl,?_,hff,?_,?_,rfl,rfl⟩
 ·omega
 ·rw[ZV,hm,aay,ZS hlt,ZV];rfl
 ·intro x hx;rcases ZX.1 hx with hx|hx
  ·refine((((hin x hx).app _).app _).app _).aB λb hb=>hkp b ?_ λb0 o n e hso=>?_
   ·have:=(hold x hx b hb).1;simp only[ZL]at this ⊢;omega
   ·intro e;subst e;exact(hold x hx b hb).2 (by rw[hso];rfl)
  ·rw[Z9]at hx;subst hx;refine Fr.low (N:=(h++g++[an.cells [] true true]).length) ?_ (by simp only[ZL];omega);refine Fr.aB (h:=_) ((Zy.app _).low ?_) λb hb=>hkp b ?_ λb0 o n e hso=>?_
   ·simp
   ·have:=hnew b hb;simp only[ZL,ZP,ZT]at this ⊢;omega
   ·intro e;subst e;have h1:=hout b (by rw[hso];rfl);have h2:=(hnew b hb).1;omega
 ·have em:(L'++[(L[k].1,s')]).map (λx=>sB x.2)=(L'.map λx=>sB x.2)++[sB s']:=by rw[ZV];rfl
  rw[em];refine aaM.2 ⟨?_,aa1.2 ⟨(aaM.1 Tt).2,abu _ _,?_⟩⟩
  ·intro y hy b hb Vs;cases hb;rcases ZX.1 hy with hy|hy
   ·obtain⟨x,hx,rfl⟩:=aal.1 hy;have:=(hold x hx _ Vs).1;simp only[ZL]at this;omega
   ·rw[Z9]at hy;rw[hy]at Vs;have:=(hnew _ Vs).2;simp only[ZL,ZP,ZT]at this;omega
  ·intro y hy z hz b hb hzb;obtain⟨x,hx,rfl⟩:=aal.1 hy;rw[Z9]at hz;rw[hz]at hzb;have h1:=(hold x hx _ hb).1;have h2:=(hnew _ hzb).1;omega):A:=e
def z3{A:Prop} (e:A:=by
 obtain⟨V2,rfl,sb,K1⟩:=fin hv;refine Rs (A4 @t3 @t4 @t7 @sb) ?_;refine K1 _ ?_ ?_ ?_ ?_ ?_
 ·simp only[bd,hlen]
 ·exact Zs @t3 trivial
 ·exact Zs @t4 trivial
 ·exact Zs @t7 trivial
 ·exact Zn trivial):A:=e
def z4{A:Prop} (e:A:=by
 refine WF.val (hvk _ (by repeat first|exact Ext.refl _|refine Ext.app _ ?_)) ?_;rintro _ g1 rfl;refine Wn ?_;refine WR.fP (h0:=h) (cs:=((L.take k).map F).map ak) (ys:=[ak (F L[k])]) ((((hfr.app _).app _).app _)) (Fr.push (N:=0) (aam _) [ak (F L[k])] (by simp[ak])).aO (by decide) (by simp) (by simp;omega) (by simp only[tf]) ?_;intro g' SI hff hkp;have hrow:((L.take k).map F).map ak++[ak (F L[k])]=((L.take (k+1)).map F).map ak:=by rw[aay,ZS hlt,ZV,ZV];rfl
 rw[hrow]at hff;rw[hrow];refine Ws (A6 @t1 @t5 @t8 @t9 @t10 (wrapN (show k+1<2^63 by omega))) ?_;refine⟨_,?_,k+1,_,by omega,rfl,hff,rfl,rfl⟩;omega):A:=e
def z5{A:Prop} (e:A:=by
 have e3:¬(k:Int)<L.length:=by omega
 have e4:k=L.length:=by omega
 refine Ws (A7 @t1 @t5 @t8 @t9 @t10 @e3 @aac) ?_;rw[e4,aaj]at hfr;exact hfr):A:=e
def z6{A:Prop} (e:A:=by
 rw[hrow]at hff;rw[hrow];refine Ws (A6 @t1 @t5 @t8 @t9 @t10 (wrapN (show k+1<2^63 by omega))) ?_;refine⟨_,?_,k+1,_,by omega,rfl,hff,rfl,rfl⟩;omega):A:=e
def z7{A:Prop} (e:A:=by
 have Ua:some i∈V.bl:=by rw[hd];exact jG hi
 refine hk i (hin i Ua).2 (λe=>?_) (λe=>r.ne (e▸Ua));obtain⟨h1,h2,h3⟩:=aa1.1 Tt;rcases hi with hi|hi
 ·exact h3 _ hi _ (by simp) i rfl e
 ·exact(aaM.1 h2).1 _ hi i e rfl):A:=e
def z8{A:Prop} (e:A:=by
 have hrow:V.aD.map bf++[bf (y,t)]=(V.aD++[(y,t)]).map bf:=by rw[ZV];rfl
 rw[hrow]at hff;rw[hrow];have hbl:=r.lt;have SK:sB V.s3≠some b:=λe=>r.ne (by rw[<-e];simp[RV.bl])
 have hk1:∀i,i<(B++g).length->sB V.s3≠some i->(B++g')[i]? =(B++g)[i]? :=λi hi hne=>by
  rw[hkp i (by simp only[ZL]at hi ⊢;omega) (λb0 o n e he z=>hne (by rw[he,z];rfl))];exact(show Ext (B++g) _ from Xx).get hi
 have mB:(B++g')[b]? =some (.b V.row):=(hk1 b hbl SK).trans r.m;have VE:=λ(b' o n e:Nat)=>jn (i:=4) (v:=.slice b' o n e) mB rfl (by decide)
 refine Rs (A4 @t0 @t1 @VE @fH) ?_;refine Hh r hff ?_ (λi hi=>by cases hi;exact .inr (by simp only[ZL];omega)) hk1 ?_ ?_
 ·refine Fr.low (N:=(B++g).length) ((show Fr (B++g).length _ t 1 _ from TE.app _).aB λi hi=>hkp i ?_ (λb0 o n e he z=>?_)) (by simp)
  ·have:=(TE.bB hi).2;simp only[ZL]at this ⊢;omega
  ·have h1:=(TE.bB hi).1;have h2:=(r.o.i3.bB (show sB V.s3=some i by rw[he,z];rfl)).2;omega
 ·intro i hi;have h1:=TE.bB hi;refine⟨h1.1,λe=>?_⟩;cases e;have:=h1.2;simp only[ZL,ZP,ZT]at this;omega
 ·rw[hy];simp[RV.ao,dO]):A:=e
def z9{A:Prop} (e:A:=by
 rcases hn i hi with hn|hn
 ·exact .inl hn
 ·refine .inr ⟨λy hy e=>?_,λy hy e=>?_⟩
  ·subst e;have:=(hin i (by rw[hd];exact jG (.inl hy))).2;omega
  ·subst e;have:=(hin i (by rw[hd];exact jG (.inr hy))).2;omega):A:=e
def Oq{A:Prop} (e:A:=by
 refine⟨own,r.hN,hm,λhb=>?_⟩;have hbl:=r.lt;have Us:=r.ne;rw[hd]at Us;by_cases hsb:sB s=some b
 ·rcases hn b hsb with z|z
  ·exact Us (by rw[z];simp)
  ·omega
 ·by_cases htb:sB t=some b
  ·have:=(hnt b htb).1;omega
  ·have Ux:some b≠sB s:=λz=>hsb z.symm
   have htb':some b≠sB t:=λz=>htb z.symm
   simp only[RV.bl,ZV,aaJ,abd,ZX,aap,aaI,abm]at hb;simp only[ZX,aap,aaI,abm]at Us
   grind):A:=e
def J2{A:Prop} (e:A:=by
 rw[hkp i (by simp only[ZL]at hi ⊢;omega) (λb0 o n e he z=>hne (by rw[he,z];rfl))];exact(show Ext (B++g) _ from Xx).get hi):A:=e
def z12{A:Prop} (e:A:=by
 by_cases hex:∃(x:Nat) (ox:bN),l[x]? =some ox/\listed.getD x false=true/\ox.dst=some t
 ·obtain⟨x,ox,hx,hxl,VX⟩:=hex;obtain⟨oo,U9,Wi⟩:=TO x ox t hx VX;have hxi:x<i:=by
   by_cases e1:x=i
   ·subst e1;rw[TL]at hxl;cases hxl
   ·by_cases e2:x<i
    ·exact e2
    ·have e3:=(cW hsl (show i<x by omega) ho U9).2 t Wi ht;have e4:=hcl x i hxl hin e3;rw[TL]at e4;cases e4
  rw[SN (x+1) i t (by omega) (by omega) (λk o' a2 a3 a4 a5=>by have:=huniq x k ox o' t hx a4 VX a5;omega)];exact h2 t x ox hx hxl VX
 ·rw[SN 0 i t (by omega) (by omega) (λk o' e2 e3 e4 e5=>by
   obtain⟨oo,U9,Td⟩:=TO k o' t e4 e5;have h6:=((cW hsl e3 U9 ho).1 t Td).2 ht;exact hex ⟨k,o',e4,hahead k (aaa.1 U9).1 h6,e5⟩)]
  exact h1 t λj oj hj hl Td=>hex ⟨j,oj,hj,hl,Td⟩):A:=e
def Oo{A:Prop} (e:A:=by
 refine⟨(fn.aB λj hj=>kp j (ln j hj).2 λe=>?_).low (by simp only[ZL];omega),(fv.aB λj hj=>kp j (lv j hj).2 λe=>?_).low (by simp only[ZL];omega),λj hj e=>?_,λj hj e=>?_⟩
 ·have h1:=(ln j hj).1;have h2:=hout j e;omega
 ·have h1:=(lv j hj).1;have h2:=hout j e;omega
 ·have h1:=(ln j hj).2;have h2:=Um j e;omega
 ·have h1:=(lv j hj).2;have h2:=Um j e;omega):A:=e
def RC{A:Prop} (e:A:=by
 repeat (first|simp (config:={maxSteps:=1000000}) only[aQ,aR,aX,aY,Nat.reduceAdd,Nat.reduceMul,Nat.reduceLeDiff,Nat.reduceEqDiff,bd,hlen,Z3,Z7,t2,t3,t4,le,lr,bC,aP,bg,aE,SE,iO,reduceCtorEq,aac,Z5,gq,j1,f1,ix,l2,oJ.aL,e2,iy,lv,e3,sb,gm]|simp (config:={maxSteps:=1000000}) (disch:=first|(simp only[ZL,ZP,ZT]<;>omega)|rfl|omega|fail) only[eD,aQ,aR,aX,aY,Nat.reduceAdd,Nat.reduceMul,Nat.reduceLeDiff,Nat.reduceEqDiff,bd,hlen,Z3,Z7,t2,t3,t4,le,lr,bC,aP,bg,aE,SE,iO,reduceCtorEq,aac,Z5,gq,j1,f1,ix,l2,oJ.aL,e2,iy,lv,e3,sb,gm])
 rw[bD,ZW (λz=>z ZB),ZY h3];exact cJ.fin S2 (λz=>absurd z (by decide))):A:=e
def BE{A:Prop} (e:A:=by
 exact⟨by simp[Op.equalIn,aab hu],λl=>by simp,by simp,rfl,rfl⟩):A:=e
def Rz{A:Prop} (e:A:=by
 have hlt:=(ZM.1 hx).1;have SW:t<a1.tmps.size:=by have:=hTl l.length (Z0 _);omega
 have ex:(T l.length).getD t aA=x:=by simp[List.getD,hx]
 have ey:a1.tmps.getD t undef=a1.tmps[t]:=by simp[aaB,aaF SW]
 refine⟨a1.tmps[t],by simp,?_⟩;rw[<-ex,<-ey];by_cases hw:∃(j:Nat) (o:bN),l[j]? =some o/\o.dst=some t
 ·obtain⟨j,o,hj,ho⟩:=hw;have Vz:=(ZM.1 hj).1;rw[SN (j+1) l.length t (by omega) (Z0 _) (λk o' a2 a3 a4 a5=>by have:=huniq j k o o' t hj a4 ho a5;omega)];exact h2 t j o hj (hall j (by omega)) ho
 ·rw[SN 0 l.length t (by omega) (Z0 _) (λk o' _ _ h4 h5=>hw ⟨k,o',h4,h5⟩)];exact h1 t λj o hj _ ho=>hw ⟨j,o,hj,ho⟩):A:=e
def Ry{A:Prop} (e:A:=by
 cases x with
 |agg l=>cases hx
 |dz l=>cases hx
 |bool b=>rw[VR]at h;subst h;rfl
 |int k n=>rw[VR]at h;subst h;rfl
 |yc k b=>rw[VR]at h;obtain⟨_,rfl,_⟩:=h;rfl
 |xP k x y=>rw[VR]at h;obtain⟨_,_,rfl,_⟩:=h;rfl
 |str s=>rw[VR]at h;subst h;rfl
 |ptr b o=>rw[VR]at h;obtain⟨_,_,rfl⟩:=h;rfl
 |nilPtr=>rw[VR]at h;subst h;rfl
 |slice b o n e=>rw[VR]at h;obtain⟨_,_,_,_,rfl,_⟩:=h;rfl
 |af=>rw[VR]at h;subst h;rfl
 |map r=>rw[VR]at h;obtain⟨_,_,rfl⟩:=h;rfl
 |dF=>rw[VR]at h;subst h;rfl
 |func f a c=>rw[VR]at h;obtain⟨_,_,_,rfl,_⟩:=h;rfl
 |nilFunc=>rw[VR]at h;subst h;rfl
 |vB u a=>rw[VR]at h;obtain⟨_,rfl,_⟩:=h;rfl
 |la=>cases hx):A:=e
def Rx{A:Prop} (e:A:=by
 simp only[aaC,Z3,Option.map_map];congr 1;funext i;simp only[Function.comp];omega):A:=e
def J1{A:Prop} (e:A:=by
 obtain⟨h1,h2,h3⟩:=s.kl i hi;rw[g2 i h2,hk i (aaG h1 s.ln) (λz=>h3 (by rw[<-z];simp[RV.bl]))];exact s.kp i hi):A:=e
def z20{A:Prop} (e:A:=by
 simp only[RV.bl,ZV,aaJ,abd,ZX,aap,List.mem_nil_iff,abm]at h ⊢
 grind):A:=e
def z21{A:Prop} (e:A:=by
 have hX:Ext X (X++[.b V.row]++[.b x.row]++[.b lI]):=Xx;have ho:cP B.length (X++[.b V.row]++[.b x.row]++[.b lI]) V:=o.ar λi hi=>hX.get (o.eO hi).2
 refine⟨⟨ho,hx.len,by simp,λhi=>by have:=(o.eO hi).2;omega⟩,hx.trans hX,Z0 _,λ_ _=>rfl,λi hi=>?_⟩;simp only[ZL,ZP,ZT];rcases hi with⟨h1,h2⟩|h1|h1
 ·exact⟨by omega,by omega,h2⟩
 ·exact⟨by omega,by omega,λz=>by have:=(o.eO z).2;omega⟩
 ·exact⟨by omega,by omega,λz=>by have:=(o.eO z).2;omega⟩):A:=e
def Rw{A:Prop} (e:A:=by
 have e5:=wrapN (n:=k) (by omega);by_cases hp:L[k]=M[k]
 ·have q:decide (L[k]≠M[k])=false:=ZN (λz=>z hp);refine Rs (mQ @t0 @t1 @t5 @e3 hs.aL @ix @ld @iy @ly @q @e5) ?_;refine⟨_,by omega,k+1,by omega,rfl,?_,rfl⟩;rw[aay,aay,hi,ZS hlt,ZS SW,hp]
 ·have q:decide (L[k]≠M[k])=true:=ZR hp;refine Rs (kJ @t0 @t1 @t5 @e3 hs.aL @ix @ld @iy @ly @q) ?_;exact aan AV.bool (ZN (λ(e:L=M)=>hp (by simp only[e]))).symm):A:=e
def Rv{A:Prop} (e:A:=by
 split at hk
 case isFalse=>cases hk
 rename_i hg;cases Tc:flat P 20 t with
 |none=>simp[Tc]at hk
 |some ks=>
  simp[Tc]at hk;subst hk;have hb':zZ ks (ρ x) (ρ y)=some b:=hb;unfold zZ at hb';split at hb'
  case h_2=>cases hb'
  rename_i xs ys hxa Ue;rw[hxa]at hx;rw[Ue]at hy;obtain⟨lx,rfl,Vx⟩:=hx;obtain⟨ly,rfl,Vw⟩:=hy;split at hb'
  case isFalse=>cases hb'
  rename_i hlen;refine fin (xI hg) ?_ rfl rfl;exact Cn 20 t ks Tc 10000 (by omega) _ hu xs ys lx ly b hlen.1 hlen.2 Vx Vw hb' w):A:=e
def z24{A:Prop} (e:A:=by
 simp only[compile]at hc
 (repeat' split at hc)
 all_goals cases hc):A:=e
def NW{A:Prop} (e:A:=by
 have:∀n,rq (Array.replicate ops.size false) n<=n:=by
  intro n
  induction n with
  |zero=>exact Z0 _
  |succ n ihn=>simp only[rq];split<;>omega
 exact this _):A:=e
def Kk{A:Prop} (e:A:=by
 cases hk;exact fE.nO hr (G1 (w:=w) (ox:=x) (oy:=y) hk0 hx hy hs) (λcv h=>by simp only[execOp,ho];rw[aae,h];rfl)):A:=e
def On{A:Prop} (e:A:=by
 rcases hs.Pv with⟨rfl,rfl⟩|hq
 ·refine Ws @CS ?_;exact .nil
 ·refine Ws @hq ?_;refine WR.pg (N:=h.length) ba (Z0 _) (hs.ext (by repeat first|exact Ext.refl _|refine Ext.app _ ?_)) (by omega) λs' g hf=>?_
  refine Wn ?_;exact hf):A:=e
def z28{A:Prop} (e:A:=by
 obtain⟨xi,a1,a2⟩:=TO i oi d hi h1;obtain⟨xj,b1,b2⟩:=TO j oj d hj h2;by_cases hlt:i<j
 ·exact absurd b2 ((cW hsl hlt a1 b1).1 d a2).1
 ·by_cases VP:j<i
  ·exact absurd a2 ((cW hsl VP b1 a1).1 d b2).1
  ·omega):A:=e
def Ol{A:Prop} (e:A:=by
 show 0+0+nc*i.size<=(vo++vn).length+rest.length;rw[ZL,Tb,Tf,Y9,Uk];have e1:nc*i.size=(n+k)*i.size+(nc-(n+k))*i.size:=by rw[<-ab3];congr 1;omega
 rw[ab3]at e1;simp;omega):A:=e
def Ok{A:Prop} (e:A:=by
 rw[e]at hb;by_cases hsb:sB s=some b
 ·rcases hn b hsb with z|z
  ·exact Us (by rw[z];simp)
  ·omega
 ·rcases wJ hb with z|z|z
  ·exact Us (jG (.inl z))
  ·exact hsb z.symm
  ·exact Us (jG (.inr z))):A:=e
def z31{A:Prop} (e:A:=by
 have hlt:j<ops.size:=by have:=(ZM.1 hj).1;omega
 have ho:ops[j]? =some ops[j]:=aaF hlt;obtain⟨io',h1,h2⟩:=SG j ops[j] (by simp);rw[hj]at h1;cases h1;exact⟨_,ho,h2⟩):A:=e
def Ru{A:Prop} (e:A:=by
 have hsh:U.ao.aj=V.ao.aj.map (lC a z):=by
  refine List.ext_getElem (by simp[RV.ao,UG]) λi h1 h2=>?_
  have hi:i<U.aj.length:=by simpa [RV.ao]using h1
  have:=hU i hi (by omega);rw[ZY (by omega)]at this
  simpa [RV.ao]using this
 have heq:∀A C:hO,{A with aj:=C.aj} =C->A={C with aj:=A.aj}:=by
  intro A C h;cases A;cases C;simp_all
 have:=heq _ _ hreg;rw[this,hsh,dO,ha,hz]):A:=e
def Rt{A:Prop} (e:A:=by
 by_cases hxy:x<=y
 ·have:=Vo x (y-x) (by omega) (λj o h1 h2 h3=>by
   cases hk:cI o.k with
   |true=>rfl
   |false=>have:=hno j o h3 hk;omega)
  rw[show x+(y-x)=y from by omega]at this;exact this.symm
 ·have:=Vo y (x-y) (by omega) (λj o h1 h2 h3=>by
   cases hk:cI o.k with
   |true=>rfl
   |false=>have:=hno j o h3 hk;omega)
  rw[show y+(x-y)=x from by omega]at this;exact this):A:=e
def Oj{A:Prop} (e:A:=by
 subst e;by_cases hsi:sB s=some i
 ·exact n2 hsi
 ·have:=(hin i (by rw[hd];simp only[ZX,aap,aaI,abm]at hy ⊢;have hsi':some i≠sB s:=λz=>hsi z.symm;grind)).2;omega):A:=e
def NV{A:Prop} (e:A:=by
 obtain⟨e,he,hb,hor⟩:=(oT hed ho).2 x hx ha;have hle:=XW e he hb;rcases hor with rfl|hor
 ·exact hle
 ·exact hcl e.on x hle hx hor):A:=e
def Rr{A:Prop} (e:A:=by
 simp only[hop]at hc;split at hc
 case h_2=>cases hc
 rename_i kt e x' i' y' hu SA hi' hy';simp only[aag]at hc;obtain⟨kk,hkk,rfl⟩:=hc;obtain⟨w',h1,rfl,h2,h3⟩:=H6 (w:=w) hu hkk hr (hρ x (by simp[hop,Op.operands]) x' SA) (hρ i (by simp[hop,Op.operands]) i' hi') (hρ y (by simp[hop,Op.operands]) y' hy') hs;exact⟨undef,w',m,.inr ⟨by simp[execOp,hop,h1],rfl⟩,kL m,h2,h3⟩):A:=e
def z37{A:Prop} (e:A:=by
 rw[hp,ZW (by decide),aaf]at SC;refine Ws (A6 @t1 @t5 @t8 @t9 @t10 (wrapN (show k+1<2^63 by omega))) ?_;refine⟨_,?_,k+1,out,by omega,rfl,by rw[SC];exact(hfr.app _).app _,rfl,rfl⟩;omega):A:=e
def Rq{A:Prop} (e:A:=by
 have h1:=TE.bB hi;refine⟨h1.1,λe=>?_⟩;cases e;have:=h1.2;simp only[ZL,ZP,ZT]at this;omega):A:=e
def Rp{A:Prop} (e:A:=by
 rcases SM b1 e1 h1 with⟨rfl,rfl⟩|⟨Xv,Un⟩
 ·rcases SM b2 e2 h2 with⟨rfl,rfl⟩|⟨hl2,Xu⟩
  ·exact absurd rfl hne
  ·exact absurd hcb.symm (hout b2 e2 Xu)
 ·rcases SM b2 e2 h2 with⟨rfl,rfl⟩|⟨hl2,Xu⟩
  ·exact absurd hcb (hout b1 e1 Un)
  ·rw[ZQ Xv]at hk1;rw[ZQ hl2]at Sy;exact hr.sep b1 b2 e1 e2 k1 k2 hne Un Xu hk1 Sy hcb):A:=e
def z40{A:Prop} (e:A:=by
 rw[dw (by omega)]at hj ⊢;split
 ·rfl
 ·split at hj
  ·rename_i hji;subst hji;exact hahead x hx ha
  ·exact hcl j x hj hx ha):A:=e
def D9{A:Prop} (e:A:=by
 exact cJ.fin S2 (λz=>absurd z (by decide))):A:=e
def Oi{A:Prop} (e:A:=by
 have e3:¬(k:Int)<L.length:=by omega
 have e4:k=L.length:=by omega
 refine Ws (A7 @t1 @t5 @t8 @t9 @t10 @e3 @aac) ?_;rw[e4,aaj]at hm;exact⟨L',hm,hfr,hin,Tt⟩):A:=e
def NU{A:Prop} (e:A:=by
 rw[hkp i (by simp only[ZL];omega) (λb0 o n e he z=>hne (by rw[he,z];rfl))];exact ZQ hi):A:=e
def Oh{A:Prop} (e:A:=by
 exact(show Ext (B++g) _ from Xx).get hi):A:=e
def HD{A:Prop} (e:A:=by
 exact⟨_,by omega,k+1,_,by omega,rfl,hff,rfl,rfl⟩):A:=e
def z46{A:Prop} (e:A:=by
 cases Sx;rw[hv]at h1;have h1':=h1;obtain⟨f',a',c',h2,h3,_⟩:=h1;simp only[BC]at h3;subst h3;exact fE.same hr h1' (by simp[execOp,hop,h2])):A:=e
def Ro{A:Prop} (e:A:=by
 simp only[ZL,ZP,ZT]at this ⊢;omega):A:=e
def Rn{A:Prop} (e:A:=by
 simp only[hop,aag]at hc;obtain⟨x',SA,rfl⟩:=hc;have Sx:dP (.bY x') ρ h=some (v,h'):=hs;simp only[dP,aak,ab6]at Sx;obtain⟨rfl,rfl⟩:=Sx;exact fE.same hr (hρ x (by simp[hop,Op.operands]) x' SA) (by simp[execOp,hop])):A:=e
def z49{A:Prop} (e:A:=by
 have:=vw (T:=T) (t:=t) (a:=x) (y-x) (λj h1 h2=>by
  have hj:l[j]? =some (l[j]'(by omega)):=ZS (by omega);obtain⟨v,hv⟩:=Ud j _ hj;exact⟨_,v,hv,hno j _ h1 (by omega) hj⟩)
 rwa [show x+(y-x)=y from by omega]at this):A:=e
def Rm{A:Prop} (e:A:=by
 rename_i hm;cases h;rw[aaq,aaq]at hm;obtain⟨f,hf⟩:=Option.isSome_iff_exists.1 hm.1.2;have h1:=acj hf;rw[aaq]at h1;exact .inr (.inr ⟨l3,rfl,hq.2,⟨l,hl⟩,2,Zt,.inr ⟨f,h1.1,h1.2⟩,hm.2⟩)):A:=e
def z51{A:Prop} (e:A:=by
 refine⟨_,w',m',room WW hlen UK (by simp only[W9];rw[iG];exact h0),⟨_,_,cap,h1,rfl,WW,λ_=>?_,?_⟩,h2,h3⟩
 ·rw[W9];simp only[Addr.mk.injEq,aco,and_true];omega
 ·show 0+(en.d+o)+cap*i.size<=en.sz;omega):A:=e
def Rl{A:Prop} (e:A:=by
 have Sx:S j=true:=by unfold mark at hs;rwa [ZW hji]at hs
 rw[dS (huniq j o d hji hj ho)];refine VR.mono ?_ _ _ (M.zl d j o hj Sx ho);intro b e hb;unfold cw.dY at hb ⊢;split at hb
 ·rename_i hlt;rw[ZY hlt];exact U5 _ _ hb
 ·cases hb):A:=e
def z53{A:Prop} (e:A:=by
 have e2:(#[]++(⟨[.string ⟨⟨s⟩⟩,.int .u8 (c.toNat:Int)]⟩:Array Value)++#[])=#[]++#[.string ⟨⟨s⟩⟩,.int .u8 (c.toNat:Int)]++#[]:=rfl;simp only[e2,e',Result.andThen];exact⟨_,m,rfl,rfl,hr,Grow.refl m h w hr.cT⟩):A:=e
def NT{A:Prop} (e:A:=by
 cases hx:m h.length with
 |none=>rfl
 |some y=>exact absurd (hr.cT _ _ hx) (by omega)):A:=e
def Og{A:Prop} (e:A:=by
 rw[SC,abf];simp only[abA,abP,hd,Z7,ZV,aaJ,abd]):A:=e
def Rk{A:Prop} (e:A:=by
 rw[a5 i hi (by omega),hU i (by omega) hi'];by_cases UB:i=k
 ·subst UB;rw[ZY rfl,ZW (by omega),ZY (by omega)]
 ·rw[ZW UB];by_cases hil:i<k
  ·rw[ZY hil,ZY (by omega)]
  ·rw[ZW hil,ZW (by omega)]):A:=e
def J0{A:Prop} (e:A:=by
 subst z;rcases hb' i hi with z|z
 ·exact SK z
 ·omega):A:=e
def Rj{A:Prop} (e:A:=by
 have hj:l[x+k]? =some (l[x+k]'(by omega)):=ZS (by omega);rw[show x+(k+1)=x+k+1 from by omega,Vn _ _ hj (hno _ _ (by omega) (by omega) hj)];exact ih (by omega) λj o h1 h2 h3=>hno j o h1 (by omega) h3):A:=e
def z59{A:Prop} (e:A:=by
 subst z;rcases hn i hi with z|z
 ·exact SK z
 ·omega):A:=e
def Of{A:Prop} (e:A:=by
 obtain⟨v,hv⟩:=Ud j _ (ZS (show j<l.length by omega));rw[hv,nD];exact ih (by omega)):A:=e
def Ri{A:Prop} (e:A:=by
 split at hk
 case isFalse=>cases hk
 simp only[aag]at hk;obtain⟨ks,_,rfl⟩:=hk;exact fE.nO hr (G1 (w:=w) (ox:=x) (oy:=y) hk0 hx hy hs) (λcv h=>by simp only[execOp,ho];rw[aae,h];rfl)):A:=e
def Rh{A:Prop} (e:A:=by
 refine⟨e,ts,h'++[an.dead]++g',λr hr=>?_,done e h' g' hl Ub⟩;have:r=none:=hr;subst this;have:=Ev.gx (h:=h) (ps:=ps) (asg:=asg) (body:=body) hA hg hs (nG hl) bP;rw[rR hl]at this;exact this):A:=e
def Rg{A:Prop} (e:A:=by
 have d1:decide ((1000000:Int)<s.length)=true:=ZR (by omega);refine Rs (A2 @t0 @d1) ?_;exact⟨[],.af,by rw[cj,ZY h6];rfl,by rw[cj,ZY h6],.nil,λx hx=>(by cases hx)⟩):A:=e
def Oe{A:Prop} (e:A:=by
 rw[aay,ZS hlt,abf];congr 1;cases hp:p L[k]<;>simp[hp]):A:=e
def Rf{A:Prop} (e:A:=by
 rw[aay,ZS TK]at hy';rcases ZX.1 hy' with hy'|hy'
 ·exact hsf y' hy'
 ·simp only[Option.toList_some,Z9]at hy';rw[hy',<-hy];exact h4):A:=e
def Re{A:Prop} (e:A:=by
 refine zY hg SA ?_ (λt UJ=>ht t ?_)
 ·exact aas.1 hgok x (Array.mem_toList_iff.2 hx)
 ·subst UJ;exact List.mem_append_left _ (List.mem_filterMap.2 ⟨.tmp t,by simpa using hx,rfl⟩)):A:=e
def Rd{A:Prop} (e:A:=by
 refine Rs (A2 @t0 @o1) ?_;refine WF.res T.c177 (r177 T (hx.ext Xx) (by simp;omega)) ?_;rintro s' g1 hf;have o2:=hf.aO.one;refine Rs (A3 @t0 @o1 @o2) ?_;exact⟨s',rfl,(Fr.swap hf (by simp)).low (by simp)⟩):A:=e
def NS{A:Prop} (e:A:=by
 rw[ZW To]at Sy;exact hr.sep b1 b2 e1 e2 k1 k2 hne T0 SJ hk1 Sy hcb):A:=e
def Rc{A:Prop} (e:A:=by
 have q:decide ((L.length:Int)≠M.length)=true:=ZR (by omega);refine Rs (A5 @t0 @t1 hs.aL ht.aL @q) ?_;exact aan AV.bool (ZN (λ(e:L=M)=>h1 (by rw[e]))).symm):A:=e
def z70{A:Prop} (e:A:=by
 refine⟨_,by omega,k+1,out,by omega,rfl,?_,rfl,rfl⟩;rw[SC,abf];simp only[abA,abP,hd,aaC,Z3,aaf];exact hfr.app _):A:=e
def Rb{A:Prop} (e:A:=by
 rw[bD]at hc;split at hc
 case isTrue hb=>exact absurd hc hb
 case isFalse hb=>
  unfold kF at hb;split at hb
  ·exact absurd (by decide) hb
  split at hb
  ·exact absurd (by decide) hb
  omega):A:=e
def z72{A:Prop} (e:A:=by
 simp only[RV.ao,aaW];rfl):A:=e
def Od{A:Prop} (e:A:=by
 obtain⟨h3,h4,h5⟩:=w.md x hx;exact⟨h3,h4,λt ht=>by rw[em];exact iu (h5 t ht)⟩):A:=e
def NR{A:Prop} (e:A:=by
 rw[aaB,Array.getElem?_replicate];split<;>rfl):A:=e
def z75{A:Prop} (e:A:=by
 have e3:=fq hlt;have e4:k=L.length:=by omega
 refine Rs (A5 @t0 @t1 @t5 @e3 hs.aL) ?_;rw[e4,aaj,h1,aaj]at hi;exact aan AV.bool (ZR hi).symm):A:=e
def z76{A:Prop} (e:A:=by
 obtain⟨o,h1,h2⟩:=Xa j io hj;exact⟨o,h1,by rw[<- (dN h2).1];exact hd⟩):A:=e
def Ra{A:Prop} (e:A:=by
 have hi':i<x.ev.names.length:=by omega
 have:aS x.ev i=x.ev.names[i]:=by rw[aS,aar,ZS hi'];rfl
 rw[this];exact ox.n.gR hi' rfl e):A:=e
def NQ{A:Prop} (e:A:=by
 by_cases e1:j=i
 ·subst e1;exact hlt
 ·rw[hne j e1];exact hl):A:=e
def Oc{A:Prop} (e:A:=by
 rw[Z1 (by simp;omega),Z1 (by simp;omega)];simp):A:=e
def z80{A:Prop} (e:A:=by
 have e3:=fq hlt;have e4:k=V.aj.length:=by omega
 refine Rs (A8 @t1 @t2 @t5 @t6 @lr @fG o.i2.aL @e3) ?_;rw[e4,aaj]at hfr;exact⟨S4.trans he,hfr.aO⟩):A:=e
def Ob{A:Prop} (e:A:=by
 cases hq:aF 32 s with
 |nil=>exact absurd hq fJ
 |cons w r=>exact⟨w,r,rfl⟩):A:=e
def NP{A:Prop} (e:A:=by
 have:=BP (listed:=listed) (by omega) TL ops.size hin;omega):A:=e
def GN{A:Prop} (e:A:=by
 exact Rs (A3 @t0 @t1 @t2) trivial):A:=e
def Oa{A:Prop} (e:A:=by
 rw[aay,ZS (by rw[hRl];exact hlt),hy];simp[RV.ao]):A:=e
def z85{A:Prop} (e:A:=by
 rename_i cs;cases hl:cs.toList.mapM (mT n)with
 |none=>simp[hl]at h
 |some r=>simp[hl]at h;subst h;exact⟨cs.toList,rfl,wK m n (qZ m n) _ _ hl⟩):A:=e
def N9{A:Prop} (e:A:=by
 have h1:=(s.bk.o.eO (b:=i) (by rw[<-e];simp[RV.bl])).2;have:=(htb i hi).1;omega):A:=e
def z87{A:Prop} (e:A:=by
 unfold cw.add at T3;by_cases hx:b=h.length
 ·rw[ZY hx]at T3;cases T3;exact .inl ⟨hx,rfl⟩
 ·rw[ZW hx]at T3;exact .inr ⟨hr.cT _ _ T3,T3⟩):A:=e
def Q9{A:Prop} (e:A:=by
 simp only[Gf,Ge,Gd,JK,JL,Gi,Gh,Gg,No,Nn,abg,aaX,ne_eq,aak,and_true];omega):A:=e
def Q8{A:Prop} (e:A:=by
 refine Rs (Kh @t4 @t6 @t20 @t21 @t22 @e3 @ix @ld @e5 @l2 @l3 @bX @jR @lk @hb @mp @a4) ?_;exact⟨_,by omega,k+1,_,by omega,rfl,rfl,hnew,rfl⟩):A:=e
def N8{A:Prop} (e:A:=by
 show(R.aD++[_]).length<=32;rw[ZL,Z6];omega):A:=e
def z91{A:Prop} (e:A:=by
 rcases hn i z with z|z
 ·exact h3 (by rw[<-z];simp[RV.bl])
 ·have:=s.ln;omega):A:=e
def Kj{A:Prop} (e:A:=by
 exact cJ.fin SV (λz=>absurd z (by decide))):A:=e
def z93{A:Prop} (e:A:=by
 rw[az (e.some hg0)];have:bM x.ev 1=1\/bM x.ev 1=2\/bM x.ev 1=3\/bM x.ev 1=4:=by omega
 rcases this with z|z|z|z<;>rw[z]<;>rfl):A:=e
def NO{A:Prop} (e:A:=by
 simp only[Z9,aak]at z;omega):A:=e
def Q7{A:Prop} (e:A:=by
 rw[aay,ZS hlt,tW];simp only[Option.toList_some,db,aaD,aaw];rw[abE (by omega)]):A:=e
def Ki{A:Prop} (e:A:=by
 exact cJ.fin sY (λz=>absurd z (by decide))):A:=e
def Q6{A:Prop} (e:A:=by
 cases hk:cI oj.k with
 |true=>exact .inl rfl
 |false=>
  cases Sy:lE oj with
  |true=>exact .inr rfl
  |false=>have:=hHh j oj h3 hk Sy;omega):A:=e
def NN{A:Prop} (e:A:=by
 simp only[ZL,Z6];omega):A:=e
def Q5{A:Prop} (e:A:=by
 refine Rs (A5 @u0 @u1 @u5 @u6 (wrapN (show k+1<2^63 by omega))) ?_;exact⟨s.length-(k+1),by omega,k+1,_,g2,by omega,rfl,rfl,ZH,rfl,rfl⟩):A:=e
def Lp{A:Prop} (e:A:=by
 have hne:io.dst≠some d:=hd i io hio (by simp[mark]);rw[dS hne];refine M.zm d λj o hj hs=>hd j o hj ?_
 unfold mark;split
 ·rfl
 ·exact hs):A:=e
def Lo{A:Prop} (e:A:=by
 have d1:decide (n<10)=true:=ZR h10;refine Ws (A4 @d0 @d1 @vu @Af) ?_;rw[jt,Lib.decDigits,dif_pos (by omega),Aa h0 h10]):A:=e
def Ln{A:Prop} (e:A:=by
 have e3:=jU hmo (show i<j by omega) hio hj Yk (hrp hk) VZ (hld hk) (.inl ⟨T7,hk⟩);have e4:=hcl j i UA hin e3;rw[TL]at e4;cases e4):A:=e
def Lm{A:Prop} (e:A:=by
 rw[VR]at ha hv ⊢;obtain⟨e,he,_⟩:=ha;obtain⟨e',TG,hv⟩:=hv;exact⟨e',by unfold cw.dY;rw[ZY (hd _ _ he)];exact TG,hv⟩):A:=e
def HM{A:Prop} (e:A:=by
 exact h3 (by rw[<-z];simp[RV.bl])):A:=e
def z105{A:Prop} (e:A:=by
 rw[hrow];exact cD rfl (by show 0+1<=5;omega)):A:=e
def Ll{A:Prop} (e:A:=by
 have:=(Fr.push (N:=0) (es:=3) (h:=W4) (aam _) [z] (λx hx=>by rw[Z9]at hx;rw[hx,hz];rfl)).aO
 simpa using this):A:=e
def z107{A:Prop} (e:A:=by
 simp only[aQ,aR,aX,aY,Nat.reduceAdd,Nat.reduceMul,Nat.reduceLeDiff,Nat.reduceEqDiff,bd,hlen,Z3,Z7,t0,az hg.1]):A:=e
def Lk{A:Prop} (e:A:=by
 simp only[ZO];refine GP λe=>?_
 have:=(YC.bB hj).1;simp only[ZL,Z6]at this;omega):A:=e
def z109{A:Prop} (e:A:=by
 simp only[ZO];refine GP λe=>?_
 have:=(fn3.bB hj).1;simp only[ZL,Z6]at this;omega):A:=e
def Lj{A:Prop} (e:A:=by
 have hl:=(ZM.1 this).1;rw[ZS hl]at this;rw[<-aaN this];exact List.set_getElem_self hl):A:=e
def HL{A:Prop} (e:A:=by
 refine Rs (A2 @t2 @t6) ?_;rw[<-hR];exact pZ T (eW.trans Xx) hv hb Sn Sw):A:=e
def Li{A:Prop} (e:A:=by
 split at hn
 case isFalse=>cases hn
 rename_i Uf;subst Uf;cases hn;obtain⟨e,rfl⟩:=hd;simp[Builtin.len_,UL,aab hu,goInt]):A:=e
def Lh{A:Prop} (e:A:=by
 by_cases hab:a=b
 ·simp[dV,dJ,hab,Br]
 ·have:(a==b)=false:=by simp[hab]
  simp[dV,dJ,hab,Br,this]):A:=e
def Aw{A:Prop} (e:A:=by
 subst z;have:=(hnt i hi).1;omega):A:=e
def HK{A:Prop} (e:A:=by
 rw[ei];refine Rs (A5 @t0 @t1 @ix @ld @on) ?_;exact⟨x,Ua,sp,rfl⟩):A:=e
def z116{A:Prop} (e:A:=by
 have:kF V.ao x.ev=3:=by rw[kF,ZW (by rw[h1];decide),<-jx.e,ZY h2]
 rw[bD,ZY (by rw[this];decide),this]):A:=e
def z117{A:Prop} (e:A:=by
 simp only[aaB,aaF (show i<listed.size by omega),ab0]at hl ⊢;exact hl):A:=e
def Lg{A:Prop} (e:A:=by
 obtain⟨h1,h2,h3⟩:=s.kl i hi;rw[hk i (aaG h1 s.ln) (λz=>h3 (by rw[<-z];simp[RV.bl]))];exact s.kp i hi):A:=e
def z119{A:Prop} (e:A:=by
 obtain⟨y,hy,rfl⟩:=aal.1 hx;have:=uL w.n2 (aah (f:=j7.name) (aa3.1 hy).1);omega):A:=e
def Lf{A:Prop} (e:A:=by
 have WA:(ps.map λ(i,x)=>(i,σ x)).toList=ps.toList.map λp=>(p.1,σ p.2):=by simp
 rw[WA,TT];simp[newRow]):A:=e
def Le{A:Prop} (e:A:=by
 by_cases hlt:j<i
 ·have:=T9 (j+1) i (by omega) (by omega);omega
 ·have:=T9 (i+1) j (by omega) (by omega);omega):A:=e
def Ld{A:Prop} (e:A:=by
 have e3:V.da.length=V.bP.da.length:=by simp[HV.bP]
 have e4:V.bP.cN.length=V.cN.length:=by simp[HV.bP]
 omega):A:=e
def Lc{A:Prop} (e:A:=by
 split at h
 ·rename_i h1 h2 h3 h4;simp only at h1 h2 h3 h4;subst h1;subst h2;subst h3;subst h4;cases h;rfl
 ·cases h):A:=e
def z124{A:Prop} (e:A:=by
 rw[aN m7'];exact cD hone (by simp)):A:=e
def Av{A:Prop} (e:A:=by
 exact Ws (A2 @hld @TV) trivial):A:=e
def Lb{A:Prop} (e:A:=by
 rw[VR]at ha hv ⊢;obtain⟨l1,_,h1⟩:=ha;obtain⟨l2,hv,h2⟩:=hv;exact⟨l2,hv,cQ.cut hd l _ _ h1 h2⟩):A:=e
def z127{A:Prop} (e:A:=by
 rcases ZX.1 hx with hx|hx
 ·exact w.ev x hx
 ·rw[Z9]at hx;subst hx;exact⟨d,we⟩):A:=e
def La{A:Prop} (e:A:=by
 show 0+(eC k z.cells).length<=row.size;rw[kf,hrs,hzl,aaD];exact aaU _ hkn):A:=e
def K9{A:Prop} (e:A:=by
 have e1:decide (kF V.ao x.ev≠0)=true:=ZR hb;refine Rs (A3 @t0 @t1 @e1) ?_;rw[bD,ZY hb]):A:=e
def z130{A:Prop} (e:A:=by
 rw[ei];exact Rs (A4 @t0 @t1 @ix @ld) trivial):A:=e
def z131{A:Prop} (e:A:=by
 rw[<-Td]at hx;exact e1 (huniq j i oj io d hj hio VQ hx)):A:=e
def K8{A:Prop} (e:A:=by
 refine WF.ce T.c254 (Z.atoi Td.2 (by simp) (by omega)) λg2=>?_
 refine Rs @t0 ?_;unfold dM;rw[e1];rfl):A:=e
def K7{A:Prop} (e:A:=by
 obtain⟨ma,va,h1,h2⟩:=h;exact⟨ma,va,λb e hb=>aaG (h1 b e hb) hnk,h2⟩):A:=e
def HJ{A:Prop} (e:A:=by
 exact propext ⟨λz=>by omega,λz=>by omega⟩):A:=e
def Ed{A:Prop} (e:A:=by
 simp only[RV.ao,aaW];rfl):A:=e
def K6{A:Prop} (e:A:=by
 have hne:=hb' b 0 _ _ rfl;rw[<-aaE _ _ hN,Z4 (abe hne)]):A:=e
def K5{A:Prop} (e:A:=by
 have:kF V.ao x.ev=23:=by rw[kF,ZY h1]
 rw[bD,ZY (by rw[this];decide),this]):A:=e
def z138{A:Prop} (e:A:=by
 rw[hr]at h1;simp only[aaw]at h1;omega):A:=e
def z139{A:Prop} (e:A:=by
 rename_i hu;cases hf;exact⟨_,hu,λ_=>rfl⟩):A:=e
def K4{A:Prop} (e:A:=by
 refine hall ?_;cases hy:cO s[k]with
 |false=>rfl
 |true=>have:=eG.1 hy;omega):A:=e
def z141{A:Prop} (e:A:=by
 rw[gK];exact eS (f:=λy:kI×AV=>y.1.name) (by rw[<-gK];exact hn)):A:=e
def K3{A:Prop} (e:A:=by
 rw[SD];exact⟨L',_,rfl,rfl,(hfr.app g2).app _,λx hx=>((hin x hx).app g2).app _⟩):A:=e
def z143{A:Prop} (e:A:=by
 refine WF.ce T.c15 (ha _ (.refl _)) λg2=>?_
 refine Rs @t0 ?_;exact⟨⟨g2,rfl⟩,rfl⟩):A:=e
def K2{A:Prop} (e:A:=by
 have a1:=hdom b e TJ;have a2:=gh hlen (i:=θ) (j:=j) (by omega) (by omega);omega):A:=e
def z145{A:Prop} (e:A:=by
 have:=st.ts.length;simpa using this):A:=e
def z146{A:Prop} (e:A:=by
 subst he;rw[ZY rfl]at q4;simp only[Z5,Z7];exact⟨h5,g5,rfl,h6,q4⟩):A:=e
def KZ{A:Prop} (e:A:=by
 simp only[fe,rv,aak,AV.bool.injEq];by_cases hab:x=y<;>simp[hab]):A:=e
def z148{A:Prop} (e:A:=by
 rw[Z1 (by omega),ab2,Nat.add_sub_cancel' (by omega)]):A:=e
def Ec{A:Prop} (e:A:=by
 exact fin (lu h2 h3) h1 h4 h5):A:=e
def KY{A:Prop} (e:A:=by
 exact aan AV.bool (bad (Bool.eq_false_iff.2 λz=>by have:=eG.1 z;omega))):A:=e
def KX{A:Prop} (e:A:=by
 simp only[stepT,nI,qP];cases val ts x with
 |func f a c=>cases f<;>rfl
 |_=>rfl):A:=e
def z152{A:Prop} (e:A:=by
 cases k2<;>first|trivial|exact absurd rfl hl):A:=e
def KW{A:Prop} (e:A:=by
 simp only[RV.bl,ZX,aal];exact .inl (.inl (.inr ⟨x,hx,hb⟩))):A:=e
def z154{A:Prop} (e:A:=by
 exact(bad (by rw[Tk];rfl) Xx).2):A:=e
def KV{A:Prop} (e:A:=by
 rw[hZ,ZO,aaE _ _ (Z0 _)];exact⟨_,rfl⟩):A:=e
def z156{A:Prop} (e:A:=by
 refine Rs (A6 @t0 @t5 @t6 @t7 @e3 @e4) ?_;rw[SD];exact⟨L',_,rfl,rfl,hfr,hin⟩):A:=e
def z157{A:Prop} (e:A:=by
 rcases ZX.1 hx with hx|hx
 ·exact hs.aO.rows x hx
 ·exact hy.rows x hx):A:=e
def HI{A:Prop} (e:A:=by
 have:=hTl l.length (Z0 _);simp;omega):A:=e
def z159{A:Prop} (e:A:=by
 exact cJ.fin Ui (λz=>absurd z (by decide))):A:=e
def z160{A:Prop} (e:A:=by
 cases hs with
 |nil=>exact .nil
 |mk hN hb he=>exact .mk hN ((hk _ rfl).trans hb) he):A:=e
def KU{A:Prop} (e:A:=by
 have q:mS Ke.yJ .nilPtr .nilPtr=some true:=rfl;exact Rs (A2 @t0 @q) trivial):A:=e
def z162{A:Prop} (e:A:=by
 rw[<-hS,abx];rintro⟨y,hy,hy2⟩;rw[hsf y hy]at hy2;cases hy2):A:=e
def KT{A:Prop} (e:A:=by
 rw[ZO,Z1 (Z0 _),aaR];rfl):A:=e
def z164{A:Prop} (e:A:=by
 exact cJ.fin s (λz=>absurd z (by decide))):A:=e
def KS{A:Prop} (e:A:=by
 rw[aaE _ _ (Z0 _),aaR,ZO];rfl):A:=e
def KR{A:Prop} (e:A:=by
 simp only[RV.bl,ZX,aal];exact .inl (.inr ⟨x,hx,hb⟩)):A:=e
def z167{A:Prop} (e:A:=by
 simp only[aag]at hc;obtain⟨f,_,rfl⟩:=hc;exact hs.elim):A:=e
def z168{A:Prop} (e:A:=by
 rw[gp,<-jx.e,aar,ZS hsl];rfl):A:=e
def KQ{A:Prop} (e:A:=by
 exact⟨he,bad (Bool.eq_false_iff.2 λz=>by have:=eG.1 z;omega)⟩):A:=e
def KP{A:Prop} (e:A:=by
 rw[gp,<-Wh,aar,ZS hlt];rfl):A:=e
def z171{A:Prop} (e:A:=by
 rw[aay,ZS hlt,gT,List.foldl_append];rfl):A:=e
def KO{A:Prop} (e:A:=by
 rw[Z1 hN,Z8 (by simp at hbl;omega)]):A:=e
def z173{A:Prop} (e:A:=by
 rw[hh]at hi;refine Rs (A5 @t2 @t3 @t5 @t6 @hi) ?_;exact⟨Xn.trans Xx,rfl⟩):A:=e
def HH{A:Prop} (e:A:=by
 rw[em];exact w.n3.add (gn 0 (by decide)) f0):A:=e
def z175{A:Prop} (e:A:=by
 rw[ZO (h++[an.bu (lZ ds vf)]) g];exact K _ _ (s.put g1 hc)):A:=e
def KN{A:Prop} (e:A:=by
 have h2:(s.take k).length<=s.length:=by rw[aaw];omega
 omega):A:=e
def KM{A:Prop} (e:A:=by
 cases Uz:o.k<;>rw[Uz]at hk<;>first|(cases hk;done)|simp[mZ,Uz]):A:=e
def KL{A:Prop} (e:A:=by
 rw[Wh];unfold kF at hb;split at hb
 ·cases hb
 split at hb
 ·cases hb
 omega):A:=e
def KK{A:Prop} (e:A:=by
 rw[aaA];exact propext ⟨λz=>by omega,λz=>by omega⟩):A:=e
def KJ{A:Prop} (e:A:=by
 cases ok
 ·exact VY
 ·exact⟨_,rfl,_,_,rfl,VY,_,_,rfl,rfl,rfl⟩):A:=e
def KI{A:Prop} (e:A:=by
 exact⟨hone,v,by rw[Vy _ (by omega)];exact hv,VR.mono Vd _ _ Sz⟩):A:=e
def z182{A:Prop} (e:A:=by
 rw[<-n6];exact hF.aB λj hj=>ne j (by have:=hlo j hj;omega)):A:=e
def z183{A:Prop} (e:A:=by
 simp only[RV.bl,ZX,aal];exact .inr ⟨x,hx,hb⟩):A:=e
def KH{A:Prop} (e:A:=by
 rw[<-yl];exact hF.aB λj hj=>ne j (by have:=hlo j hj;omega)):A:=e
def KG{A:Prop} (e:A:=by
 rw[ZL,aaV,aaV];omega):A:=e
def Eb{A:Prop} (e:A:=by
 rw[ZW hbb]at ht;exact ht):A:=e
def KF{A:Prop} (e:A:=by
 subst hn;exact .of hmix hA (H (aU A.nt [a0,a1,a2]) hl rfl rfl rfl)):A:=e
def KE{A:Prop} (e:A:=by
 simp only[ZL,ZP,ZT];omega):A:=e
def KD{A:Prop} (e:A:=by
 rw[ZU];exact aaz (aav _ _) w.l2):A:=e
def KC{A:Prop} (e:A:=by
 obtain⟨cv',m',rfl,h1,h2,h3⟩:=he;exact hn cv' m' w'' h1 h2 h3):A:=e
def KB{A:Prop} (e:A:=by
 exact⟨s.length-(k+1),by omega,k+1,by omega,rfl,rfl,rfl⟩):A:=e
def Ea{A:Prop} (e:A:=by
 exact dl (by omega) (by omega)):A:=e
def z193{A:Prop} (e:A:=by
 simp only[FQ,GH,Ex.leaves,aco];cases cR rs ts h<;>simp):A:=e
def z194{A:Prop} (e:A:=by
 rw[this];exact List.set_getElem_self _):A:=e
def KA{A:Prop} (e:A:=by
 rename_i hu;rw[hu]at V9;cases V9;cases hf;exact hone rfl rfl hu):A:=e
def z196{A:Prop} (e:A:=by
 rw[Tp];exact cJ.fin s5 (λ_=>by simp only[dO,sp,hp];rfl)):A:=e
def Kz{A:Prop} (e:A:=by
 refine⟨_,by omega,k+1,by omega,rfl,XG.trans Xx,hu,rfl⟩):A:=e
def z198{A:Prop} (e:A:=by
 refine⟨_,by omega,k+1,by omega,rfl,UJ.trans Xx,hu,rfl⟩):A:=e
def Ky{A:Prop} (e:A:=by
 have:=hlate j oj hj hk hjf (by omega);rw[UA]at this;cases this):A:=e
def Kx{A:Prop} (e:A:=by
 simp only[WR,jv.app,aaC,false_implies,aco]):A:=e
def z201{A:Prop} (e:A:=by
 refine⟨_,by omega,k+1,by omega,rfl,hx.trans Xx,hu,rfl⟩):A:=e
def HG{A:Prop} (e:A:=by
 subst e1;rw[TL]at UA;cases UA):A:=e
def z203{A:Prop} (e:A:=by
 rw[UM,hxe]at hn;have:=kM n (yD hok n hn);omega):A:=e
def Kw{A:Prop} (e:A:=by
 rw[beq_eq_false_iff_ne];rintro rfl;exact absurd hc.1 (by decide)):A:=e
def Kv{A:Prop} (e:A:=by
 refine Rs (A3 @t0 @t1 @fH) ?_;exact⟨g',V',rfl,h1,h2⟩):A:=e
def z206{A:Prop} (e:A:=by
 exact⟨_,by omega,k+1,by omega,rfl,hx.trans Xx,hi,rfl⟩):A:=e
def Ku{A:Prop} (e:A:=by
 simp only[stepT,nI];cases fe op (val ts x) (val ts y)<;>rfl):A:=e
def z208{A:Prop} (e:A:=by
 simp only[RV.bl,l1,l2,e2,ZO,aaX]):A:=e
def Ks{A:Prop} (e:A:=by
 subst hn;exact .of hmix hA (H (aU A.nt [a0,a1]) hl rfl rfl)):A:=e
def z210{A:Prop} (e:A:=by
 subst h3;exact⟨cv,w,m,h1,h2,hr,Grow.refl m _ w hr.cT⟩):A:=e
def Kq{A:Prop} (e:A:=by
 refine .run hw (by rw[hk];trivial) ?_;rw[hk];exact nS hs):A:=e
def z212{A:Prop} (e:A:=by
 exact⟨_,_,rfl,.inr ⟨Jr hlt (by omega),by omega⟩⟩):A:=e
def z213{A:Prop} (e:A:=by
 exact⟨_,[],rfl,⟨.nil,λx hx=>by cases hx⟩,rfl⟩):A:=e
def Kp{A:Prop} (e:A:=by
 simp only[jB,RV.ao,abQ,abt];rfl):A:=e
def HF{A:Prop} (e:A:=by
 exact bad (by rw[ea]) (eK.trans Xx)):A:=e
def Ko{A:Prop} (e:A:=by
 simp only[Bool.false_and,aaC,Z3];omega):A:=e
def Kn{A:Prop} (e:A:=by
 exact lV (by rw[hTl];exact M.size) (VR.mono h1 _ _ hv)):A:=e
def z218{A:Prop} (e:A:=by
 rw[ZW UB];simp only[acd (abe UB)]):A:=e
def HE{A:Prop} (e:A:=by
 exact(bad (by rw[hes];rfl) Xx).2):A:=e
def Km{A:Prop} (e:A:=by
 cases k<;>first|exact H|exact absurd ⟨_,_,rfl⟩ hc):A:=e
def Kl{A:Prop} (e:A:=by
 rw[bE]at hl;subst hl;cases hf;exact⟨cx,rfl,hx⟩):A:=e
def z222{A:Prop} (e:A:=by
 have:c=[]:=aaO.1 h;subst this;rfl):A:=e
end Go.Abs
