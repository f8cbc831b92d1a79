/- Ends of proofs that stand in more than one place. No condition. -/
import Derived.Tactics
set_option linter.all false
namespace Go.Abs
def ZB:=@List.length_append
def ZC:=@List.getElem?_eq_some_iff
def ZD:=@decide_eq_false
def ZE:=@List.append_assoc
def ZF:=@List.getElem?_append_left
def ZG:=@List.length_cons
def ZH:=@List.getElem?_eq_getElem
def ZI:=@decide_eq_true
def ZJ:=@List.length_nil
def ZK:=@List.mem_append
def ZL:=@List.length_map
def ZM:=@List.map_append
def ZN:=@if_neg
def ZO:=@Nat.le_refl
def ZP:=@List.getElem?_append_right
def ZQ:=@Result.andThen_ok
def ZR:=@List.getElem_mem
def ZS:=@if_pos
def ZT:=@List.mem_map_of_mem
def ZU:=@List.getElem?_set_self
def ZV:=@List.getElem?_set_ne
def ZW:=@List.mem_singleton
def ZX:=@Array.getElem?_eq_some_iff
def ZY:=@if_false
def ZZ:=@run_underlying
def Z0:=@Sem.run_bind
def Z1:=@if_true
def Z2:=@Option.map_eq_some_iff
def Z3:=@List.mem_map
def Z4:=@List.length_singleton
def Z5:=@decide_true
def Z6:=@List.append_nil
def Z7:=@Bool.not_true
def Z8:=@List.mem_cons_of_mem
def Z9:=@decide_false
def aaa:=@Option.some.injEq
def aab:=@Bool.not_false
def aac:=@Nat.zero_le
def aad:=@Bool.and_eq_true
def aae:=@List.all_eq_true
def aaf:=@List.getD_eq_getElem?_getD
def aag:=@List.mem_cons
def aah:=@decide_eq_true_eq
def aai:=@congrArg
def aaj:=@List.length_filter_le
def aak:=@Sem.run_pure
def aal:=@List.take_of_length_le
def aam:=@List.take_length
def aan:=@List.mem_cons_self
def aao:=@List.take_add_one
def aap:=@List.length_set
def aaq:=@List.mem_filter
def aar:=@List.map_cons
def aas:=@Array.getD_eq_getD_getElem?
def aat:=@Nat.le_trans
def aau:=@Nat.zero_add
def aav:=@Bool.false_eq_true
def aaw:=@Array.getElem?_eq_getElem
def aax:=@Nat.lt_of_lt_of_le
def aay:=@List.length_eq_zero_iff
def aaz:=@List.mem_of_getElem?
def aaA:=@List.set_append_right
def aaB:=@List.length_take
def aaC:=@List.not_mem_nil
def aaD:=@List.mem_of_mem_take
def aaE:=@Option.some.inj
def aaF:=@List.drop_length
def aaG:=@Nat.sub_self
def aaH:=@List.pairwise_cons
def aaI:=@Option.bind_eq_some_iff
def aaJ:=@Nat.mul_le_mul_right
def aaK:=@List.length_replicate
def aaL:=@List.filter_append
def aaM:=@List.filter_cons
def aaN:=@List.getElem_map
def aaO:=@List.getElem?_cons_zero
def aaP:=@List.mem_range
def aaQ:=@List.mem_or_eq_of_mem_set
def aaR:=@List.flatten_cons
def aaS:=@List.cons_append
def aaT:=@List.pairwise_append
def aaU:=@of_decide_eq_true
def aaV:=@Array.getElem?_setIfInBounds_self_of_lt
def aaW:=@Nat.succ_mul
def aaX:=@List.getElem?_cons_succ
def aaY:=@List.any_eq_true
def aaZ:=@Bool.not_eq_true'
def aa0:=@List.drop_zero
def aa1:=@List.getLastD_eq_getLast?
def aa2:=@Decidable.not_not
def aa3:=@Ne.symm
def aa4:=@Bool.true_and
def aa5:=@List.take_append_drop
def aa6:=@Array.getElem?_toList
def aa7:=@List.getElem?_toArray
def aa8:=@List.getElem?_map
def aa9:=@eq_false
def aba:=@Array.getElem?_eq_none
def abb:=@List.drop_drop
def abc:=@List.all_cons
def abd:=@decide_eq_decide
def abe:=@List.replicate_succ
def abf:=@List.getElem?_eq_none
def abg:=@List.pairwise_singleton
def abh:=@or_false
def abi:=@List.nil_append
def abj:=@List.map_map
def abk:=@Array.getElem?_setIfInBounds_ne
def abl:=@List.flatten_append
def abm:=@List.nodup_append
def abn:=@List.map_nil
def abo:=@Bool.or_eq_true
def abp:=@decide_eq_false_iff_not
def abq:=@List.append_cancel_left
def abr:=@Nat.min_eq_left
def abt:=@List.getElem_of_mem
def abu:=@List.take_succ_cons
def abv:=@Option.map_some
def abw:=@List.filter_map
def abx:=@List.length_reverse
def aby:=@List.length_pos_iff
def abz:=@List.length_drop
def abA:=@List.getElem_set_self
def abB:=@Bool.false_ne_true
def abC:=@Bool.false_and
def abD:=@List.drop_eq_getElem_cons
def abE:=@List.flatten_replicate_singleton
def abF:=@List.mem_of_getLast?
def abG:=@List.getElem?_take_of_lt
def abH:=@List.filter_congr
def abI:=@Nat.zero_mul
def abJ:=@List.map_set
def abK:=@List.getElem_set_ne
def abL:=@Option.bind_eq_bind
def abM:=@Nat.mul_one
def abN:=@Array.length_toList
def abO:=@Bool.false_or
def abP:=@Option.getD_some
def abQ:=@List.take_append_of_le_length
def abR:=@List.getElem_cons_zero
def abS:=@List.findIdx?_cons
def abT:=@List.getElem?_drop
def abU:=@Nat.add_mul
def abV:=@List.foldl_cons
def abW:=@Option.map_none
def abX:=@List.nodup_cons
def abY:=@Prod.mk.injEq
def abZ:=@List.ext_getElem?
def ab0:=@Function.comp_def
def ab1:=@List.any_cons
def ab2:=@List.mapM_cons
def ab3:=@List.replicate_zero
def ab4:=@Array.ext'
def ab5:=@Nat.le_of_lt
def ab6:=@Nat.add_zero
def ab7:=@List.find?_some
def ab8:=@List.filter_nil
def ab9:=@Option.pure_def
def aca:=@Nat.le_succ
def acb:=@true_and
def acd:=@Eq.trans
def ace:=@eq_true
abbrev By:=List UInt8
def Tv:True:=trivial
def Om{A:Prop}(e:A:=by omega):A:=e
def De{A:Prop}(e:A:=by decide):A:=e
def Si{A:Prop}(e:A:=by simp):A:=e
def z1{A:Prop} (e:A:=by
 refine Ws hs.aK ?_;refine WL.inv T.mix (λn ts h'=>∃k:Nat,k<=L.length/\n=L.length-k/\Ext h h'/\L.findIdx? p=((L.drop k).findIdx? p).map (· +k)/\ts.length=19/\slot ts 0=s/\slot ts 1=f/\slot ts 7=.i L.length/\slot ts 8=.i k) L.length
  ⟨0,by omega,rfl,Ext.refl h,by simp,rfl,rfl,rfl,rfl,rfl⟩ ?_
 rintro _ ts _ ⟨k,hk,rfl,⟨g,rfl⟩,hi,hlen,t0,t1,t7,t8⟩;rw[lU ts 19 hlen];by_cases hlt:k<L.length
 ·have hd:L.drop k=L[k]::L.drop (k+1):=by simp
  have e3:(k:Int)<L.length:=by omega
  simp only[aS,aW,bo,bp,Nat.reduceAdd,Nat.reduceMul,Nat.reduceLeDiff,Nat.reduceEqDiff,t0,t1,t7,t8,e3,Z5,hs.dE hlt,hs.kf hlt];refine WF.val (hf L[k] (by simp) _ ⟨g,rfl⟩) ?_;rintro _ g1 rfl;cases hp:p L[k]with
  |true=>
   refine Ws @t8 ?_;rw[dm,hi,hd,abS,hp];simp
  |false=>
   refine Ws (A2 @t8 (wrapN (show k+1<2^63 by omega))) ?_;refine⟨_,?_,k+1,by omega,rfl,?_,rfl⟩
   ·omega
   ·rw[hi,hd,abS,hp];simp only[aav,ZY,Option.map_map];congr 1;funext i;simp only[Function.comp];omega
 ·have e3:¬(k:Int)<L.length:=by omega
  have e4:k=L.length:=by omega
  refine Ws (A6 @t0 @t1 @t7 @t8 @e3 @Z9) ?_;rw[dm,hi,e4,aaF];rfl):A:=e
def z2{A:Prop} (e:A:=by
 rw[hrow]at hff;rw[hrow];refine Ws (A6 @t1 @t5 @t8 @t9 @t10 (wrapN (show k+1<2^63 by omega))) ?_;have hout:∀b,sB out=some b->b<(h++g).length:=λb hb=>(hfr.bP hb).2
 have hnew:∀b,sB s' =some b->(h++g).length<=b/\b<(h++g).length+(1+g1.length):=λb hb=>by
  have:=Zp.bP hb;simp only[ZB,ZG,ZJ]at this ⊢;omega
 have hold:∀x∈L',∀b,sB x.2=some b->b<(h++g).length/\sB out≠some b:=λx hx b hb=>by
  refine⟨((hin x hx).bP hb).2,λe=>?_⟩;exact(aaH.1 Tq).1 _ (ZT hx) b e hb
 refine⟨_,?_,k+1,_,L'++[(L[k].1,s')],by omega,rfl,?_,hff,?_,?_,rfl,rfl⟩
 ·omega
 ·rw[ZM,hm,aao,ZH hlt,ZM];rfl
 ·intro x hx;rcases ZK.1 hx with hx|hx
  ·refine((((hin x hx).app _).app _).app _).aC λb hb=>hkp b ?_ λb0 o n e hso=>?_
   ·have:=(hold x hx b hb).1;simp only[ZB]at this ⊢;omega
   ·intro e;subst e;exact(hold x hx b hb).2 (by rw[hso];rfl)
  ·rw[ZW]at hx;subst hx;refine Fr.low (N:=(h++g++[ak.cells [] true true]).length) ?_ (by simp only[ZB];omega);refine Fr.aC (h:=_) ((Zp.app _).low ?_) λb hb=>hkp b ?_ λb0 o n e hso=>?_
   ·simp
   ·have:=hnew b hb;simp only[ZB,ZG,ZJ]at this ⊢;omega
   ·intro e;subst e;have h1:=hout b (by rw[hso];rfl);have h2:=(hnew b hb).1;omega
 ·have em:(L'++[(L[k].1,s')]).map (λx=>sB x.2)=(L'.map λx=>sB x.2)++[sB s']:=by rw[ZM];rfl
  rw[em];refine aaH.2 ⟨?_,aaT.2 ⟨(aaH.1 Tq).2,abg _ _,?_⟩⟩
  ·intro y hy b hb Vo;cases hb;rcases ZK.1 hy with hy|hy
   ·obtain⟨x,hx,rfl⟩:=Z3.1 hy;have:=(hold x hx _ Vo).1;simp only[ZB]at this;omega
   ·rw[ZW]at hy;rw[hy]at Vo;have:=(hnew _ Vo).2;simp only[ZB,ZG,ZJ]at this;omega
  ·intro y hy z hz b hb hzb;obtain⟨x,hx,rfl⟩:=Z3.1 hy;rw[ZW]at hz;rw[hz]at hzb;have h1:=(hold x hx _ hb).1;have h2:=(hnew _ hzb).1;omega):A:=e
def z3{A:Prop} (e:A:=by
 obtain⟨V2,rfl,sb,K1⟩:=fin hv;refine Rs (A4 @t3 @t4 @t7 @sb) ?_;refine K1 _ ?_ ?_ ?_ ?_ ?_
 ·simp only[bw,hlen]
 ·exact Zs @t3 trivial
 ·exact Zs @t4 trivial
 ·exact Zs @t7 trivial
 ·exact Zn trivial):A:=e
def z4{A:Prop} (e:A:=by
 refine WF.val (hvk _ (by repeat first|exact Ext.refl _|refine Ext.app _ ?_)) ?_;rintro _ g1 rfl;refine Wn ?_;refine WR.fZ (h0:=h) (cs:=((L.take k).map F).map ao) (ys:=[ao (F L[k])]) ((((hfr.app _).app _).app _)) (Fr.push (N:=0) (aac _) [ao (F L[k])] (by simp[ao])).aX (by decide) (by simp) (by simp;omega) (by simp only[sO]) ?_;intro g' SI hff hkp;have hrow:((L.take k).map F).map ao++[ao (F L[k])]=((L.take (k+1)).map F).map ao:=by rw[aao,ZH hlt,ZM,ZM];rfl
 rw[hrow]at hff;rw[hrow];refine Ws (A6 @t1 @t5 @t8 @t9 @t10 (wrapN (show k+1<2^63 by omega))) ?_;refine⟨_,?_,k+1,_,by omega,rfl,hff,rfl,rfl⟩;omega):A:=e
def z5{A:Prop} (e:A:=by
 have e3:¬(k:Int)<L.length:=by omega
 have e4:k=L.length:=by omega
 refine Ws (A7 @t1 @t5 @t8 @t9 @t10 @e3 @Z9) ?_;rw[e4,aam]at hfr;exact hfr):A:=e
def z6{A:Prop} (e:A:=by
 rw[hrow]at hff;rw[hrow];refine Ws (A6 @t1 @t5 @t8 @t9 @t10 (wrapN (show k+1<2^63 by omega))) ?_;refine⟨_,?_,k+1,_,by omega,rfl,hff,rfl,rfl⟩;omega):A:=e
def z7{A:Prop} (e:A:=by
 have T8:some i∈V.bl:=by rw[hd];exact ja hi
 refine hk i (hin i T8).2 (λe=>?_) (λe=>r.ne (e▸T8));obtain⟨h1,h2,h3⟩:=aaT.1 Tq;rcases hi with hi|hi
 ·exact h3 _ hi _ (by simp) i rfl e
 ·exact(aaH.1 h2).1 _ hi i e rfl):A:=e
def z8{A:Prop} (e:A:=by
 have hrow:V.ar.map aP++[aP (y,t)]=(V.ar++[(y,t)]).map aP:=by rw[ZM];rfl
 rw[hrow]at hff;rw[hrow];have hbl:=r.lt;have SM:sB V.s3≠some b:=λe=>r.ne (by rw[<-e];simp[RV.bl])
 have hk1:∀i,i<(B++g).length->sB V.s3≠some i->(B++g')[i]? =(B++g)[i]? :=λi hi hne=>by
  rw[hkp i (by simp only[ZB]at hi ⊢;omega) (λb0 o n e he z=>hne (by rw[he,z];rfl))];exact(show Ext (B++g) _ from Xx).get hi
 have mB:(B++g')[b]? =some (.b V.row):=(hk1 b hbl SM).trans r.m;have Vv:=λ(b' o n e:Nat)=>iI (i:=4) (v:=.slice b' o n e) mB rfl (by decide)
 refine Rs (A4 @t0 @t1 @Vv @fe) ?_;refine Hj r hff ?_ (λi hi=>by cases hi;exact .inr (by simp only[ZB];omega)) hk1 ?_ ?_
 ·refine Fr.low (N:=(B++g).length) ((show Fr (B++g).length _ t 1 _ from Tz.app _).aC λi hi=>hkp i ?_ (λb0 o n e he z=>?_)) (by simp)
  ·have:=(Tz.bP hi).2;simp only[ZB]at this ⊢;omega
  ·have h1:=(Tz.bP hi).1;have h2:=(r.o.i3.bP (show sB V.s3=some i by rw[he,z];rfl)).2;omega
 ·intro i hi;have h1:=Tz.bP hi;refine⟨h1.1,λe=>?_⟩;cases e;have:=h1.2;simp only[ZB,ZG,ZJ]at this;omega
 ·rw[hy];simp[RV.an,dt]):A:=e
def z9{A:Prop} (e:A:=by
 rcases hn i hi with hn|hn
 ·exact .inl hn
 ·refine .inr ⟨λy hy e=>?_,λy hy e=>?_⟩
  ·subst e;have:=(hin i (by rw[hd];exact ja (.inl hy))).2;omega
  ·subst e;have:=(hin i (by rw[hd];exact ja (.inr hy))).2;omega):A:=e
def Og{A:Prop} (e:A:=by
 refine⟨own,r.hN,hm,λhb=>?_⟩;have hbl:=r.lt;have UI:=r.ne;rw[hd]at UI;by_cases hsb:sB s=some b
 ·rcases hn b hsb with z|z
  ·exact UI (by rw[z];simp)
  ·omega
 ·by_cases htb:sB t=some b
  ·have:=(hnt b htb).1;omega
  ·have Us:some b≠sB s:=λz=>hsb z.symm
   have htb':some b≠sB t:=λz=>htb z.symm
   simp only[RV.bl,ZM,aar,abn,ZK,aag,aaC,abh]at hb;simp only[ZK,aag,aaC,abh]at UI
   grind):A:=e
def J2{A:Prop} (e:A:=by
 rw[hkp i (by simp only[ZB]at hi ⊢;omega) (λb0 o n e he z=>hne (by rw[he,z];rfl))];exact(show Ext (B++g) _ from Xx).get hi):A:=e
def z12{A:Prop} (e:A:=by
 by_cases hex:∃(x:Nat) (ox:bL),l[x]? =some ox/\listed.getD x false=true/\ox.dst=some t
 ·obtain⟨x,ox,hx,hxl,VK⟩:=hex;obtain⟨oo,U6,V6⟩:=TI x ox t hx VK;have hxi:x<i:=by
   by_cases e1:x=i
   ·subst e1;rw[TF]at hxl;cases hxl
   ·by_cases e2:x<i
    ·exact e2
    ·have e3:=(cR hsl (show i<x by omega) ho U6).2 t V6 ht;have e4:=hcl x i hxl hin e3;rw[TF]at e4;cases e4
  rw[SL (x+1) i t (by omega) (by omega) (λk o' a2 a3 a4 a5=>by have:=huniq x k ox o' t hx a4 VK a5;omega)];exact h2 t x ox hx hxl VK
 ·rw[SL 0 i t (by omega) (by omega) (λk o' e2 e3 e4 e5=>by
   obtain⟨oo,U6,Ta⟩:=TI k o' t e4 e5;have h6:=((cR hsl e3 U6 ho).1 t Ta).2 ht;exact hex ⟨k,o',e4,hahead k (ZX.1 U6).1 h6,e5⟩)]
  exact h1 t λj oj hj hl Ta=>hex ⟨j,oj,hj,hl,Ta⟩):A:=e
def RC{A:Prop} (e:A:=by
 repeat (first|simp (config:={maxSteps:=1000000}) only[aS,aW,bo,bp,Nat.reduceAdd,Nat.reduceMul,Nat.reduceLeDiff,Nat.reduceEqDiff,bw,hlen,ZY,Z1,t2,t3,t4,le,lr,bA,aO,aY,aF,SD,gV,reduceCtorEq,Z9,Z5,ga,j1,f1,ix,l2,oJ.aK,e2,iy,lv,e3,sb,gm]|simp (config:={maxSteps:=1000000}) (disch:=first|(simp only[ZB,ZG,ZJ]<;>omega)|rfl|omega|fail) only[fN,aS,aW,bo,bp,Nat.reduceAdd,Nat.reduceMul,Nat.reduceLeDiff,Nat.reduceEqDiff,bw,hlen,ZY,Z1,t2,t3,t4,le,lr,bA,aO,aY,aF,SD,gV,reduceCtorEq,Z9,Z5,ga,j1,f1,ix,l2,oJ.aK,e2,iy,lv,e3,sb,gm])
 rw[bn,ZN (λz=>z hct),ZS h3];exact cG.fin SZ (λz=>absurd z (by decide))):A:=e
def Bw{A:Prop} (e:A:=by
 exact⟨by simp[Op.equalIn,ZZ hu],λl=>by simp,by simp,rfl,rfl⟩):A:=e
def Rz{A:Prop} (e:A:=by
 have hlt:=(ZC.1 hx).1;have Td:t<a1.tmps.size:=by have:=hTl l.length (ZO _);omega
 have ex:(T l.length).getD t az=x:=by simp[List.getD,hx]
 have ey:a1.tmps.getD t undef=a1.tmps[t]:=by simp[aas,aaw Td]
 refine⟨a1.tmps[t],by simp,?_⟩;rw[<-ex,<-ey];by_cases hw:∃(j:Nat) (o:bL),l[j]? =some o/\o.dst=some t
 ·obtain⟨j,o,hj,ho⟩:=hw;have Uv:=(ZC.1 hj).1;rw[SL (j+1) l.length t (by omega) (ZO _) (λk o' a2 a3 a4 a5=>by have:=huniq j k o o' t hj a4 ho a5;omega)];exact h2 t j o hj (hall j (by omega)) ho
 ·rw[SL 0 l.length t (by omega) (ZO _) (λk o' _ _ h4 h5=>hw ⟨k,o',h4,h5⟩)];exact h1 t λj o hj _ ho=>hw ⟨j,o,hj,ho⟩):A:=e
def Ry{A:Prop} (e:A:=by
 cases x with
 |agg l=>cases hx
 |dL l=>cases hx
 |bool b=>rw[VR]at h;subst h;rfl
 |int k n=>rw[VR]at h;subst h;rfl
 |xH k b=>rw[VR]at h;obtain⟨_,rfl,_⟩:=h;rfl
 |wX k x y=>rw[VR]at h;obtain⟨_,_,rfl,_⟩:=h;rfl
 |str s=>rw[VR]at h;subst h;rfl
 |ptr b o=>rw[VR]at h;obtain⟨_,_,rfl⟩:=h;rfl
 |nilPtr=>rw[VR]at h;subst h;rfl
 |slice b o n e=>rw[VR]at h;obtain⟨_,_,_,_,rfl,_⟩:=h;rfl
 |af=>rw[VR]at h;subst h;rfl
 |map r=>rw[VR]at h;obtain⟨_,_,rfl⟩:=h;rfl
 |dh=>rw[VR]at h;subst h;rfl
 |func f a c=>rw[VR]at h;obtain⟨_,_,_,rfl,_⟩:=h;rfl
 |nilFunc=>rw[VR]at h;subst h;rfl
 |uS u a=>rw[VR]at h;obtain⟨_,rfl,_⟩:=h;rfl
 |kN=>cases hx):A:=e
def Rx{A:Prop} (e:A:=by
 simp only[aav,ZY,Option.map_map];congr 1;funext i;simp only[Function.comp];omega):A:=e
def J1{A:Prop} (e:A:=by
 obtain⟨h1,h2,h3⟩:=s.kl i hi;rw[g2 i h2,hk i (aax h1 s.ln) (λz=>h3 (by rw[<-z];simp[RV.bl]))];exact s.kp i hi):A:=e
def J0{A:Prop} (e:A:=by
 simp only[RV.bl,ZM,aar,abn,ZK,aag,List.mem_nil_iff,abh]at h ⊢
 grind):A:=e
def z20{A:Prop} (e:A:=by
 have hX:Ext X (X++[.b V.row]++[.b x.row]++[.b k9]):=Xx;have ho:cJ B.length (X++[.b V.row]++[.b x.row]++[.b k9]) V:=o.ay λi hi=>hX.get (o.dU hi).2
 refine⟨⟨ho,hx.len,by simp,λhi=>by have:=(o.dU hi).2;omega⟩,hx.trans hX,ZO _,λ_ _=>rfl,λi hi=>?_⟩;simp only[ZB,ZG,ZJ];rcases hi with⟨h1,h2⟩|h1|h1
 ·exact⟨by omega,by omega,h2⟩
 ·exact⟨by omega,by omega,λz=>by have:=(o.dU z).2;omega⟩
 ·exact⟨by omega,by omega,λz=>by have:=(o.dU z).2;omega⟩):A:=e
def z21{A:Prop} (e:A:=by
 split at hk
 case isFalse=>cases hk
 rename_i hg;cases S4:flat P 20 t with
 |none=>simp[S4]at hk
 |some ks=>
  simp[S4]at hk;subst hk;have hb':zG ks (ρ x) (ρ y)=some b:=hb;unfold zG at hb';split at hb'
  case h_2=>cases hb'
  rename_i xs ys hxa Ub;rw[hxa]at hx;rw[Ub]at hy;obtain⟨lx,rfl,Vr⟩:=hx;obtain⟨ly,rfl,Vq⟩:=hy;split at hb'
  case isFalse=>cases hb'
  rename_i hlen;refine fin (wS hg) ?_ rfl rfl;exact Ci 20 t ks S4 10000 (by omega) _ hu xs ys lx ly b hlen.1 hlen.2 Vr Vq hb' w):A:=e
def BH{A:Prop} (e:A:=by
 simp only[compile]at hc
 (repeat' split at hc)
 all_goals cases hc):A:=e
def NM{A:Prop} (e:A:=by
 have:∀n,ra (Array.replicate ops.size false) n<=n:=by
  intro n
  induction n with
  |zero=>exact ZO _
  |succ n ihn=>simp only[ra];split<;>omega
 exact this _):A:=e
def z24{A:Prop} (e:A:=by
 cases hk;exact e9.nQ hr (G2 (w:=w) (ox:=x) (oy:=y) hk0 hx hy hs) (λcv h=>by simp only[execOp,ho];rw[Z0,h];rfl)):A:=e
def Of{A:Prop} (e:A:=by
 rcases hs.L8 with⟨rfl,rfl⟩|hq
 ·refine Ws @CH ?_;exact .nil
 ·refine Ws @hq ?_;refine WR.pQ (N:=h.length) aV (ZO _) (hs.ext (by repeat first|exact Ext.refl _|refine Ext.app _ ?_)) (by omega) λs' g hf=>?_
  refine Wn ?_;exact hf):A:=e
def Oe{A:Prop} (e:A:=by
 obtain⟨xi,a1,a2⟩:=TI i oi d hi h1;obtain⟨xj,b1,b2⟩:=TI j oj d hj h2;by_cases hlt:i<j
 ·exact absurd b2 ((cR hsl hlt a1 b1).1 d a2).1
 ·by_cases VD:j<i
  ·exact absurd a2 ((cR hsl VD b1 a1).1 d b2).1
  ·omega):A:=e
def Od{A:Prop} (e:A:=by
 refine⟨n.mo.add hi,n.pd,λj hj x hx=>?_,n.wt⟩;have hm:=(w.jb j hj).1;refine n.ac j hj x ?_;have hx:x∈R.lines.filter λl=>decide (l.name∈(xG (R.ar++[_]) j.mod).map cQ.line):=hx
 rw[BX w n.mo f0 hi hm]at hx;exact hx):A:=e
def z28{A:Prop} (e:A:=by
 show 0+0+nc*i.size<=(vo++vn).length+rest.length;rw[ZB,TB,Tp,YY,Uf];have e1:nc*i.size=(n+k)*i.size+(nc-(n+k))*i.size:=by rw[<-abU];congr 1;omega
 rw[abU]at e1;simp;omega):A:=e
def Oc{A:Prop} (e:A:=by
 rw[e]at hb;by_cases hsb:sB s=some b
 ·rcases hn b hsb with z|z
  ·exact UI (by rw[z];simp)
  ·omega
 ·rcases vZ hb with z|z|z
  ·exact UI (ja (.inl z))
  ·exact hsb z.symm
  ·exact UI (ja (.inr z))):A:=e
def Ob{A:Prop} (e:A:=by
 have hlt:j<ops.size:=by have:=(ZC.1 hj).1;omega
 have ho:ops[j]? =some ops[j]:=aaw hlt;obtain⟨io',h1,h2⟩:=SF j ops[j] (by simp);rw[hj]at h1;cases h1;exact⟨_,ho,h2⟩):A:=e
def z31{A:Prop} (e:A:=by
 have hsh:U.an.aj=V.an.aj.map (je a z):=by
  refine List.ext_getElem (by simp[RV.an,UC]) λi h1 h2=>?_
  have hi:i<U.aj.length:=by simpa [RV.an]using h1
  have:=hU i hi (by omega);rw[ZS (by omega)]at this
  simpa [RV.an]using this
 have heq:∀A C:dA,{A with aj:=C.aj} =C->A={C with aj:=A.aj}:=by
  intro A C h;cases A;cases C;simp_all
 have:=heq _ _ hreg;rw[this,hsh,dt,ha,hz]):A:=e
def Rw{A:Prop} (e:A:=by
 refine⟨(fn.aC λj hj=>kp j (ln j hj).2 λe=>?_).low (by simp only[ZB];omega),(fv.aC λj hj=>kp j (lv j hj).2 λe=>?_).low (by simp only[ZB];omega),λj hj e=>?_,λj hj e=>?_⟩
 ·have h1:=(ln j hj).1;have h2:=hout j e;omega
 ·have h1:=(lv j hj).1;have h2:=hout j e;omega
 ·have h1:=(ln j hj).2;have h2:=U7 j e;omega
 ·have h1:=(lv j hj).2;have h2:=U7 j e;omega):A:=e
def Rv{A:Prop} (e:A:=by
 by_cases hxy:x<=y
 ·have:=Vl x (y-x) (by omega) (λj o h1 h2 h3=>by
   cases hk:cE o.k with
   |true=>rfl
   |false=>have:=hno j o h3 hk;omega)
  rw[show x+(y-x)=y from by omega]at this;exact this.symm
 ·have:=Vl y (x-y) (by omega) (λj o h1 h2 h3=>by
   cases hk:cE o.k with
   |true=>rfl
   |false=>have:=hno j o h3 hk;omega)
  rw[show y+(x-y)=x from by omega]at this;exact this):A:=e
def Oa{A:Prop} (e:A:=by
 subst e;by_cases hsi:sB s=some i
 ·exact n2 hsi
 ·have:=(hin i (by rw[hd];simp only[ZK,aag,aaC,abh]at hy ⊢;have hsi':some i≠sB s:=λz=>hsi z.symm;grind)).2;omega):A:=e
def NL{A:Prop} (e:A:=by
 obtain⟨e,he,hb,hor⟩:=(oR hed ho).2 x hx ha;have hle:=XO e he hb;rcases hor with rfl|hor
 ·exact hle
 ·exact hcl e.on x hle hx hor):A:=e
def Ru{A:Prop} (e:A:=by
 simp only[Sy]at hc;split at hc
 case h_2=>cases hc
 rename_i kt e x' i' y' hu SC hi' hy';simp only[Z2]at hc;obtain⟨kk,hkk,rfl⟩:=hc;obtain⟨w',h1,rfl,h2,h3⟩:=H9 (w:=w) hu hkk hr (hρ x (by simp[Sy,Op.operands]) x' SC) (hρ i (by simp[Sy,Op.operands]) i' hi') (hρ y (by simp[Sy,Op.operands]) y' hy') hs;exact⟨undef,w',m,.inr ⟨by simp[execOp,Sy,h1],rfl⟩,j5 m,h2,h3⟩):A:=e
def z37{A:Prop} (e:A:=by
 rw[hp,ZN (by decide),Z6]at SU;refine Ws (A6 @t1 @t5 @t8 @t9 @t10 (wrapN (show k+1<2^63 by omega))) ?_;refine⟨_,?_,k+1,out,by omega,rfl,by rw[SU];exact(hfr.app _).app _,rfl,rfl⟩;omega):A:=e
def Rt{A:Prop} (e:A:=by
 have h1:=Tz.bP hi;refine⟨h1.1,λe=>?_⟩;cases e;have:=h1.2;simp only[ZB,ZG,ZJ]at this;omega):A:=e
def Rr{A:Prop} (e:A:=by
 rcases SK b1 e1 h1 with⟨rfl,rfl⟩|⟨Wt,Ui⟩
 ·rcases SK b2 e2 h2 with⟨rfl,rfl⟩|⟨hl2,Xl⟩
  ·exact absurd rfl hne
  ·exact absurd hcb.symm (hout b2 e2 Xl)
 ·rcases SK b2 e2 h2 with⟨rfl,rfl⟩|⟨hl2,Xl⟩
  ·exact absurd hcb (hout b1 e1 Ui)
  ·rw[ZF Wt]at hk1;rw[ZF hl2]at Sz;exact hr.sep b1 b2 e1 e2 k1 k2 hne Ui Xl hk1 Sz hcb):A:=e
def z40{A:Prop} (e:A:=by
 rw[c8 (by omega)]at hj ⊢;split
 ·rfl
 ·split at hj
  ·rename_i hji;subst hji;exact hahead x hx ha
  ·exact hcl j x hj hx ha):A:=e
def Ed{A:Prop} (e:A:=by
 exact cG.fin SZ (λz=>absurd z (by decide))):A:=e
def N9{A:Prop} (e:A:=by
 have e3:¬(k:Int)<L.length:=by omega
 have e4:k=L.length:=by omega
 refine Ws (A7 @t1 @t5 @t8 @t9 @t10 @e3 @Z9) ?_;rw[e4,aam]at hm;exact⟨L',hm,hfr,hin,Tq⟩):A:=e
def NK{A:Prop} (e:A:=by
 rw[hkp i (by simp only[ZB];omega) (λb0 o n e he z=>hne (by rw[he,z];rfl))];exact ZF hi):A:=e
def N8{A:Prop} (e:A:=by
 exact(show Ext (B++g) _ from Xx).get hi):A:=e
def N7{A:Prop} (e:A:=by
 cases Sx;rw[hv]at h1;have h1':=h1;obtain⟨f',a',c',h2,h3,_⟩:=h1;simp only[Bu]at h3;subst h3;exact e9.same hr h1' (by simp[execOp,Sy,h2])):A:=e
def z46{A:Prop} (e:A:=by
 simp only[ZB,ZG,ZJ]at this ⊢;omega):A:=e
def Rq{A:Prop} (e:A:=by
 simp only[Sy,Z2]at hc;obtain⟨x',SC,rfl⟩:=hc;have Sx:dx (.cg x') ρ h=some (v,h'):=hs;simp only[dx,aaa,abY]at Sx;obtain⟨rfl,rfl⟩:=Sx;exact e9.same hr (hρ x (by simp[Sy,Op.operands]) x' SC) (by simp[execOp,Sy])):A:=e
def Rp{A:Prop} (e:A:=by
 have:=uO (T:=T) (t:=t) (a:=x) (y-x) (λj h1 h2=>by
  have hj:l[j]? =some (l[j]'(by omega)):=ZH (by omega);obtain⟨v,hv⟩:=Ua j _ hj;exact⟨_,v,hv,hno j _ h1 (by omega) hj⟩)
 rwa [show x+(y-x)=y from by omega]at this):A:=e
def z49{A:Prop} (e:A:=by
 exact⟨_,by omega,k+1,_,by omega,rfl,hff,rfl,rfl⟩):A:=e
def Ro{A:Prop} (e:A:=by
 rename_i hm;cases h;rw[aad,aad]at hm;obtain⟨f,hf⟩:=Option.isSome_iff_exists.1 hm.1.2;have h1:=ab7 hf;rw[aad]at h1;exact .inr (.inr ⟨l3,rfl,hq.2,⟨l,hl⟩,2,Zh,.inr ⟨f,h1.1,h1.2⟩,hm.2⟩)):A:=e
def z51{A:Prop} (e:A:=by
 refine⟨_,w',m',room Wz hlen UG (by simp only[WH];rw[gQ];exact h0),⟨_,_,cap,h1,rfl,Wz,λ_=>?_,?_⟩,h2,h3⟩
 ·rw[WH];simp only[Addr.mk.injEq,acb,and_true];omega
 ·show 0+(en.d+o)+cap*i.size<=en.sz;omega):A:=e
def Rn{A:Prop} (e:A:=by
 have Sx:S j=true:=by unfold mark at hs;rwa [ZN hji]at hs
 rw[dC (huniq j o d hji hj ho)];refine VR.mono ?_ _ _ (M.yY d j o hj Sx ho);intro b e hb;unfold bY.dG at hb ⊢;split at hb
 ·rename_i hlt;rw[ZS hlt];exact UZ _ _ hb
 ·cases hb):A:=e
def z53{A:Prop} (e:A:=by
 have e2:(#[]++(⟨[.string ⟨⟨s⟩⟩,.int .u8 (c.toNat:Int)]⟩:Array Value)++#[])=#[]++#[.string ⟨⟨s⟩⟩,.int .u8 (c.toNat:Int)]++#[]:=rfl;simp only[e2,e',Result.andThen];exact⟨_,m,rfl,rfl,hr,Grow.refl m h w hr.cN⟩):A:=e
def NJ{A:Prop} (e:A:=by
 rw[aao,ZH (by rw[Yq];exact hlt),hy];simp[RV.an]):A:=e
def NI{A:Prop} (e:A:=by
 cases hx:m h.length with
 |none=>rfl
 |some y=>exact absurd (hr.cN _ _ hx) (by omega)):A:=e
def N6{A:Prop} (e:A:=by
 rw[SU,aaL];simp only[aaM,ab8,hd,Z1,ZM,aar,abn]):A:=e
def Rm{A:Prop} (e:A:=by
 rw[a5 i hi (by omega),hU i (by omega) hi'];by_cases Uw:i=k
 ·subst Uw;rw[ZS rfl,ZN (by omega),ZS (by omega)]
 ·rw[ZN Uw];by_cases hil:i<k
  ·rw[ZS hil,ZS (by omega)]
  ·rw[ZN hil,ZN (by omega)]):A:=e
def JZ{A:Prop} (e:A:=by
 subst z;rcases hb' i hi with z|z
 ·exact SM z
 ·omega):A:=e
def z59{A:Prop} (e:A:=by
 have hj:l[x+k]? =some (l[x+k]'(by omega)):=ZH (by omega);rw[show x+(k+1)=x+k+1 from by omega,Vk _ _ hj (hno _ _ (by omega) (by omega) hj)];exact ih (by omega) λj o h1 h2 h3=>hno j o h1 (by omega) h3):A:=e
def JY{A:Prop} (e:A:=by
 subst z;rcases hn i hi with z|z
 ·exact SM z
 ·omega):A:=e
def N5{A:Prop} (e:A:=by
 obtain⟨v,hv⟩:=Ua j _ (ZH (show j<l.length by omega));rw[hv,nA];exact ih (by omega)):A:=e
def Rl{A:Prop} (e:A:=by
 split at hk
 case isFalse=>cases hk
 simp only[Z2]at hk;obtain⟨ks,_,rfl⟩:=hk;exact e9.nQ hr (G2 (w:=w) (ox:=x) (oy:=y) hk0 hx hy hs) (λcv h=>by simp only[execOp,ho];rw[Z0,h];rfl)):A:=e
def Rk{A:Prop} (e:A:=by
 refine⟨e,ts,h'++[ak.dead]++g',λr hr=>?_,done e h' g' hl T9⟩;have:r=none:=hr;subst this;have:=Ev.fW (h:=h) (ps:=ps) (asg:=asg) (body:=body) hA hg hs (nF hl) bS;rw[rK hl]at this;exact this):A:=e
def N4{A:Prop} (e:A:=by
 rw[aao,ZH hlt,aaL];congr 1;cases hp:p L[k]<;>simp[hp]):A:=e
def Rj{A:Prop} (e:A:=by
 rw[aao,ZH TE]at hy';rcases ZK.1 hy' with hy'|hy'
 ·exact hsf y' hy'
 ·simp only[Option.toList_some,ZW]at hy';rw[hy',<-hy];exact h4):A:=e
def Ri{A:Prop} (e:A:=by
 refine zE hg SC ?_ (λt UF=>ht t ?_)
 ·exact aae.1 hgok x (Array.mem_toList_iff.2 hx)
 ·subst UF;exact List.mem_append_left _ (List.mem_filterMap.2 ⟨.tmp t,by simpa using hx,rfl⟩)):A:=e
def Rh{A:Prop} (e:A:=by
 refine Rs (A2 @t0 @o1) ?_;refine WF.res T.c177 (r177 T (hx.ext Xx) (by simp;omega)) ?_;rintro s' g1 hf;have o2:=hf.aX.one;refine Rs (A3 @t0 @o1 @o2) ?_;exact⟨s',rfl,(Fr.swap hf (by simp)).low (by simp)⟩):A:=e
def NH{A:Prop} (e:A:=by
 rw[ZN Tk]at Sz;exact hr.sep b1 b2 e1 e2 k1 k2 hne TW SH hk1 Sz hcb):A:=e
def Rg{A:Prop} (e:A:=by
 refine⟨_,by omega,k+1,out,by omega,rfl,?_,rfl,rfl⟩;rw[SU,aaL];simp only[aaM,ab8,hd,aav,ZY,Z6];exact hfr.app _):A:=e
def z70{A:Prop} (e:A:=by
 rw[bn]at hc;split at hc
 case isTrue hb=>exact absurd hc hb
 case isFalse hb=>
  unfold jz at hb;split at hb
  ·exact absurd (by decide) hb
  split at hb
  ·exact absurd (by decide) hb
  omega):A:=e
def N3{A:Prop} (e:A:=by
 obtain⟨h3,h4,h5⟩:=w.md x hx;exact⟨h3,h4,λt ht=>by rw[em];exact gI (h5 t ht)⟩):A:=e
def z72{A:Prop} (e:A:=by
 rw[ZS h0];refine Rs (A4 @t0 @t1 @st @q) ?_;exact⟨_,rfl,.nil⟩):A:=e
def NG{A:Prop} (e:A:=by
 rw[aas,Array.getElem?_replicate];split<;>rfl):A:=e
def N2{A:Prop} (e:A:=by
 obtain⟨o,h1,h2⟩:=WI j io hj;exact⟨o,h1,by rw[<- (dw h2).1];exact hd⟩):A:=e
def z75{A:Prop} (e:A:=by
 have hi':i<x.ev.names.length:=by omega
 have:aL x.ev i=x.ev.names[i]:=by rw[aL,aaf,ZH hi'];rfl
 rw[this];exact ox.n.kg hi' rfl e):A:=e
def z76{A:Prop} (e:A:=by
 by_cases e1:j=i
 ·subst e1;exact hlt
 ·rw[hne j e1];exact hl):A:=e
def N1{A:Prop} (e:A:=by
 rw[ZP (by simp;omega),ZP (by simp;omega)];simp):A:=e
def NF{A:Prop} (e:A:=by
 have:=BJ (listed:=listed) (by omega) TF ops.size hin;omega):A:=e
def GO{A:Prop} (e:A:=by
 exact Rs (A3 @t0 @t1 @t2) trivial):A:=e
def z80{A:Prop} (e:A:=by
 rename_i cs;cases hl:cs.toList.mapM (mN n)with
 |none=>simp[hl]at h
 |some r=>simp[hl]at h;subst h;exact⟨cs.toList,rfl,v7 m n (qT m n) _ _ hl⟩):A:=e
def NZ{A:Prop} (e:A:=by
 have h1:=(s.bk.o.dU (b:=i) (by rw[<-e];simp[RV.bl])).2;have:=(htb i hi).1;omega):A:=e
def Rf{A:Prop} (e:A:=by
 unfold bY.add at TZ;by_cases hx:b=h.length
 ·rw[ZS hx]at TZ;cases TZ;exact .inl ⟨hx,rfl⟩
 ·rw[ZN hx]at TZ;exact .inr ⟨hr.cN _ _ TZ,TZ⟩):A:=e
def Re{A:Prop} (e:A:=by
 simp only[Gk,Gj,Gi,JH,JI,Gp,Gn,Gm,Nf,Nd,abi,aaS,ne_eq,aaa,and_true];omega):A:=e
def Rd{A:Prop} (e:A:=by
 refine Rs (Kh @t4 @t6 @t20 @t21 @t22 @e3 @ix @ld @e5 @l2 @l3 @bC @eA @lk @hb @mp @a4) ?_;exact⟨_,by omega,k+1,_,by omega,rfl,rfl,hnew,rfl⟩):A:=e
def z85{A:Prop} (e:A:=by
 show(R.ar++[_]).length<=32;rw[ZB,Z4];omega):A:=e
def NY{A:Prop} (e:A:=by
 rcases hn i z with z|z
 ·exact h3 (by rw[<-z];simp[RV.bl])
 ·have:=s.ln;omega):A:=e
def z87{A:Prop} (e:A:=by
 exact cG.fin SS (λz=>absurd z (by decide))):A:=e
def Rc{A:Prop} (e:A:=by
 rw[aB (e.some hg0)];have:bI x.ev 1=1\/bI x.ev 1=2\/bI x.ev 1=3\/bI x.ev 1=4:=by omega
 rcases this with z|z|z|z<;>rw[z]<;>rfl):A:=e
def ND{A:Prop} (e:A:=by
 simp only[ZW,aaa]at z;omega):A:=e
def Rb{A:Prop} (e:A:=by
 rw[aao,ZH hlt,tB];simp only[Option.toList_some,cI,aau,aaB];rw[abr (by omega)]):A:=e
def z91{A:Prop} (e:A:=by
 exact cG.fin sY (λz=>absurd z (by decide))):A:=e
def Ra{A:Prop} (e:A:=by
 cases hk:cE oj.k with
 |true=>exact .inl rfl
 |false=>
  cases Sz:kW oj with
  |true=>exact .inr rfl
  |false=>have:=hHh j oj h3 hk Sz;omega):A:=e
def z93{A:Prop} (e:A:=by
 have hne:io.dst≠some d:=hd i io hio (by simp[mark]);rw[dC hne];refine M.yZ d λj o hj hs=>hd j o hj ?_
 unfold mark;split
 ·rfl
 ·exact hs):A:=e
def Q9{A:Prop} (e:A:=by
 have d1:decide (n<10)=true:=ZI h10;refine Ws (A4 @d0 @d1 @uM @zN) ?_;rw[kU,Lib.decDigits,dif_pos (by omega),zI h0 h10]):A:=e
def Q8{A:Prop} (e:A:=by
 have e3:=jt hmo (show i<j by omega) hio hj Yg (hrp hk) VQ (hld hk) (.inl ⟨T5,hk⟩);have e4:=hcl j i Uu hin e3;rw[TF]at e4;cases e4):A:=e
def Q7{A:Prop} (e:A:=by
 rw[VR]at ha hv ⊢;obtain⟨e,he,_⟩:=ha;obtain⟨e',TA,hv⟩:=hv;exact⟨e',by unfold bY.dG;rw[ZS (hd _ _ he)];exact TA,hv⟩):A:=e
def NX{A:Prop} (e:A:=by
 exact h3 (by rw[<-z];simp[RV.bl])):A:=e
def Q6{A:Prop} (e:A:=by
 have:=(Fr.push (N:=0) (es:=3) (h:=W4) (aac _) [z] (λx hx=>by rw[ZW]at hx;rw[hx,hz];rfl)).aX
 simpa using this):A:=e
def Q5{A:Prop} (e:A:=by
 simp only[aS,aW,bo,bp,Nat.reduceAdd,Nat.reduceMul,Nat.reduceLeDiff,Nat.reduceEqDiff,bw,hlen,ZY,Z1,t0,aB hg.1]):A:=e
def La{A:Prop} (e:A:=by
 have hl:=(ZC.1 this).1;rw[ZH hl]at this;rw[<-aaE this];exact List.set_getElem_self hl):A:=e
def K9{A:Prop} (e:A:=by
 split at hn
 case isFalse=>cases hn
 rename_i UM;subst UM;cases hn;obtain⟨e,rfl⟩:=hd;simp[Builtin.len_,UH,ZZ hu,goInt]):A:=e
def K8{A:Prop} (e:A:=by
 by_cases hab:a=b
 ·simp[dF,cY,hab,Bj]
 ·have:(a==b)=false:=by simp[hab]
  simp[dF,cY,hab,Bj,this]):A:=e
def K7{A:Prop} (e:A:=by
 refine Rs (mZ @t0 @t3 @t26 @t27 @t201 @t202 @t203 @t238 @t239 @t240 @e5) ?_;exact⟨_,by omega,i+1,by omega,rfl,e2.trans e4,rfl⟩):A:=e
def Ag{A:Prop} (e:A:=by
 subst z;have:=(hnt i hi).1;omega):A:=e
def z105{A:Prop} (e:A:=by
 rw[ei];refine Rs (A5 @t0 @t1 @ix @ld @on) ?_;exact⟨x,T8,sp,rfl⟩):A:=e
def K6{A:Prop} (e:A:=by
 have:jz V.an x.ev=3:=by rw[jz,ZN (by rw[h1];decide),<-jx.e,ZS h2]
 rw[bn,ZS (by rw[this];decide),this]):A:=e
def z107{A:Prop} (e:A:=by
 simp only[aas,aaw (show i<listed.size by omega),abP]at hl ⊢;exact hl):A:=e
def K5{A:Prop} (e:A:=by
 obtain⟨h1,h2,h3⟩:=s.kl i hi;rw[hk i (aax h1 s.ln) (λz=>h3 (by rw[<-z];simp[RV.bl]))];exact s.kp i hi):A:=e
def z109{A:Prop} (e:A:=by
 obtain⟨y,hy,rfl⟩:=Z3.1 hx;have:=uf w.n2 (ZT (f:=jX.name) (aaq.1 hy).1);omega):A:=e
def K4{A:Prop} (e:A:=by
 have Wo:(ps.map λ(i,x)=>(i,σ x)).toList=ps.toList.map λp=>(p.1,σ p.2):=by simp
 rw[Wo,TO];simp[newRow]):A:=e
def K3{A:Prop} (e:A:=by
 by_cases hlt:j<i
 ·have:=T7 (j+1) i (by omega) (by omega);omega
 ·have:=T7 (i+1) j (by omega) (by omega);omega):A:=e
def K2{A:Prop} (e:A:=by
 have e3:V.cM.length=V.bS.cM.length:=by simp[HV.bS]
 have e4:V.bS.da.length=V.da.length:=by simp[HV.bS]
 omega):A:=e
def KZ{A:Prop} (e:A:=by
 split at h
 ·rename_i h1 h2 h3 h4;simp only at h1 h2 h3 h4;subst h1;subst h2;subst h3;subst h4;cases h;rfl
 ·cases h):A:=e
def Af{A:Prop} (e:A:=by
 exact Ws (A2 @hld @TT) trivial):A:=e
def KY{A:Prop} (e:A:=by
 rw[VR]at ha hv ⊢;obtain⟨l1,_,h1⟩:=ha;obtain⟨l2,hv,h2⟩:=hv;exact⟨l2,hv,cK.cut hd l _ _ h1 h2⟩):A:=e
def z116{A:Prop} (e:A:=by
 rcases ZK.1 hx with hx|hx
 ·exact w.ev x hx
 ·rw[ZW]at hx;subst hx;exact⟨d,we⟩):A:=e
def z117{A:Prop} (e:A:=by
 show 0+(dO k z.cells).length<=row.size;rw[jF,hrs,hzl,aau];exact aaJ _ hkn):A:=e
def KX{A:Prop} (e:A:=by
 have e1:decide (jz V.an x.ev≠0)=true:=ZI hb;refine Rs (A3 @t0 @t1 @e1) ?_;rw[bn,ZS hb]):A:=e
def z119{A:Prop} (e:A:=by
 rw[ei];exact Rs (A4 @t0 @t1 @ix @ld) trivial):A:=e
def HQ{A:Prop} (e:A:=by
 rw[<-Ta]at hx;exact e1 (huniq j i oj io d hj hio Vf hx)):A:=e
def KW{A:Prop} (e:A:=by
 by_cases h2:w' =a
 ·subst h2;rw[ZS rfl,ZN (aa3 h1),ZS rfl]
 ·rw[ZN h2,ZN h2]):A:=e
def KV{A:Prop} (e:A:=by
 refine WF.ce T.c254 (Z.atoi Ta.2 (by simp) (by omega)) λg2=>?_
 refine Rs @t0 ?_;unfold lE;rw[e1];rfl):A:=e
def Eh{A:Prop} (e:A:=by
 simp only[RV.an,aaN];rfl):A:=e
def z124{A:Prop} (e:A:=by
 obtain⟨ma,va,h1,h2⟩:=h;exact⟨ma,va,λb e hb=>aax (h1 b e hb) hnk,h2⟩):A:=e
def HP{A:Prop} (e:A:=by
 exact propext ⟨λz=>by omega,λz=>by omega⟩):A:=e
def Eg{A:Prop} (e:A:=by
 simp only[RV.an,aaN];rfl):A:=e
def z127{A:Prop} (e:A:=by
 have hne:=hb' b 0 _ _ rfl;rw[<-aaA _ _ hN,ZV (aa3 hne)]):A:=e
def KU{A:Prop} (e:A:=by
 have:jz V.an x.ev=23:=by rw[jz,ZS h1]
 rw[bn,ZS (by rw[this];decide),this]):A:=e
def HO{A:Prop} (e:A:=by
 rw[hr]at h1;simp only[aaB]at h1;omega):A:=e
def z130{A:Prop} (e:A:=by
 rename_i hu;cases hf;exact⟨_,hu,λ_=>rfl⟩):A:=e
def z131{A:Prop} (e:A:=by
 congr 1;rw[aaM,ZS]
 ·rfl
 ·rw[aah,od,hC];exact .inl rfl):A:=e
def KT{A:Prop} (e:A:=by
 refine hall ?_;cases hy:fo s[k]with
 |false=>rfl
 |true=>have:=kT.1 hy;omega):A:=e
def KS{A:Prop} (e:A:=by
 have a1:=hdom b e TD;have a2:=fM hlen (i:=θ) (j:=j) (by omega) (by omega);omega):A:=e
def Ef{A:Prop} (e:A:=by
 have:=st.ts.length;simpa using this):A:=e
def KR{A:Prop} (e:A:=by
 subst he;rw[ZS rfl]at q4;simp only[Z5,Z1];exact⟨h5,g5,rfl,h6,q4⟩):A:=e
def KQ{A:Prop} (e:A:=by
 simp only[eF,ri,aaa,AV.bool.injEq];by_cases hab:x=y<;>simp[hab]):A:=e
def KP{A:Prop} (e:A:=by
 rw[ZP (by omega),abT,Nat.add_sub_cancel' (by omega)]):A:=e
def z138{A:Prop} (e:A:=by
 exact fin (kR h2 h3) h1 h4 h5):A:=e
def z139{A:Prop} (e:A:=by
 simp only[stepT,nI,qx];cases val ts x with
 |func f a c=>cases f<;>rfl
 |_=>rfl):A:=e
def HN{A:Prop} (e:A:=by
 cases k2<;>first|trivial|exact absurd rfl hl):A:=e
def z141{A:Prop} (e:A:=by
 simp only[RV.bl,ZK,Z3];exact .inl (.inl (.inr ⟨x,hx,hb⟩))):A:=e
def KO{A:Prop} (e:A:=by
 rcases ZK.1 hx with hx|hx
 ·exact hs.aX.rows x hx
 ·exact hy.rows x hx):A:=e
def z143{A:Prop} (e:A:=by
 have:=hTl l.length (ZO _);simp;omega):A:=e
def HM{A:Prop} (e:A:=by
 exact cG.fin Ue (λz=>absurd z (by decide))):A:=e
def z145{A:Prop} (e:A:=by
 by_cases h2:w' =w
 ·rw[ZS h2,ZS h2]
 ·rw[ZN h2,ZN h2,ZN h2]):A:=e
def z146{A:Prop} (e:A:=by
 cases hs with
 |nil=>exact .nil
 |mk hN hb he=>exact .mk hN ((hk _ rfl).trans hb) he):A:=e
def KN{A:Prop} (e:A:=by
 rw[<-hS,aaY];rintro⟨y,hy,hy2⟩;rw[hsf y hy]at hy2;cases hy2):A:=e
def z148{A:Prop} (e:A:=by
 rw[ZE,ZP (ZO _),aaG];rfl):A:=e
def HL{A:Prop} (e:A:=by
 exact cG.fin s (λz=>absurd z (by decide))):A:=e
def KM{A:Prop} (e:A:=by
 rw[aaA _ _ (ZO _),aaG,ZE];rfl):A:=e
def KL{A:Prop} (e:A:=by
 simp only[RV.bl,ZK,Z3];exact .inl (.inr ⟨x,hx,hb⟩)):A:=e
def z152{A:Prop} (e:A:=by
 simp only[Z2]at hc;obtain⟨f,_,rfl⟩:=hc;exact hs.elim):A:=e
def KK{A:Prop} (e:A:=by
 rw[fQ,<-jx.e,aaf,ZH hsl];rfl):A:=e
def z154{A:Prop} (e:A:=by
 rw[fQ,<-V5,aaf,ZH hlt];rfl):A:=e
def KJ{A:Prop} (e:A:=by
 rw[aao,ZH hlt,fP,List.foldl_append];rfl):A:=e
def z156{A:Prop} (e:A:=by
 rw[ZP hN,ZU (by simp at hbl;omega)]):A:=e
def z157{A:Prop} (e:A:=by
 rw[hh]at hi;refine Rs (A5 @t2 @t3 @t5 @t6 @hi) ?_;exact⟨Xd.trans Xx,rfl⟩):A:=e
def HK{A:Prop} (e:A:=by
 rw[em];exact w.n3.add (gn 0 (by decide)) f0):A:=e
def z159{A:Prop} (e:A:=by
 rw[ZE (h++[ak.aR (lR ds vf)]) g];exact K _ _ (s.put g1 hc)):A:=e
def z160{A:Prop} (e:A:=by
 obtain⟨j',h3,h4⟩:=IY f0 hj;exact n.ac j' h3 x (by rw[h4];exact hx)):A:=e
def KI{A:Prop} (e:A:=by
 cases Ut:o.k<;>rw[Ut]at hk<;>first|(cases hk;done)|simp[mR,Ut]):A:=e
def z162{A:Prop} (e:A:=by
 rw[V5];unfold jz at hb;split at hb
 ·cases hb
 split at hb
 ·cases hb
 omega):A:=e
def KH{A:Prop} (e:A:=by
 rw[aah];exact propext ⟨λz=>by omega,λz=>by omega⟩):A:=e
def z164{A:Prop} (e:A:=by
 cases ok
 ·exact VM
 ·exact⟨_,rfl,_,_,rfl,VM,_,_,rfl,rfl,rfl⟩):A:=e
def KG{A:Prop} (e:A:=by
 exact⟨hone,v,by rw[Yj _ (by omega)];exact hv,VR.mono Va _ _ SA⟩):A:=e
def KF{A:Prop} (e:A:=by
 rw[<-n8];exact hF.aC λj hj=>ne j (by have:=hlo j hj;omega)):A:=e
def z167{A:Prop} (e:A:=by
 simp only[RV.bl,ZK,Z3];exact .inr ⟨x,hx,hb⟩):A:=e
def z168{A:Prop} (e:A:=by
 rw[ZB,aaK,aaK];omega):A:=e
def Ee{A:Prop} (e:A:=by
 rw[ZN hbb]at ht;exact ht):A:=e
def KE{A:Prop} (e:A:=by
 subst hn;exact .of hmix hA (H (aT A.nt [a0,a1,a2]) hl rfl rfl rfl)):A:=e
def z171{A:Prop} (e:A:=by
 simp only[ZB,ZG,ZJ];omega):A:=e
def KD{A:Prop} (e:A:=by
 rw[ZL];exact aat (aaj _ _) w.l2):A:=e
def z173{A:Prop} (e:A:=by
 obtain⟨cv',m',rfl,h1,h2,h3⟩:=he;exact hn cv' m' w'' h1 h2 h3):A:=e
def KC{A:Prop} (e:A:=by
 exact⟨s.length-(k+1),by omega,k+1,by omega,rfl,rfl,rfl⟩):A:=e
def z175{A:Prop} (e:A:=by
 exact dl (by omega) (by omega)):A:=e
def KB{A:Prop} (e:A:=by
 simp only[FQ,GM,Ex.leaves,acb];cases cU rs ts h<;>simp):A:=e
def HJ{A:Prop} (e:A:=by
 rw[this];exact List.set_getElem_self _):A:=e
def KA{A:Prop} (e:A:=by
 rename_i hu;rw[hu]at VU;cases VU;cases hf;exact hone rfl rfl hu):A:=e
def Kz{A:Prop} (e:A:=by
 rw[TU];exact cG.fin s5 (λ_=>by simp only[dt,sp,hp];rfl)):A:=e
def Ky{A:Prop} (e:A:=by
 refine⟨_,by omega,k+1,by omega,rfl,Xy.trans Xx,hu,rfl⟩):A:=e
def Kx{A:Prop} (e:A:=by
 refine⟨_,by omega,k+1,by omega,rfl,UF.trans Xx,hu,rfl⟩):A:=e
def z182{A:Prop} (e:A:=by
 have:=hlate j oj hj hk hjf (by omega);rw[Uu]at this;cases this):A:=e
def z183{A:Prop} (e:A:=by
 simp only[WR,iR.app,aav,false_implies,acb]):A:=e
def Kw{A:Prop} (e:A:=by
 refine⟨_,by omega,k+1,by omega,rfl,hx.trans Xx,hu,rfl⟩):A:=e
def HI{A:Prop} (e:A:=by
 subst e1;rw[TF]at Uu;cases Uu):A:=e
def Kv{A:Prop} (e:A:=by
 rw[beq_eq_false_iff_ne];rintro rfl;exact absurd hc.1 (by decide)):A:=e
def Ku{A:Prop} (e:A:=by
 refine Rs (A3 @t0 @t1 @fe) ?_;exact⟨g',V',rfl,h1,h2⟩):A:=e
def Ks{A:Prop} (e:A:=by
 exact⟨_,by omega,k+1,by omega,rfl,hx.trans Xx,hi,rfl⟩):A:=e
def Kq{A:Prop} (e:A:=by
 simp only[stepT,nI];cases eF op (val ts x) (val ts y)<;>rfl):A:=e
def Kp{A:Prop} (e:A:=by
 simp only[RV.bl,l1,l2,e2,ZE,aaS]):A:=e
def Ko{A:Prop} (e:A:=by
 subst hn;exact .of hmix hA (H (aT A.nt [a0,a1]) hl rfl rfl)):A:=e
def Kn{A:Prop} (e:A:=by
 subst h3;exact⟨cv,w,m,h1,h2,hr,Grow.refl m _ w hr.cN⟩):A:=e
def z193{A:Prop} (e:A:=by
 refine .run hw (by rw[hk];trivial) ?_;rw[hk];exact nV hs):A:=e
def z194{A:Prop} (e:A:=by
 exact⟨_,_,rfl,.inr ⟨Jn hlt (by omega),by omega⟩⟩):A:=e
def Km{A:Prop} (e:A:=by
 exact⟨_,[],rfl,⟨.nil,λx hx=>by cases hx⟩,rfl⟩):A:=e
def z196{A:Prop} (e:A:=by
 exact(bad (by rw[TL];rfl) Xx).2):A:=e
def Kl{A:Prop} (e:A:=by
 simp only[abC,aav,ZY];omega):A:=e
def z198{A:Prop} (e:A:=by
 exact lM (by rw[hTl];exact M.size) (VR.mono h1 _ _ hv)):A:=e
def Kk{A:Prop} (e:A:=by
 rw[ZN Uw];simp only[abK (aa3 Uw)]):A:=e
def Kj{A:Prop} (e:A:=by
 cases k<;>first|exact H|exact absurd ⟨_,_,rfl⟩ hc):A:=e
def z201{A:Prop} (e:A:=by
 simp only[ZB,Z4];omega):A:=e
def Ki{A:Prop} (e:A:=by
 rw[bB]at hl;subst hl;cases hf;exact⟨cx,rfl,hx⟩):A:=e
def z203{A:Prop} (e:A:=by
 have:c=[]:=aay.1 h;subst this;rfl):A:=e
end Go.Abs
