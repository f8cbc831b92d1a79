/- Ends of proofs that stand in more than one place. No condition. -/
import Derived.Tactics
set_option linter.all false
namespace Go.Abs
def aac:=@List.length_append
def aad:=@List.getElem?_eq_some_iff
def aae:=@List.append_assoc
def aaf:=@decide_eq_false
def aag:=@List.getElem?_append_left
def aah:=@List.length_cons
def aai:=@List.getElem?_eq_getElem
def aaj:=@decide_eq_true
def aak:=@List.length_map
def aal:=@List.length_nil
def aam:=@List.mem_append
def aan:=@List.getElem?_append_right
def aao:=@if_neg
def aap:=@List.map_append
def aaq:=@Result.andThen_ok
def aar:=@Nat.le_refl
def aas:=@if_pos
def aat:=@List.getElem_mem
def aau:=@List.getElem?_set_ne
def aav:=@List.length_singleton
def aaw:=@List.getElem?_set_self
def aax:=@Array.getElem?_eq_some_iff
def aay:=@if_false
def aaz:=@run_underlying
def aaA:=@Sem.run_bind
def aaB:=@if_true
def aaC:=@Option.map_eq_some_iff
def aaD:=@Bool.not_true
def aaE:=@decide_true
def aaF:=@List.append_nil
def aaG:=@List.mem_singleton
def aaH:=@List.mem_map_of_mem
def aaI:=@Bool.not_false
def aaJ:=@decide_false
def aaK:=@List.mem_map
def aaL:=@Option.some.injEq
def aaM:=@Bool.and_eq_true
def aaN:=@List.mem_cons
def aaO:=@List.all_eq_true
def aaP:=@List.mem_cons_of_mem
def aaQ:=@Nat.zero_le
def aaR:=@congrArg
def aaS:=@List.take_length
def aaT:=@List.take_append_drop
def aaU:=@Sem.run_pure
def aaV:=@List.take_of_length_le
def aaW:=@List.getD_eq_getElem?_getD
def aaX:=@decide_eq_true_eq
def aaY:=@List.length_set
def aaZ:=@List.length_take
def aa0:=@List.length_filter_le
def aa1:=@List.take_add_one
def aa2:=@Bool.false_eq_true
def aa3:=@Array.getD_eq_getD_getElem?
def aa4:=@Nat.zero_add
def aa5:=@Nat.le_trans
def aa6:=@Array.getElem?_eq_getElem
def aa7:=@Nat.lt_of_lt_of_le
def aa8:=@List.mem_of_getElem?
def aa9:=@List.set_append_right
def aba:=@List.mem_cons_self
def abb:=@List.not_mem_nil
def abc:=@List.mem_of_mem_take
def abd:=@List.map_cons
def abe:=@List.pairwise_cons
def abf:=@Option.some.inj
def abg:=@List.length_eq_zero_iff
def abh:=@List.drop_length
def abi:=@Nat.sub_self
def abj:=@List.drop_eq_getElem_cons
def abk:=@Option.bind_eq_some_iff
def abl:=@Nat.mul_le_mul_right
def abm:=@List.cons_append
def abn:=@List.getElem_map
def abo:=@List.length_replicate
def abp:=@List.getElem?_cons_zero
def abq:=@List.mem_range
def abr:=@List.flatten_cons
def abt:=@Bool.not_eq_true'
def abu:=@List.pairwise_append
def abv:=@List.length_drop
def abw:=@List.mem_filter
def abx:=@Array.getElem?_setIfInBounds_self_of_lt
def aby:=@Nat.succ_mul
def abz:=@List.getElem?_map
def abA:=@of_decide_eq_true
def abB:=@List.drop_drop
def abC:=@List.all_cons
def abD:=@Bool.true_and
def abE:=@List.getElem?_cons_succ
def abF:=@List.nil_append
def abG:=@Ne.symm
def abH:=@List.drop_zero
def abI:=@Array.getElem?_toList
def abJ:=@List.getElem?_toArray
def abK:=@List.flatten_append
def abL:=@decide_eq_false_iff_not
def abM:=@List.append_cancel_left
def abN:=@Decidable.not_not
def abO:=@Int.tmod_eq_emod_of_nonneg
def abP:=@or_false
def abQ:=@List.map_map
def abR:=@eq_false
def abS:=@Array.getElem?_eq_none
def abT:=@Nat.min_eq_left
def abU:=@List.mem_or_eq_of_mem_set
def abV:=@List.take_succ_cons
def abW:=@List.replicate_succ
def abX:=@List.length_pos_iff
def abY:=@List.getElem?_take_of_lt
def abZ:=@List.getElem?_eq_none
def ab0:=@List.pairwise_singleton
def ab1:=@List.filter_append
def ab2:=@List.foldl_cons
def ab3:=@Bool.or_eq_true
def ab4:=@List.any_eq_true
def ab5:=@Array.getElem?_setIfInBounds_ne
def ab6:=@List.getLastD_eq_getLast?
def ab7:=@List.map_nil
def ab8:=@List.getElem_set_self
def ab9:=@decide_eq_decide
def aca:=@Option.map_some
def acb:=@List.length_reverse
def acd:=@Int.tmod_lt_of_pos
def ace:=@List.set_eq_take_append_cons_drop
def acf:=@Bool.false_ne_true
def acg:=@Bool.false_and
def ach:=@List.take_left
def aci:=@List.flatten_replicate_singleton
def acj:=@Option.isSome_iff_exists
def ack:=@List.foldl_append
def acm:=@List.all_append
def acn:=@List.filter_map
def aco:=@Nat.zero_mul
def acp:=@List.map_set
def acq:=@Bool.true_or
def acr:=@List.getElem_of_mem
def acs:=@Option.bind_eq_bind
def acu:=@Nat.mul_one
def acv:=@List.map_take
def acw:=@Array.length_toList
def acx:=@Bool.false_or
def acy:=@List.filter_cons
def acz:=@Option.getD_some
def acA:=@List.findIdx?_cons
def acB:=@List.getElem?_drop
def acC:=@Nat.add_mul
def acD:=@Bool.and_eq_false_iff
def acE:=@Option.map_none
def acF:=@UInt8.toNat_inj
def acG:=@Prod.mk.injEq
def acH:=@List.ext_getElem?
def acI:=@Function.comp_def
def acJ:=@List.any_cons
def acK:=@List.set_append_left
def acL:=@List.mapM_cons
def acM:=@List.take_zero
def acN:=@List.take_take
def acO:=@List.drop_left
def acP:=@Eq.trans
def acQ:=@List.getElem_set_ne
def acR:=@List.replicate_zero
def acS:=@List.map_congr_left
def acT:=@Int.toNat_of_nonneg
def acU:=@Array.ext'
def acV:=@Nat.le_of_lt
def acW:=@Nat.add_zero
def acX:=@List.find?_some
def acY:=@List.filter_nil
def acZ:=@Option.pure_def
def ac0:=@List.nodup_cons
def ac1:=@Int.tmod_nonneg
def ac2:=@Nat.le_succ
def ac3:=@true_and
def ac4:=@eq_true
abbrev By:=List UInt8
def Tv:True:=trivial
def Om{A:Prop}(e:A:=by omega):A:=e
def De{A:Prop}(e:A:=by decide):A:=e
def Si{A:Prop}(e:A:=by simp):A:=e
def z1{A:Prop} (e:A:=by
 refine Ws hs.aK ?_;refine WL.inv T.mix (λn ts h'=>∃k:Nat,k<=L.length/\n=L.length-k/\Ext h h'/\L.findIdx? p=((L.drop k).findIdx? p).map (· +k)/\ts.length=19/\slot ts 0=s/\slot ts 1=f/\slot ts 7=.i L.length/\slot ts 8=.i k) L.length
  ⟨0,by omega,rfl,Ext.refl h,by simp,rfl,rfl,rfl,rfl,rfl⟩ ?_
 rintro _ ts _ ⟨k,hk,rfl,⟨g,rfl⟩,hi,hlen,t0,t1,t7,t8⟩;rw[my ts 19 hlen];by_cases hlt:k<L.length
 ·have hd:L.drop k=L[k]::L.drop (k+1):=by simp
  have e3:(k:Int)<L.length:=by omega
  simp only[aU,aX,bz,bA,Nat.reduceAdd,Nat.reduceMul,Nat.reduceLeDiff,Nat.reduceEqDiff,t0,t1,t7,t8,e3,aaE,hs.dK hlt,hs.lL hlt];refine WF.val (hf L[k] (by simp) _ ⟨g,rfl⟩) ?_;rintro _ g1 rfl;cases hp:p L[k]with
  |true=>
   refine Ws @t8 ?_;rw[dt,hi,hd,acA,hp];simp
  |false=>
   refine Ws (A2 @t8 (wrapN (show k+1<2^63 by omega))) ?_;refine⟨_,?_,k+1,by omega,rfl,?_,rfl⟩
   ·omega
   ·rw[hi,hd,acA,hp];simp only[aa2,aay,Option.map_map];congr 1;funext i;simp only[Function.comp];omega
 ·have e3:¬(k:Int)<L.length:=by omega
  have e4:k=L.length:=by omega
  refine Ws (A6 @t0 @t1 @t7 @t8 @e3 @aaJ) ?_;rw[dt,hi,e4,abh];rfl):A:=e
def z2{A:Prop} (e:A:=by
 rw[hrow]at hff;rw[hrow];refine Ws (A6 @t1 @t5 @t8 @t9 @t10 (wrapN (show k+1<2^63 by omega))) ?_;have hout:∀b,sB out=some b->b<(h++g).length:=λb hb=>(hfr.bM hb).2
 have hnew:∀b,sB s' =some b->(h++g).length<=b/\b<(h++g).length+(1+g1.length):=λb hb=>by
  have:=hf'.bM hb;simp only[aac,aah,aal]at this ⊢;omega
 have hold:∀x∈L',∀b,sB x.2=some b->b<(h++g).length/\sB out≠some b:=λx hx b hb=>by
  refine⟨((hin x hx).bM hb).2,λe=>?_⟩;exact(abe.1 Ui).1 _ (aaH hx) b e hb
 refine⟨_,?_,k+1,_,L'++[(L[k].1,s')],by omega,rfl,?_,hff,?_,?_,rfl,rfl⟩
 ·omega
 ·rw[aap,hm,aa1,aai hlt,aap];rfl
 ·intro x hx;rcases aam.1 hx with hx|hx
  ·refine((((hin x hx).app _).app _).app _).aB λb hb=>hkp b ?_ λb0 o n e hso=>?_
   ·have:=(hold x hx b hb).1;simp only[aac]at this ⊢;omega
   ·intro e;subst e;exact(hold x hx b hb).2 (by rw[hso];rfl)
  ·rw[aaG]at hx;subst hx;refine Fr.low (N:=(h++g++[ak.cells [] true true]).length) ?_ (by simp only[aac];omega);refine Fr.aB (h:=_) ((hf'.app _).low ?_) λb hb=>hkp b ?_ λb0 o n e hso=>?_
   ·simp
   ·have:=hnew b hb;simp only[aac,aah,aal]at this ⊢;omega
   ·intro e;subst e;have h1:=hout b (by rw[hso];rfl);have h2:=(hnew b hb).1;omega
 ·have em:(L'++[(L[k].1,s')]).map (λx=>sB x.2)=(L'.map λx=>sB x.2)++[sB s']:=by rw[aap];rfl
  rw[em];refine abe.2 ⟨?_,abu.2 ⟨(abe.1 Ui).2,ab0 _ _,?_⟩⟩
  ·intro y hy b hb Wm;cases hb;rcases aam.1 hy with hy|hy
   ·obtain⟨x,hx,rfl⟩:=aaK.1 hy;have:=(hold x hx _ Wm).1;simp only[aac]at this;omega
   ·rw[aaG]at hy;rw[hy]at Wm;have:=(hnew _ Wm).2;simp only[aac,aah,aal]at this;omega
  ·intro y hy z hz b hb hzb;obtain⟨x,hx,rfl⟩:=aaK.1 hy;rw[aaG]at hz;rw[hz]at hzb;have h1:=(hold x hx _ hb).1;have h2:=(hnew _ hzb).1;omega):A:=e
def z3{A:Prop} (e:A:=by
 obtain⟨V2,rfl,sb,K1⟩:=fin hv;refine Rs (A4 @t3 @t4 @t7 @sb) ?_;refine K1 _ ?_ ?_ ?_ ?_ ?_
 ·simp only[bC,hlen]
 ·exact Zs @t3 trivial
 ·exact Zs @t4 trivial
 ·exact Zs @t7 trivial
 ·exact Zn trivial):A:=e
def z4{A:Prop} (e:A:=by
 refine WF.val (hvk _ (by repeat first|exact Ext.refl _|refine Ext.app _ ?_)) ?_;rintro _ g1 rfl;refine Wn ?_;refine WR.ga (h0:=h) (cs:=((L.take k).map F).map aq) (ys:=[aq (F L[k])]) ((((hfr.app _).app _).app _)) (Fr.push (N:=0) (aaQ _) [aq (F L[k])] (by simp[aq])).aT (by decide) (by simp) (by simp;omega) (by simp only[tD]) ?_;intro g' TB hff hkp;have hrow:((L.take k).map F).map aq++[aq (F L[k])]=((L.take (k+1)).map F).map aq:=by rw[aa1,aai hlt,aap,aap];rfl
 rw[hrow]at hff;rw[hrow];refine Ws (A6 @t1 @t5 @t8 @t9 @t10 (wrapN (show k+1<2^63 by omega))) ?_;refine⟨_,?_,k+1,_,by omega,rfl,hff,rfl,rfl⟩;omega):A:=e
def z5{A:Prop} (e:A:=by
 have e3:¬(k:Int)<L.length:=by omega
 have e4:k=L.length:=by omega
 refine Ws (A7 @t1 @t5 @t8 @t9 @t10 @e3 @aaJ) ?_;rw[e4,aaS]at hfr;exact hfr):A:=e
def z6{A:Prop} (e:A:=by
 rw[hrow]at hff;rw[hrow];refine Ws (A6 @t1 @t5 @t8 @t9 @t10 (wrapN (show k+1<2^63 by omega))) ?_;refine⟨_,?_,k+1,_,by omega,rfl,hff,rfl,rfl⟩;omega):A:=e
def z7{A:Prop} (e:A:=by
 have UW:some i∈V.bl:=by rw[hd];exact js hi
 refine hk i (hin i UW).2 (λe=>?_) (λe=>r.ne (e▸UW));obtain⟨h1,h2,h3⟩:=abu.1 Ui;rcases hi with hi|hi
 ·exact h3 _ hi _ (by simp) i rfl e
 ·exact(abe.1 h2).1 _ hi i e rfl):A:=e
def z8{A:Prop} (e:A:=by
 have hrow:V.aD.map aS++[aS (y,t)]=(V.aD++[(y,t)]).map aS:=by rw[aap];rfl
 rw[hrow]at hff;rw[hrow];have hbl:=r.lt;have TF:sB V.s3≠some b:=λe=>r.ne (by rw[<-e];simp[RV.bl])
 have hk1:∀i,i<(B++g).length->sB V.s3≠some i->(B++g')[i]? =(B++g)[i]? :=λi hi hne=>by
  rw[hkp i (by simp only[aac]at hi ⊢;omega) (λb0 o n e he z=>hne (by rw[he,z];rfl))];exact(show Ext (B++g) _ from Xx).get hi
 have mB:(B++g')[b]? =some (.b V.row):=(hk1 b hbl TF).trans r.m;have Wz:=λ(b' o n e:Nat)=>iX (i:=4) (v:=.slice b' o n e) mB rfl (by decide)
 refine Rs (A4 @t0 @t1 @Wz @fh) ?_;refine H6 r hff ?_ (λi hi=>by cases hi;exact .inr (by simp only[aac];omega)) hk1 ?_ ?_
 ·refine Fr.low (N:=(B++g).length) ((show Fr (B++g).length _ t 1 _ from Ur.app _).aB λi hi=>hkp i ?_ (λb0 o n e he z=>?_)) (by simp)
  ·have:=(Ur.bM hi).2;simp only[aac]at this ⊢;omega
  ·have h1:=(Ur.bM hi).1;have h2:=(r.o.i3.bM (show sB V.s3=some i by rw[he,z];rfl)).2;omega
 ·intro i hi;have h1:=Ur.bM hi;refine⟨h1.1,λe=>?_⟩;cases e;have:=h1.2;simp only[aac,aah,aal]at this;omega
 ·rw[hy];simp[RV.an,dD]):A:=e
def z9{A:Prop} (e:A:=by
 rcases hn i hi with hn|hn
 ·exact .inl hn
 ·refine .inr ⟨λy hy e=>?_,λy hy e=>?_⟩
  ·subst e;have:=(hin i (by rw[hd];exact js (.inl hy))).2;omega
  ·subst e;have:=(hin i (by rw[hd];exact js (.inr hy))).2;omega):A:=e
def Pg{A:Prop} (e:A:=by
 refine⟨own,r.hN,hm,λhb=>?_⟩;have hbl:=r.lt;have U9:=r.ne;rw[hd]at U9;by_cases hsb:sB s=some b
 ·rcases hn b hsb with z|z
  ·exact U9 (by rw[z];simp)
  ·omega
 ·by_cases htb:sB t=some b
  ·have:=(hnt b htb).1;omega
  ·have Vj:some b≠sB s:=λz=>hsb z.symm
   have htb':some b≠sB t:=λz=>htb z.symm
   simp only[RV.bl,aap,abd,ab7,aam,aaN,abb,abP]at hb;simp only[aam,aaN,abb,abP]at U9
   grind):A:=e
def KO{A:Prop} (e:A:=by
 rw[hkp i (by simp only[aac]at hi ⊢;omega) (λb0 o n e he z=>hne (by rw[he,z];rfl))];exact(show Ext (B++g) _ from Xx).get hi):A:=e
def z12{A:Prop} (e:A:=by
 by_cases hex:∃(x:Nat) (ox:bO),l[x]? =some ox/\listed.getD x false=true/\ox.dst=some t
 ·obtain⟨x,ox,hx,hxl,Xc⟩:=hex;obtain⟨oo,VY,Xo⟩:=Uz x ox t hx Xc;have hxi:x<i:=by
   by_cases e1:x=i
   ·subst e1;rw[Uw]at hxl;cases hxl
   ·by_cases e2:x<i
    ·exact e2
    ·have e3:=(cR hsl (show i<x by omega) ho VY).2 t Xo ht;have e4:=hcl x i hxl hin e3;rw[Uw]at e4;cases e4
  rw[TE (x+1) i t (by omega) (by omega) (λk o' a2 a3 a4 a5=>by have:=huniq x k ox o' t hx a4 Xc a5;omega)];exact h2 t x ox hx hxl Xc
 ·rw[TE 0 i t (by omega) (by omega) (λk o' e2 e3 e4 e5=>by
   obtain⟨oo,VY,TW⟩:=Uz k o' t e4 e5;have h6:=((cR hsl e3 VY ho).1 t TW).2 ht;exact hex ⟨k,o',e4,hahead k (aax.1 VY).1 h6,e5⟩)]
  exact h1 t λj oj hj hl TW=>hex ⟨j,oj,hj,hl,TW⟩):A:=e
def SD{A:Prop} (e:A:=by
 repeat (first|simp (config:={maxSteps:=1000000}) only[aU,aX,bz,bA,Nat.reduceAdd,Nat.reduceMul,Nat.reduceLeDiff,Nat.reduceEqDiff,bC,hlen,aay,aaB,t2,t3,t4,le,lr,bB,aN,aW,aE,Tw,iA,reduceCtorEq,aaJ,aaE,gI,j1,f1,ix,l2,oJ.aK,e2,iy,lv,e3,sb,gm]|simp (config:={maxSteps:=1000000}) (disch:=first|(simp only[aac,aah,aal]<;>omega)|rfl|omega|fail) only[gp,aU,aX,bz,bA,Nat.reduceAdd,Nat.reduceMul,Nat.reduceLeDiff,Nat.reduceEqDiff,bC,hlen,aay,aaB,t2,t3,t4,le,lr,bB,aN,aW,aE,Tw,iA,reduceCtorEq,aaJ,aaE,gI,j1,f1,ix,l2,oJ.aK,e2,iy,lv,e3,sb,gm])
 rw[bD,aao (λz=>z hct),aas h3];exact cI.fin TR (λz=>absurd z (by decide))):A:=e
def B6{A:Prop} (e:A:=by
 exact⟨by simp[Op.equalIn,aaz hu],λl=>by simp,by simp,rfl,rfl⟩):A:=e
def SC{A:Prop} (e:A:=by
 have hlt:=(aad.1 hx).1;have TQ:t<a1.tmps.size:=by have:=hTl l.length (aar _);omega
 have ex:(T l.length).getD t az=x:=by simp[List.getD,hx]
 have ey:a1.tmps.getD t undef=a1.tmps[t]:=by simp[aa3,aa6 TQ]
 refine⟨a1.tmps[t],by simp,?_⟩;rw[<-ex,<-ey];by_cases hw:∃(j:Nat) (o:bO),l[j]? =some o/\o.dst=some t
 ·obtain⟨j,o,hj,ho⟩:=hw;have VF:=(aad.1 hj).1;rw[TE (j+1) l.length t (by omega) (aar _) (λk o' a2 a3 a4 a5=>by have:=huniq j k o o' t hj a4 ho a5;omega)];exact h2 t j o hj (hall j (by omega)) ho
 ·rw[TE 0 l.length t (by omega) (aar _) (λk o' _ _ h4 h5=>hw ⟨k,o',h4,h5⟩)];exact h1 t λj o hj _ ho=>hw ⟨j,o,hj,ho⟩):A:=e
def SB{A:Prop} (e:A:=by
 cases x with
 |agg l=>cases hx
 |dQ l=>cases hx
 |bool b=>rw[VR]at h;subst h;rfl
 |int k n=>rw[VR]at h;subst h;rfl
 |yl k b=>rw[VR]at h;obtain⟨_,rfl,_⟩:=h;rfl
 |ya k x y=>rw[VR]at h;obtain⟨_,_,rfl,_⟩:=h;rfl
 |str s=>rw[VR]at h;subst h;rfl
 |ptr b o=>rw[VR]at h;obtain⟨_,_,rfl⟩:=h;rfl
 |nilPtr=>rw[VR]at h;subst h;rfl
 |slice b o n e=>rw[VR]at h;obtain⟨_,_,_,_,rfl,_⟩:=h;rfl
 |af=>rw[VR]at h;subst h;rfl
 |map r=>rw[VR]at h;obtain⟨_,_,rfl⟩:=h;rfl
 |dq=>rw[VR]at h;subst h;rfl
 |func f a c=>rw[VR]at h;obtain⟨_,_,_,rfl,_⟩:=h;rfl
 |nilFunc=>rw[VR]at h;subst h;rfl
 |vU u a=>rw[VR]at h;obtain⟨_,rfl,_⟩:=h;rfl
 |k8=>cases hx):A:=e
def SA{A:Prop} (e:A:=by
 simp only[aa2,aay,Option.map_map];congr 1;funext i;simp only[Function.comp];omega):A:=e
def KN{A:Prop} (e:A:=by
 obtain⟨h1,h2,h3⟩:=s.kl i hi;rw[g2 i h2,hk i (aa7 h1 s.ln) (λz=>h3 (by rw[<-z];simp[RV.bl]))];exact s.kp i hi):A:=e
def KM{A:Prop} (e:A:=by
 simp only[RV.bl,aap,abd,ab7,aam,aaN,List.mem_nil_iff,abP]at h ⊢
 grind):A:=e
def z20{A:Prop} (e:A:=by
 have hX:Ext X (X++[.b V.row]++[.b x.row]++[.b lG]):=Xx;have ho:cJ B.length (X++[.b V.row]++[.b x.row]++[.b lG]) V:=o.ar λi hi=>hX.get (o.dW hi).2
 refine⟨⟨ho,hx.len,by simp,λhi=>by have:=(o.dW hi).2;omega⟩,hx.trans hX,aar _,λ_ _=>rfl,λi hi=>?_⟩;simp only[aac,aah,aal];rcases hi with⟨h1,h2⟩|h1|h1
 ·exact⟨by omega,by omega,h2⟩
 ·exact⟨by omega,by omega,λz=>by have:=(o.dW z).2;omega⟩
 ·exact⟨by omega,by omega,λz=>by have:=(o.dW z).2;omega⟩):A:=e
def z21{A:Prop} (e:A:=by
 have e5:=wrapN (n:=k) (by omega);by_cases hp:L[k]=M[k]
 ·have q:decide (L[k]≠M[k])=false:=aaf (λz=>z hp);refine Rs (n6 @t0 @t1 @t5 @e3 hs.aK @ix @ld @iy @ly @q @e5) ?_;refine⟨_,by omega,k+1,by omega,rfl,?_,rfl⟩;rw[aa1,aa1,hi,aai hlt,aai TQ,hp]
 ·have q:decide (L[k]≠M[k])=true:=aaj hp;refine Rs (mE @t0 @t1 @t5 @e3 hs.aK @ix @ld @iy @ly @q) ?_;exact aaR AV.bool (aaf (λ(e:L=M)=>hp (by simp only[e]))).symm):A:=e
def Sz{A:Prop} (e:A:=by
 split at hk
 case isFalse=>cases hk
 rename_i hg;cases T0:flat P 20 t with
 |none=>simp[T0]at hk
 |some ks=>
  simp[T0]at hk;subst hk;have hb':An ks (ρ x) (ρ y)=some b:=hb;unfold An at hb';split at hb'
  case h_2=>cases hb'
  rename_i xs ys hxa U0;rw[hxa]at hx;rw[U0]at hy;obtain⟨lx,rfl,Wr⟩:=hx;obtain⟨ly,rfl,Wq⟩:=hy;split at hb'
  case isFalse=>cases hb'
  rename_i hlen;refine fin (xV hg) ?_ rfl rfl;exact CX 20 t ks T0 10000 (by omega) _ hu xs ys lx ly b hlen.1 hlen.2 Wr Wq hb' w):A:=e
def Ci{A:Prop} (e:A:=by
 simp only[compile]at hc
 (repeat' split at hc)
 all_goals cases hc):A:=e
def z24{A:Prop} (e:A:=by
 have:∀n,rC (Array.replicate ops.size false) n<=n:=by
  intro n
  induction n with
  |zero=>exact aar _
  |succ n ihn=>simp only[rC];split<;>omega
 exact this _):A:=e
def K6{A:Prop} (e:A:=by
 cases hk;exact fc.n8 hr (HL (w:=w) (ox:=x) (oy:=y) hk0 hx hy hs) (λcv h=>by simp only[execOp,ho];rw[aaA,h];rfl)):A:=e
def Pf{A:Prop} (e:A:=by
 rcases hs.Qt with⟨rfl,rfl⟩|hq
 ·refine Ws @Dt ?_;exact .nil
 ·refine Ws @hq ?_;refine WR.qQ (N:=h.length) ba (aar _) (hs.ext (by repeat first|exact Ext.refl _|refine Ext.app _ ?_)) (by omega) λs' g hf=>?_
  refine Wn ?_;exact hf):A:=e
def Pe{A:Prop} (e:A:=by
 obtain⟨xi,a1,a2⟩:=Uz i oi d hi h1;obtain⟨xj,b1,b2⟩:=Uz j oj d hj h2;by_cases hlt:i<j
 ·exact absurd b2 ((cR hsl hlt a1 b1).1 d a2).1
 ·by_cases Wv:j<i
  ·exact absurd a2 ((cR hsl Wv b1 a1).1 d b2).1
  ·omega):A:=e
def z28{A:Prop} (e:A:=by
 show 0+0+nc*i.size<=(vo++vn).length+rest.length;rw[aac,Ut,Ud,ZR,Vi];have e1:nc*i.size=(n+k)*i.size+(nc-(n+k))*i.size:=by rw[<-acC];congr 1;omega
 rw[acC]at e1;simp;omega):A:=e
def Pd{A:Prop} (e:A:=by
 rw[e]at hb;by_cases hsb:sB s=some b
 ·rcases hn b hsb with z|z
  ·exact U9 (by rw[z];simp)
  ·omega
 ·rcases wY hb with z|z|z
  ·exact U9 (js (.inl z))
  ·exact hsb z.symm
  ·exact U9 (js (.inr z))):A:=e
def Pc{A:Prop} (e:A:=by
 have hlt:j<ops.size:=by have:=(aad.1 hj).1;omega
 have ho:ops[j]? =some ops[j]:=aa6 hlt;obtain⟨io',h1,h2⟩:=Ty j ops[j] (by simp);rw[hj]at h1;cases h1;exact⟨_,ho,h2⟩):A:=e
def z31{A:Prop} (e:A:=by
 have hsh:U.an.aj=V.an.aj.map (lz a z):=by
  refine List.ext_getElem (by simp[RV.an,Vu]) λi h1 h2=>?_
  have hi:i<U.aj.length:=by simpa [RV.an]using h1
  have:=hU i hi (by omega);rw[aas (by omega)]at this
  simpa [RV.an]using this
 have heq:∀A C:fN,{A with aj:=C.aj} =C->A={C with aj:=A.aj}:=by
  intro A C h;cases A;cases C;simp_all
 have:=heq _ _ hreg;rw[this,hsh,dD,ha,hz]):A:=e
def Sy{A:Prop} (e:A:=by
 refine⟨(fn.aB λj hj=>kp j (ln j hj).2 λe=>?_).low (by simp only[aac];omega),(fv.aB λj hj=>kp j (lv j hj).2 λe=>?_).low (by simp only[aac];omega),λj hj e=>?_,λj hj e=>?_⟩
 ·have h1:=(ln j hj).1;have h2:=hout j e;omega
 ·have h1:=(lv j hj).1;have h2:=hout j e;omega
 ·have h1:=(ln j hj).2;have h2:=VZ j e;omega
 ·have h1:=(lv j hj).2;have h2:=VZ j e;omega):A:=e
def Sx{A:Prop} (e:A:=by
 by_cases hxy:x<=y
 ·have:=Wk x (y-x) (by omega) (λj o h1 h2 h3=>by
   cases hk:cH o.k with
   |true=>rfl
   |false=>have:=hno j o h3 hk;omega)
  rw[show x+(y-x)=y from by omega]at this;exact this.symm
 ·have:=Wk y (x-y) (by omega) (λj o h1 h2 h3=>by
   cases hk:cH o.k with
   |true=>rfl
   |false=>have:=hno j o h3 hk;omega)
  rw[show y+(x-y)=x from by omega]at this;exact this):A:=e
def Pb{A:Prop} (e:A:=by
 subst e;by_cases hsi:sB s=some i
 ·exact n2 hsi
 ·have:=(hin i (by rw[hd];simp only[aam,aaN,abb,abP]at hy ⊢;have hsi':some i≠sB s:=λz=>hsi z.symm;grind)).2;omega):A:=e
def OL{A:Prop} (e:A:=by
 obtain⟨e,he,hb,hor⟩:=(po hed ho).2 x hx ha;have hle:=YE e he hb;rcases hor with rfl|hor
 ·exact hle
 ·exact hcl e.on x hle hx hor):A:=e
def Sv{A:Prop} (e:A:=by
 simp only[hop]at hc;split at hc
 case h_2=>cases hc
 rename_i kt e x' i' y' hu Tu hi' hy';simp only[aaC]at hc;obtain⟨kk,hkk,rfl⟩:=hc;obtain⟨w',h1,rfl,h2,h3⟩:=IS (w:=w) hu hkk hr (hρ x (by simp[hop,Op.operands]) x' Tu) (hρ i (by simp[hop,Op.operands]) i' hi') (hρ y (by simp[hop,Op.operands]) y' hy') hs;exact⟨undef,w',m,.inr ⟨by simp[execOp,hop,h1],rfl⟩,kv m,h2,h3⟩):A:=e
def z37{A:Prop} (e:A:=by
 rw[hp,aao (by decide),aaF]at TI;refine Ws (A6 @t1 @t5 @t8 @t9 @t10 (wrapN (show k+1<2^63 by omega))) ?_;refine⟨_,?_,k+1,out,by omega,rfl,by rw[TI];exact(hfr.app _).app _,rfl,rfl⟩;omega):A:=e
def Su{A:Prop} (e:A:=by
 have h1:=Ur.bM hi;refine⟨h1.1,λe=>?_⟩;cases e;have:=h1.2;simp only[aac,aah,aal]at this;omega):A:=e
def Sr{A:Prop} (e:A:=by
 rcases TD b1 e1 h1 with⟨rfl,rfl⟩|⟨Wt,U8⟩
 ·rcases TD b2 e2 h2 with⟨rfl,rfl⟩|⟨hl2,Wp⟩
  ·exact absurd rfl hne
  ·exact absurd hcb.symm (hout b2 e2 Wp)
 ·rcases TD b2 e2 h2 with⟨rfl,rfl⟩|⟨hl2,Wp⟩
  ·exact absurd hcb (hout b1 e1 U8)
  ·rw[aag Wt]at hk1;rw[aag hl2]at Tr;exact hr.sep b1 b2 e1 e2 k1 k2 hne U8 Wp hk1 Tr hcb):A:=e
def z40{A:Prop} (e:A:=by
 rw[c9 (by omega)]at hj ⊢;split
 ·rfl
 ·split at hj
  ·rename_i hji;subst hji;exact hahead x hx ha
  ·exact hcl j x hj hx ha):A:=e
def EI{A:Prop} (e:A:=by
 exact cI.fin TR (λz=>absurd z (by decide))):A:=e
def Pa{A:Prop} (e:A:=by
 have e3:¬(k:Int)<L.length:=by omega
 have e4:k=L.length:=by omega
 refine Ws (A7 @t1 @t5 @t8 @t9 @t10 @e3 @aaJ) ?_;rw[e4,aaS]at hm;exact⟨L',hm,hfr,hin,Ui⟩):A:=e
def OK{A:Prop} (e:A:=by
 rw[hkp i (by simp only[aac];omega) (λb0 o n e he z=>hne (by rw[he,z];rfl))];exact aag hi):A:=e
def O9{A:Prop} (e:A:=by
 exact(show Ext (B++g) _ from Xx).get hi):A:=e
def O8{A:Prop} (e:A:=by
 cases Tq;rw[hv]at h1;have h1':=h1;obtain⟨f',a',c',h2,h3,_⟩:=h1;simp only[B3]at h3;subst h3;exact fc.same hr h1' (by simp[execOp,hop,h2])):A:=e
def z46{A:Prop} (e:A:=by
 simp only[aac,aah,aal]at this ⊢;omega):A:=e
def Sp{A:Prop} (e:A:=by
 simp only[hop,aaC]at hc;obtain⟨x',Tu,rfl⟩:=hc;have Tq:dE (.cj x') ρ h=some (v,h'):=hs;simp only[dE,aaL,acG]at Tq;obtain⟨rfl,rfl⟩:=Tq;exact fc.same hr (hρ x (by simp[hop,Op.operands]) x' Tu) (by simp[execOp,hop])):A:=e
def So{A:Prop} (e:A:=by
 have:=vQ (T:=T) (t:=t) (a:=x) (y-x) (λj h1 h2=>by
  have hj:l[j]? =some (l[j]'(by omega)):=aai (by omega);obtain⟨v,hv⟩:=UZ j _ hj;exact⟨_,v,hv,hno j _ h1 (by omega) hj⟩)
 rwa [show x+(y-x)=y from by omega]at this):A:=e
def z49{A:Prop} (e:A:=by
 exact⟨_,by omega,k+1,_,by omega,rfl,hff,rfl,rfl⟩):A:=e
def Sm{A:Prop} (e:A:=by
 rename_i hm;cases h;rw[aaM,aaM]at hm;obtain⟨f,hf⟩:=acj.1 hm.1.2;have h1:=acX hf;rw[aaM]at h1;exact .inr (.inr ⟨l3,rfl,hq.2,⟨l,hl⟩,2,Z6,.inr ⟨f,h1.1,h1.2⟩,hm.2⟩)):A:=e
def z51{A:Prop} (e:A:=by
 refine⟨_,w',m',room XN hlen Vy (by simp only[XQ];rw[gY];exact h0),⟨_,_,cap,h1,rfl,XN,λ_=>?_,?_⟩,h2,h3⟩
 ·rw[XQ];simp only[Addr.mk.injEq,ac3,and_true];omega
 ·show 0+(en.d+o)+cap*i.size<=en.sz;omega):A:=e
def Sl{A:Prop} (e:A:=by
 have Tq:S j=true:=by unfold mark at hs;rwa [aao hji]at hs
 rw[dL (huniq j o d hji hj ho)];refine VR.mono ?_ _ _ (M.zF d j o hj Tq ho);intro b e hb;unfold cw.db at hb ⊢;split at hb
 ·rename_i hlt;rw[aas hlt];exact VU _ _ hb
 ·cases hb):A:=e
def z53{A:Prop} (e:A:=by
 have e2:(#[]++(⟨[.string ⟨⟨s⟩⟩,.int .u8 (c.toNat:Int)]⟩:Array Value)++#[])=#[]++#[.string ⟨⟨s⟩⟩,.int .u8 (c.toNat:Int)]++#[]:=rfl;simp only[e2,e',Result.andThen];exact⟨_,m,rfl,rfl,hr,Grow.refl m h w hr.cM⟩):A:=e
def OJ{A:Prop} (e:A:=by
 cases hx:m h.length with
 |none=>rfl
 |some y=>exact absurd (hr.cM _ _ hx) (by omega)):A:=e
def O7{A:Prop} (e:A:=by
 rw[TI,ab1];simp only[acy,acY,hd,aaB,aap,abd,ab7]):A:=e
def Sk{A:Prop} (e:A:=by
 rw[a5 i hi (by omega),hU i (by omega) hi'];by_cases Vn:i=k
 ·subst Vn;rw[aas rfl,aao (by omega),aas (by omega)]
 ·rw[aao Vn];by_cases hil:i<k
  ·rw[aas hil,aas (by omega)]
  ·rw[aao hil,aao (by omega)]):A:=e
def KL{A:Prop} (e:A:=by
 subst z;rcases hb' i hi with z|z
 ·exact TF z
 ·omega):A:=e
def O6{A:Prop} (e:A:=by
 have e3:V.cO.length=V.bN.cO.length:=by simp[HV.bN]
 have e4:V.bN.cK.length=V.cK.length:=by simp[HV.bN]
 omega):A:=e
def z59{A:Prop} (e:A:=by
 have hj:l[x+k]? =some (l[x+k]'(by omega)):=aai (by omega);rw[show x+(k+1)=x+k+1 from by omega,Wj _ _ hj (hno _ _ (by omega) (by omega) hj)];exact ih (by omega) λj o h1 h2 h3=>hno j o h1 (by omega) h3):A:=e
def KK{A:Prop} (e:A:=by
 subst z;rcases hn i hi with z|z
 ·exact TF z
 ·omega):A:=e
def O5{A:Prop} (e:A:=by
 obtain⟨v,hv⟩:=UZ j _ (aai (show j<l.length by omega));rw[hv,nL];exact ih (by omega)):A:=e
def Sj{A:Prop} (e:A:=by
 split at hk
 case isFalse=>cases hk
 simp only[aaC]at hk;obtain⟨ks,_,rfl⟩:=hk;exact fc.n8 hr (HL (w:=w) (ox:=x) (oy:=y) hk0 hx hy hs) (λcv h=>by simp only[execOp,ho];rw[aaA,h];rfl)):A:=e
def Sh{A:Prop} (e:A:=by
 have e4:V.bN.cK.length=V.cK.length:=by simp[HV.bN]
 omega):A:=e
def Sg{A:Prop} (e:A:=by
 refine⟨e,ts,h'++[ak.dead]++g',λr hr=>?_,done e h' g' hl UX⟩;have:r=none:=hr;subst this;have:=Ev.fX (h:=h) (ps:=ps) (asg:=asg) (body:=body) hA hg hs (nQ hl) bN;rw[sC hl]at this;exact this):A:=e
def O4{A:Prop} (e:A:=by
 rw[aa1,aai hlt,ab1];congr 1;cases hp:p L[k]<;>simp[hp]):A:=e
def Sf{A:Prop} (e:A:=by
 rw[aa1,aai Un]at hy';rcases aam.1 hy' with hy'|hy'
 ·exact hsf y' hy'
 ·simp only[Option.toList_some,aaG]at hy';rw[hy',<-hy];exact h4):A:=e
def Se{A:Prop} (e:A:=by
 refine Am hg Tu ?_ (λt Vx=>ht t ?_)
 ·exact aaO.1 hgok x (Array.mem_toList_iff.2 hx)
 ·subst Vx;exact List.mem_append_left _ (List.mem_filterMap.2 ⟨.tmp t,by simpa using hx,rfl⟩)):A:=e
def Sd{A:Prop} (e:A:=by
 refine Rs (A2 @t0 @o1) ?_;refine WF.res T.c177 (r177 T (hx.ext Xx) (by simp;omega)) ?_;rintro s' g1 hf;have o2:=hf.aT.one;refine Rs (A3 @t0 @o1 @o2) ?_;exact⟨s',rfl,(Fr.swap hf (by simp)).low (by simp)⟩):A:=e
def OI{A:Prop} (e:A:=by
 rw[aao T3]at Tr;exact hr.sep b1 b2 e1 e2 k1 k2 hne UM TA hk1 Tr hcb):A:=e
def z70{A:Prop} (e:A:=by
 have q:decide ((L.length:Int)≠M.length)=true:=aaj (by omega);refine Rs (A5 @t0 @t1 hs.aK ht.aK @q) ?_;exact aaR AV.bool (aaf (λ(e:L=M)=>h1 (by rw[e]))).symm):A:=e
def Sc{A:Prop} (e:A:=by
 refine⟨_,by omega,k+1,out,by omega,rfl,?_,rfl,rfl⟩;rw[TI,ab1];simp only[acy,acY,hd,aa2,aay,aaF];exact hfr.app _):A:=e
def z72{A:Prop} (e:A:=by
 rw[bD]at hc;split at hc
 case isTrue hb=>exact absurd hc hb
 case isFalse hb=>
  unfold km at hb;split at hb
  ·exact absurd (by decide) hb
  split at hb
  ·exact absurd (by decide) hb
  omega):A:=e
def O3{A:Prop} (e:A:=by
 obtain⟨h3,h4,h5⟩:=w.md x hx;exact⟨h3,h4,λt ht=>by rw[em];exact gP (h5 t ht)⟩):A:=e
def OH{A:Prop} (e:A:=by
 rw[aa3,Array.getElem?_replicate];split<;>rfl):A:=e
def z75{A:Prop} (e:A:=by
 have e3:=fC hlt;have e4:k=L.length:=by omega
 refine Rs (A5 @t0 @t1 @t5 @e3 hs.aK) ?_;rw[e4,aaS,h1,aaS]at hi;exact aaR AV.bool (aaj hi).symm):A:=e
def z76{A:Prop} (e:A:=by
 obtain⟨o,h1,h2⟩:=XR j io hj;exact⟨o,h1,by rw[<- (dC h2).1];exact hd⟩):A:=e
def Sb{A:Prop} (e:A:=by
 have hi':i<x.ev.names.length:=by omega
 have:aO x.ev i=x.ev.names[i]:=by rw[aO,aaW,aai hi'];rfl
 rw[this];exact ox.n.jS hi' rfl e):A:=e
def OG{A:Prop} (e:A:=by
 by_cases e1:j=i
 ·subst e1;exact hlt
 ·rw[hne j e1];exact hl):A:=e
def O2{A:Prop} (e:A:=by
 rw[aan (by simp;omega),aan (by simp;omega)];simp):A:=e
def z80{A:Prop} (e:A:=by
 have:=Cl (listed:=listed) (by omega) Uw ops.size hin;omega):A:=e
def Hz{A:Prop} (e:A:=by
 exact Rs (A3 @t0 @t1 @t2) trivial):A:=e
def O1{A:Prop} (e:A:=by
 rw[aa1,aai (by rw[hRl];exact hlt),hy];simp[RV.an]):A:=e
def Sa{A:Prop} (e:A:=by
 rename_i cs;cases hl:cs.toList.mapM (nf n)with
 |none=>simp[hl]at h
 |some r=>simp[hl]at h;subst h;exact⟨cs.toList,rfl,wZ m n (rn m n) _ _ hl⟩):A:=e
def O0{A:Prop} (e:A:=by
 have h1:=(s.bk.o.dW (b:=i) (by rw[<-e];simp[RV.bl])).2;have:=(htb i hi).1;omega):A:=e
def z85{A:Prop} (e:A:=by
 unfold cw.add at UO;by_cases hx:b=h.length
 ·rw[aas hx]at UO;cases UO;exact .inl ⟨hx,rfl⟩
 ·rw[aao hx]at UO;exact .inr ⟨hr.cM _ _ UO,UO⟩):A:=e
def R9{A:Prop} (e:A:=by
 simp only[G3,G2,G1,Ku,Kv,G6,G5,G4,Oa,N9,abF,abm,ne_eq,aaL,and_true];omega):A:=e
def z87{A:Prop} (e:A:=by
 refine Rs (K3 @t4 @t6 @t20 @t21 @t22 @e3 @ix @ld @e5 @l2 @l3 @bV @jG @lk @hb @mp @a4) ?_;exact⟨_,by omega,k+1,_,by omega,rfl,rfl,hnew,rfl⟩):A:=e
def OZ{A:Prop} (e:A:=by
 show(R.aD++[_]).length<=32;rw[aac,aav];omega):A:=e
def OY{A:Prop} (e:A:=by
 rcases hn i z with z|z
 ·exact h3 (by rw[<-z];simp[RV.bl])
 ·have:=s.ln;omega):A:=e
def K5{A:Prop} (e:A:=by
 exact cI.fin TM (λz=>absurd z (by decide))):A:=e
def z91{A:Prop} (e:A:=by
 rw[aA (e.some hg0)];have:bL x.ev 1=1\/bL x.ev 1=2\/bL x.ev 1=3\/bL x.ev 1=4:=by omega
 rcases this with z|z|z|z<;>rw[z]<;>rfl):A:=e
def OF{A:Prop} (e:A:=by
 simp only[aaG,aaL]at z;omega):A:=e
def z93{A:Prop} (e:A:=by
 rw[aa1,aai hlt,uj];simp only[Option.toList_some,cY,aa4,aaZ];rw[abT (by omega)]):A:=e
def K4{A:Prop} (e:A:=by
 exact cI.fin sY (λz=>absurd z (by decide))):A:=e
def R8{A:Prop} (e:A:=by
 cases hk:cH oj.k with
 |true=>exact .inl rfl
 |false=>
  cases Tr:lC oj with
  |true=>exact .inr rfl
  |false=>have:=hHh j oj h3 hk Tr;omega):A:=e
def R7{A:Prop} (e:A:=by
 have hne:io.dst≠some d:=hd i io hio (by simp[mark]);rw[dL hne];refine M.zG d λj o hj hs=>hd j o hj ?_
 unfold mark;split
 ·rfl
 ·exact hs):A:=e
def R6{A:Prop} (e:A:=by
 have d1:decide (n<10)=true:=aaj h10;refine Ws (A4 @d0 @d1 @vO @vz) ?_;rw[gD,Lib.decDigits,dif_pos (by omega),Ao h0 h10]):A:=e
def R5{A:Prop} (e:A:=by
 have e3:=jL hmo (show i<j by omega) hio hj Y5 (hrp hk) Xe (hld hk) (.inl ⟨US,hk⟩);have e4:=hcl j i Vm hin e3;rw[Uw]at e4;cases e4):A:=e
def R4{A:Prop} (e:A:=by
 rw[VR]at ha hv ⊢;obtain⟨e,he,_⟩:=ha;obtain⟨e',Ue,hv⟩:=hv;exact⟨e',by unfold cw.db;rw[aas (hd _ _ he)];exact Ue,hv⟩):A:=e
def ID{A:Prop} (e:A:=by
 exact h3 (by rw[<-z];simp[RV.bl])):A:=e
def L5{A:Prop} (e:A:=by
 have:=(Fr.push (N:=0) (es:=3) (h:=W4) (aaQ _) [z] (λx hx=>by rw[aaG]at hx;rw[hx,hz];rfl)).aT
 simpa using this):A:=e
def L0{A:Prop} (e:A:=by
 simp only[aU,aX,bz,bA,Nat.reduceAdd,Nat.reduceMul,Nat.reduceLeDiff,Nat.reduceEqDiff,bC,hlen,aay,aaB,t0,aA hg.1]):A:=e
def LZ{A:Prop} (e:A:=by
 have hl:=(aad.1 this).1;rw[aai hl]at this;rw[<-abf this];exact List.set_getElem_self hl):A:=e
def LY{A:Prop} (e:A:=by
 split at hn
 case isFalse=>cases hn
 rename_i VE;subst VE;cases hn;obtain⟨e,rfl⟩:=hd;simp[Builtin.len_,Vz,aaz hu,goInt]):A:=e
def z105{A:Prop} (e:A:=by
 by_cases hab:a=b
 ·simp[dN,dz,hab,BS]
 ·have:(a==b)=false:=by simp[hab]
  simp[dN,dz,hab,BS,this]):A:=e
def AM{A:Prop} (e:A:=by
 subst z;have:=(hnt i hi).1;omega):A:=e
def z107{A:Prop} (e:A:=by
 rw[ei];refine Rs (A5 @t0 @t1 @ix @ld @on) ?_;exact⟨x,UW,sp,rfl⟩):A:=e
def LX{A:Prop} (e:A:=by
 have:km V.an x.ev=3:=by rw[km,aao (by rw[h1];decide),<-jx.e,aas h2]
 rw[bD,aas (by rw[this];decide),this]):A:=e
def z109{A:Prop} (e:A:=by
 simp only[aa3,aa6 (show i<listed.size by omega),acz]at hl ⊢;exact hl):A:=e
def LW{A:Prop} (e:A:=by
 obtain⟨h1,h2,h3⟩:=s.kl i hi;rw[hk i (aa7 h1 s.ln) (λz=>h3 (by rw[<-z];simp[RV.bl]))];exact s.kp i hi):A:=e
def LV{A:Prop} (e:A:=by
 obtain⟨y,hy,rfl⟩:=aaK.1 hx;have:=uZ w.n2 (aaH (f:=kr.name) (abw.1 hy).1);omega):A:=e
def LU{A:Prop} (e:A:=by
 have XF:(ps.map λ(i,x)=>(i,σ x)).toList=ps.toList.map λp=>(p.1,σ p.2):=by simp
 rw[XF,UI];simp[newRow]):A:=e
def LS{A:Prop} (e:A:=by
 by_cases hlt:j<i
 ·have:=UU (j+1) i (by omega) (by omega);omega
 ·have:=UU (i+1) j (by omega) (by omega);omega):A:=e
def LR{A:Prop} (e:A:=by
 split at h
 ·rename_i h1 h2 h3 h4;simp only at h1 h2 h3 h4;subst h1;subst h2;subst h3;subst h4;cases h;rfl
 ·cases h):A:=e
def AL{A:Prop} (e:A:=by
 exact Ws (A2 @hld @UK) trivial):A:=e
def z116{A:Prop} (e:A:=by
 rw[VR]at ha hv ⊢;obtain⟨l1,_,h1⟩:=ha;obtain⟨l2,hv,h2⟩:=hv;exact⟨l2,hv,cL.cut hd l _ _ h1 h2⟩):A:=e
def z117{A:Prop} (e:A:=by
 rcases aam.1 hx with hx|hx
 ·exact w.ev x hx
 ·rw[aaG]at hx;subst hx;exact⟨d,we⟩):A:=e
def LP{A:Prop} (e:A:=by
 show 0+(dX k z.cells).length<=row.size;rw[jV,hrs,hzl,aa4];exact abl _ hkn):A:=e
def z119{A:Prop} (e:A:=by
 have e1:decide (km V.an x.ev≠0)=true:=aaj hb;refine Rs (A3 @t0 @t1 @e1) ?_;rw[bD,aas hb]):A:=e
def EO{A:Prop} (e:A:=by
 rw[ei];exact Rs (A4 @t0 @t1 @ix @ld) trivial):A:=e
def IC{A:Prop} (e:A:=by
 rw[<-TW]at hx;exact e1 (huniq j i oj io d hj hio Wd hx)):A:=e
def LO{A:Prop} (e:A:=by
 refine WF.ce T.c254 (Z.atoi TW.2 (by simp) (by omega)) λg2=>?_
 refine Rs @t0 ?_;unfold fQ;rw[e1];rfl):A:=e
def EN{A:Prop} (e:A:=by
 simp only[RV.an,abn];rfl):A:=e
def z124{A:Prop} (e:A:=by
 obtain⟨ma,va,h1,h2⟩:=h;exact⟨ma,va,λb e hb=>aa7 (h1 b e hb) hnk,h2⟩):A:=e
def IB{A:Prop} (e:A:=by
 exact propext ⟨λz=>by omega,λz=>by omega⟩):A:=e
def EM{A:Prop} (e:A:=by
 simp only[RV.an,abn];rfl):A:=e
def z127{A:Prop} (e:A:=by
 have hne:=hb' b 0 _ _ rfl;rw[<-aa9 _ _ hN,aau (abG hne)]):A:=e
def LN{A:Prop} (e:A:=by
 have:km V.an x.ev=23:=by rw[km,aas h1]
 rw[bD,aas (by rw[this];decide),this]):A:=e
def IA{A:Prop} (e:A:=by
 rw[hr]at h1;simp only[aaZ]at h1;omega):A:=e
def z130{A:Prop} (e:A:=by
 rename_i hu;cases hf;exact⟨_,hu,λ_=>rfl⟩):A:=e
def z131{A:Prop} (e:A:=by
 refine hall ?_;cases hy:du s[k]with
 |false=>rfl
 |true=>have:=gB.1 hy;omega):A:=e
def LM{A:Prop} (e:A:=by
 have a1:=hdom b e Uv;have a2:=fP hlen (i:=θ) (j:=j) (by omega) (by omega);omega):A:=e
def EL{A:Prop} (e:A:=by
 have:=st.ts.length;simpa using this):A:=e
def LL{A:Prop} (e:A:=by
 subst he;rw[aas rfl]at q4;simp only[aaE,aaB];exact⟨h5,g5,rfl,h6,q4⟩):A:=e
def LJ{A:Prop} (e:A:=by
 simp only[eG,rH,aaL,AV.bool.injEq];by_cases hab:x=y<;>simp[hab]):A:=e
def LI{A:Prop} (e:A:=by
 rw[aan (by omega),acB,Nat.add_sub_cancel' (by omega)]):A:=e
def EK{A:Prop} (e:A:=by
 exact fin (lh h2 h3) h1 h4 h5):A:=e
def z138{A:Prop} (e:A:=by
 simp only[stepT,nS,qP];cases val ts x with
 |func f a c=>cases f<;>rfl
 |_=>rfl):A:=e
def z139{A:Prop} (e:A:=by
 cases k2<;>first|trivial|exact absurd rfl hl):A:=e
def LH{A:Prop} (e:A:=by
 simp only[RV.bl,aam,aaK];exact .inl (.inl (.inr ⟨x,hx,hb⟩))):A:=e
def z141{A:Prop} (e:A:=by
 rcases aam.1 hx with hx|hx
 ·exact hs.aT.rows x hx
 ·exact hy.rows x hx):A:=e
def Iz{A:Prop} (e:A:=by
 have:=hTl l.length (aar _);simp;omega):A:=e
def z143{A:Prop} (e:A:=by
 exact cI.fin U4 (λz=>absurd z (by decide))):A:=e
def LG{A:Prop} (e:A:=by
 cases hs with
 |nil=>exact .nil
 |mk hN hb he=>exact .mk hN ((hk _ rfl).trans hb) he):A:=e
def z145{A:Prop} (e:A:=by
 simp only[j8];rw[aas (by omega)];simp):A:=e
def z146{A:Prop} (e:A:=by
 rw[<-hS,ab4];rintro⟨y,hy,hy2⟩;rw[hsf y hy]at hy2;cases hy2):A:=e
def LF{A:Prop} (e:A:=by
 rw[aae,aan (aar _),abi];rfl):A:=e
def z148{A:Prop} (e:A:=by
 exact cI.fin s (λz=>absurd z (by decide))):A:=e
def LD{A:Prop} (e:A:=by
 rw[aa9 _ _ (aar _),abi,aae];rfl):A:=e
def LC{A:Prop} (e:A:=by
 simp only[RV.bl,aam,aaK];exact .inl (.inr ⟨x,hx,hb⟩)):A:=e
def LB{A:Prop} (e:A:=by
 simp only[aaC]at hc;obtain⟨f,_,rfl⟩:=hc;exact hs.elim):A:=e
def z152{A:Prop} (e:A:=by
 rw[fT,<-jx.e,aaW,aai hsl];rfl):A:=e
def LA{A:Prop} (e:A:=by
 rw[fT,<-Xn,aaW,aai hlt];rfl):A:=e
def z154{A:Prop} (e:A:=by
 rw[aa1,aai hlt,gC,ack];rfl):A:=e
def Lz{A:Prop} (e:A:=by
 rw[aan hN,aaw (by simp at hbl;omega)]):A:=e
def z156{A:Prop} (e:A:=by
 rw[hh]at hi;refine Rs (A5 @t2 @t3 @t5 @t6 @hi) ?_;exact⟨X6.trans Xx,rfl⟩):A:=e
def z157{A:Prop} (e:A:=by
 rw[em];exact w.n3.add (gn 0 (by decide)) f0):A:=e
def Ly{A:Prop} (e:A:=by
 rw[aae (h++[ak.bg (ml ds vf)]) g];exact K _ _ (s.put g1 hc)):A:=e
def z159{A:Prop} (e:A:=by
 cases Vl:o.k<;>rw[Vl]at hk<;>first|(cases hk;done)|simp[nj,Vl]):A:=e
def z160{A:Prop} (e:A:=by
 rw[Xn];unfold km at hb;split at hb
 ·cases hb
 split at hb
 ·cases hb
 omega):A:=e
def Lx{A:Prop} (e:A:=by
 rw[aaX];exact propext ⟨λz=>by omega,λz=>by omega⟩):A:=e
def z162{A:Prop} (e:A:=by
 cases ok
 ·exact Xd
 ·exact⟨_,rfl,_,_,rfl,Xd,_,_,rfl,rfl,rfl⟩):A:=e
def Lw{A:Prop} (e:A:=by
 rw[rJ];have:=List.count_le_length (a:=(32:UInt8)) (l:=s);omega):A:=e
def z164{A:Prop} (e:A:=by
 exact⟨hone,v,by rw[Wu _ (by omega)];exact hv,VR.mono V6 _ _ Ts⟩):A:=e
def Lv{A:Prop} (e:A:=by
 refine WF.ce T.c15 (ha _ Xx) λg2=>?_
 refine Rs @t0 ?_;exact⟨Xx,rfl⟩):A:=e
def Lu{A:Prop} (e:A:=by
 rw[<-oG];exact hF.aB λj hj=>ne j (by have:=hlo j hj;omega)):A:=e
def z167{A:Prop} (e:A:=by
 simp only[RV.bl,aam,aaK];exact .inr ⟨x,hx,hb⟩):A:=e
def z168{A:Prop} (e:A:=by
 rw[aac,abo,abo];omega):A:=e
def EJ{A:Prop} (e:A:=by
 rw[aao hbb]at ht;exact ht):A:=e
def Lt{A:Prop} (e:A:=by
 subst hn;exact .of hmix hA (H (aR A.nt [a0,a1,a2]) hl rfl rfl rfl)):A:=e
def z171{A:Prop} (e:A:=by
 simp only[aac,aah,aal];omega):A:=e
def Lq{A:Prop} (e:A:=by
 rw[aak];exact aa5 (aa0 _ _) w.l2):A:=e
def z173{A:Prop} (e:A:=by
 obtain⟨cv',m',rfl,h1,h2,h3⟩:=he;exact hn cv' m' w'' h1 h2 h3):A:=e
def Lp{A:Prop} (e:A:=by
 exact⟨s.length-(k+1),by omega,k+1,by omega,rfl,rfl,rfl⟩):A:=e
def z175{A:Prop} (e:A:=by
 exact dl (by omega) (by omega)):A:=e
def Lo{A:Prop} (e:A:=by
 simp only[FQ,Hv,Ex.leaves,ac3];cases cU rs ts h<;>simp):A:=e
def Iy{A:Prop} (e:A:=by
 rw[this];exact List.set_getElem_self _):A:=e
def Ln{A:Prop} (e:A:=by
 rename_i hu;rw[hu]at Xh;cases Xh;cases hf;exact hone rfl rfl hu):A:=e
def Lm{A:Prop} (e:A:=by
 rw[UG];exact cI.fin s5 (λ_=>by simp only[dD,sp,hp];rfl)):A:=e
def Ll{A:Prop} (e:A:=by
 refine⟨_,by omega,k+1,by omega,rfl,Yo.trans Xx,hu,rfl⟩):A:=e
def Lk{A:Prop} (e:A:=by
 refine⟨_,by omega,k+1,by omega,rfl,Vx.trans Xx,hu,rfl⟩):A:=e
def z182{A:Prop} (e:A:=by
 have:=hlate j oj hj hk hjf (by omega);rw[Vm]at this;cases this):A:=e
def z183{A:Prop} (e:A:=by
 simp only[WR,ja.app,aa2,false_implies,ac3]):A:=e
def Lj{A:Prop} (e:A:=by
 refine⟨_,by omega,k+1,by omega,rfl,hx.trans Xx,hu,rfl⟩):A:=e
def Ix{A:Prop} (e:A:=by
 subst e1;rw[Uw]at Vm;cases Vm):A:=e
def Li{A:Prop} (e:A:=by
 rw[beq_eq_false_iff_ne];rintro rfl;exact absurd hc.1 (by decide)):A:=e
def Lh{A:Prop} (e:A:=by
 refine Rs (A3 @t0 @t1 @fh) ?_;exact⟨g',V',rfl,h1,h2⟩):A:=e
def Lg{A:Prop} (e:A:=by
 exact⟨_,by omega,k+1,by omega,rfl,hx.trans Xx,hi,rfl⟩):A:=e
def Lf{A:Prop} (e:A:=by
 simp only[stepT,nS];cases eG op (val ts x) (val ts y)<;>rfl):A:=e
def Le{A:Prop} (e:A:=by
 simp only[RV.bl,l1,l2,e2,aae,abm]):A:=e
def Ld{A:Prop} (e:A:=by
 subst hn;exact .of hmix hA (H (aR A.nt [a0,a1]) hl rfl rfl)):A:=e
def Lc{A:Prop} (e:A:=by
 subst h3;exact⟨cv,w,m,h1,h2,hr,Grow.refl m _ w hr.cM⟩):A:=e
def z193{A:Prop} (e:A:=by
 refine .run hw (by rw[hk];trivial) ?_;rw[hk];exact od hs):A:=e
def z194{A:Prop} (e:A:=by
 exact⟨_,_,rfl,.inr ⟨J8 hlt (by omega),by omega⟩⟩):A:=e
def Lb{A:Prop} (e:A:=by
 exact⟨_,[],rfl,⟨.nil,λx hx=>by cases hx⟩,rfl⟩):A:=e
def z196{A:Prop} (e:A:=by
 exact(bad (by rw[UF];rfl) Xx).2):A:=e
def La{A:Prop} (e:A:=by
 simp only[acg,aa2,aay];omega):A:=e
def z198{A:Prop} (e:A:=by
 exact mg (by rw[hTl];exact M.size) (VR.mono h1 _ _ hv)):A:=e
def K9{A:Prop} (e:A:=by
 rw[aao Vn];simp only[acQ (abG Vn)]):A:=e
def K8{A:Prop} (e:A:=by
 cases k<;>first|exact H|exact absurd ⟨_,_,rfl⟩ hc):A:=e
def z201{A:Prop} (e:A:=by
 simp only[aac,aav];omega):A:=e
def K7{A:Prop} (e:A:=by
 rw[bE]at hl;subst hl;cases hf;exact⟨cx,rfl,hx⟩):A:=e
def z203{A:Prop} (e:A:=by
 have:c=[]:=abg.1 h;subst this;rfl):A:=e
end Go.Abs
