/- Ends of proofs that stand in more than one place. No condition. -/
import Derived.Tactics
set_option linter.all false
namespace Go.Abs
def YT:=@List.length_append
def YU:=@List.getElem?_eq_some_iff
def YV:=@List.append_assoc
def YW:=@decide_eq_false
def YX:=@List.length_cons
def YY:=@List.getElem?_append_left
def YZ:=@List.getElem?_eq_getElem
def Y5:=@decide_eq_true
def Y6:=@List.length_nil
def Y7:=@List.length_map
def Y8:=@List.mem_append
def Y9:=@List.map_append
def Za:=@if_neg
def Zb:=@List.getElem_mem
def Zc:=@Nat.le_refl
def Zd:=@List.getElem?_append_right
def Ze:=@Result.andThen_ok
def Zf:=@List.getElem?_set_ne
def Zg:=@List.getElem?_set_self
def Zh:=@if_pos
def Zi:=@if_false
def Zj:=@List.mem_singleton
def Zk:=@if_true
def Zl:=@Array.getElem?_eq_some_iff
def Zm:=@run_underlying
def Zo:=@Sem.run_bind
def Zp:=@decide_true
def Zq:=@Option.map_eq_some_iff
def Zr:=@List.append_nil
def Zt:=@List.length_singleton
def Zu:=@List.mem_map_of_mem
def Zv:=@congrArg
def Zw:=@Bool.not_true
def Zx:=@decide_false
def Zy:=@Option.some.injEq
def Zz:=@Bool.not_false
def ZA:=@Nat.zero_le
def ZB:=@List.mem_map
def ZC:=@List.all_eq_true
def ZD:=@List.take_length
def ZE:=@Bool.and_eq_true
def ZF:=@Sem.run_pure
def ZG:=@List.mem_cons
def ZH:=@List.mem_cons_of_mem
def ZI:=@List.length_set
def ZJ:=@List.take_add_one
def ZK:=@List.getD_eq_getElem?_getD
def ZL:=@List.take_of_length_le
def ZM:=@List.length_filter_le
def ZN:=@Nat.zero_add
def ZO:=@decide_eq_true_eq
def ZP:=@Array.getD_eq_getD_getElem?
def ZQ:=@List.length_take
def ZR:=@Nat.le_trans
def ZS:=@Bool.false_eq_true
def ZT:=@Array.getElem?_eq_getElem
def ZU:=@List.mem_cons_self
def ZV:=@List.mem_of_getElem?
def ZW:=@Nat.lt_of_lt_of_le
def ZX:=@List.map_cons
def ZY:=@List.set_append_right
def ZZ:=@Option.some.inj
def Z0:=@List.not_mem_nil
def Z1:=@List.flatten_cons
def Z2:=@List.drop_length
def Z3:=@List.pairwise_cons
def Z4:=@List.length_eq_zero_iff
def Z5:=@Option.bind_eq_some_iff
def Z6:=@Nat.sub_self
def Z7:=@Nat.mul_le_mul_right
def Z8:=@List.mem_of_mem_take
def Z9:=@List.length_replicate
def aaa:=@List.cons_append
def aab:=@List.getElem_map
def aac:=@List.getElem?_cons_zero
def aad:=@List.mem_range
def aae:=@List.pairwise_append
def aaf:=@List.getElem?_map
def aag:=@List.mem_filter
def aah:=@Array.getElem?_setIfInBounds_self_of_lt
def aai:=@Ne.symm
def aaj:=@Nat.succ_mul
def aak:=@of_decide_eq_true
def aal:=@List.take_append_drop
def aam:=@List.getElem?_cons_succ
def aan:=@Bool.not_eq_true'
def aao:=@List.drop_zero
def aap:=@Array.getElem?_toList
def aaq:=@List.getElem?_toArray
def aar:=@eq_false
def aas:=@Array.getElem?_eq_none
def aat:=@List.drop_drop
def aau:=@List.all_cons
def aav:=@Bool.true_and
def aaw:=@List.replicate_succ
def aax:=@List.pairwise_singleton
def aay:=@or_false
def aaz:=@List.filter_append
def aaA:=@List.nil_append
def aaB:=@List.foldl_cons
def aaC:=@List.map_nil
def aaD:=@List.any_eq_true
def aaE:=@List.map_map
def aaF:=@decide_eq_decide
def aaG:=@Array.getElem?_setIfInBounds_ne
def aaH:=@List.flatten_append
def aaI:=@List.drop_eq_getElem_cons
def aaJ:=@List.mem_or_eq_of_mem_set
def aaK:=@List.getLastD_eq_getLast?
def aaL:=@Bool.or_eq_true
def aaM:=@decide_eq_false_iff_not
def aaN:=@List.append_cancel_left
def aaO:=@List.foldl_append
def aaP:=@Decidable.not_not
def aaQ:=@Nat.min_eq_left
def aaR:=@List.take_succ_cons
def aaS:=@Option.map_some
def aaT:=@List.length_reverse
def aaU:=@List.length_pos_iff
def aaV:=@List.flatten_nil
def aaW:=@List.getElem?_eq_none
def aaX:=@List.getElem_set_self
def aaY:=@Bool.false_ne_true
def aaZ:=@List.flatten_replicate_singleton
def aa0:=@List.getElem?_take_of_lt
def aa1:=@List.filter_map
def aa2:=@Nat.zero_mul
def aa3:=@List.map_set
def aa4:=@List.getElem_of_mem
def aa5:=@Option.bind_eq_bind
def aa6:=@Nat.mul_one
def aa7:=@Array.length_toList
def aa8:=@Bool.false_or
def aa9:=@List.filter_cons
def aba:=@Option.getD_some
def abb:=@List.length_drop
def abc:=@Bool.false_and
def abd:=@List.findIdx?_cons
def abe:=@List.getElem?_drop
def abf:=@Nat.add_mul
def abg:=@Option.map_none
def abh:=@Prod.mk.injEq
def abi:=@List.ext_getElem?
def abj:=@Function.comp_def
def abk:=@List.any_cons
def abl:=@List.set_append_left
def abm:=@List.mapM_cons
def abn:=@Eq.trans
def abo:=@List.getElem_set_ne
def abp:=@List.replicate_zero
def abq:=@Array.ext'
def abr:=@Nat.le_of_lt
def abt:=@Nat.add_zero
def abu:=@List.find?_some
def abv:=@List.filter_nil
def abw:=@Option.pure_def
def abx:=@List.nodup_cons
def aby:=@Nat.le_succ
def abz:=@true_and
def abA:=@eq_true
abbrev By:=List UInt8
def Tv:True:=trivial
def Om{A:Prop}(e:A:=by omega):A:=e
def De{A:Prop}(e:A:=by decide):A:=e
def Si{A:Prop}(e:A:=by simp):A:=e
def z1{A:Prop} (e:A:=by
 refine Ws hs.aH ?_;refine WL.inv T.mix (λn ts h'=>∃k:Nat,k<=L.length/\n=L.length-k/\Ext h h'/\L.findIdx? p=((L.drop k).findIdx? p).map (· +k)/\ts.length=19/\slot ts 0=s/\slot ts 1=f/\slot ts 7=.i L.length/\slot ts 8=.i k) L.length
  ⟨0,by omega,rfl,Ext.refl h,by simp,rfl,rfl,rfl,rfl,rfl⟩ ?_
 rintro _ ts _ ⟨k,hk,rfl,⟨g,rfl⟩,hi,hlen,t0,t1,t7,t8⟩;rw[lG ts 19 hlen];by_cases hlt:k<L.length
 ·have hd:L.drop k=L[k]::L.drop (k+1):=by simp
  have e3:(k:Int)<L.length:=by omega
  simp only[aO,aQ,aY,aZ,Nat.reduceAdd,Nat.reduceMul,Nat.reduceLeDiff,Nat.reduceEqDiff,t0,t1,t7,t8,e3,Zp,hs.c8 hlt,hs.gS hlt];refine WF.val (hf L[k] (by simp) _ ⟨g,rfl⟩) ?_;rintro _ g1 rfl;cases hp:p L[k]with
  |true=>
   refine Ws @t8 ?_;rw[de,hi,hd,abd,hp];simp
  |false=>
   refine Ws (A2 @t8 (wrapN (show k+1<2^63 by omega))) ?_;refine⟨_,?_,k+1,by omega,rfl,?_,rfl⟩
   ·omega
   ·rw[hi,hd,abd,hp];simp only[ZS,Zi,Option.map_map];congr 1;funext i;simp only[Function.comp];omega
 ·have e3:¬(k:Int)<L.length:=by omega
  have e4:k=L.length:=by omega
  refine Ws (A6 @t0 @t1 @t7 @t8 @e3 @Zx) ?_;rw[de,hi,e4,Z2];rfl):A:=e
def z2{A:Prop} (e:A:=by
 rw[hrow]at hff;rw[hrow];refine Ws (A6 @t1 @t5 @t8 @t9 @t10 (wrapN (show k+1<2^63 by omega))) ?_;have hout:∀b,sB out=some b->b<(h++g).length:=λb hb=>(hfr.bP hb).2
 have hnew:∀b,sB s' =some b->(h++g).length<=b/\b<(h++g).length+(1+g1.length):=λb hb=>by
  have:=YI.bP hb;simp only[YT,YX,Y6]at this ⊢;omega
 have hold:∀x∈L',∀b,sB x.2=some b->b<(h++g).length/\sB out≠some b:=λx hx b hb=>by
  refine⟨((hin x hx).bP hb).2,λe=>?_⟩;exact(Z3.1 Sz).1 _ (Zu hx) b e hb
 refine⟨_,?_,k+1,_,L'++[(L[k].1,s')],by omega,rfl,?_,hff,?_,?_,rfl,rfl⟩
 ·omega
 ·rw[Y9,hm,ZJ,YZ hlt,Y9];rfl
 ·intro x hx;rcases Y8.1 hx with hx|hx
  ·refine((((hin x hx).app _).app _).app _).aD λb hb=>hkp b ?_ λb0 o n e hso=>?_
   ·have:=(hold x hx b hb).1;simp only[YT]at this ⊢;omega
   ·intro e;subst e;exact(hold x hx b hb).2 (by rw[hso];rfl)
  ·rw[Zj]at hx;subst hx;refine Fr.low (N:=(h++g++[ak.cells [] true true]).length) ?_ (by simp only[YT];omega);refine Fr.aD (h:=_) ((YI.app _).low ?_) λb hb=>hkp b ?_ λb0 o n e hso=>?_
   ·simp
   ·have:=hnew b hb;simp only[YT,YX,Y6]at this ⊢;omega
   ·intro e;subst e;have h1:=hout b (by rw[hso];rfl);have h2:=(hnew b hb).1;omega
 ·have em:(L'++[(L[k].1,s')]).map (λx=>sB x.2)=(L'.map λx=>sB x.2)++[sB s']:=by rw[Y9];rfl
  rw[em];refine Z3.2 ⟨?_,aae.2 ⟨(Z3.1 Sz).2,aax _ _,?_⟩⟩
  ·intro y hy b hb UD;cases hb;rcases Y8.1 hy with hy|hy
   ·obtain⟨x,hx,rfl⟩:=ZB.1 hy;have:=(hold x hx _ UD).1;simp only[YT]at this;omega
   ·rw[Zj]at hy;rw[hy]at UD;have:=(hnew _ UD).2;simp only[YT,YX,Y6]at this;omega
  ·intro y hy z hz b hb hzb;obtain⟨x,hx,rfl⟩:=ZB.1 hy;rw[Zj]at hz;rw[hz]at hzb;have h1:=(hold x hx _ hb).1;have h2:=(hnew _ hzb).1;omega):A:=e
def z3{A:Prop} (e:A:=by
 obtain⟨V2,rfl,sb,K1⟩:=fin hv;refine Rs (A4 @t3 @t4 @t7 @sb) ?_;refine K1 _ ?_ ?_ ?_ ?_ ?_
 ·simp only[ba,hlen]
 ·exact Zs @t3 trivial
 ·exact Zs @t4 trivial
 ·exact Zs @t7 trivial
 ·exact Zn trivial):A:=e
def z4{A:Prop} (e:A:=by
 refine WF.val (hvk _ (by repeat first|exact Ext.refl _|refine Ext.app _ ?_)) ?_;rintro _ g1 rfl;refine Wn ?_;refine WR.ff (h0:=h) (cs:=((L.take k).map F).map aq) (ys:=[aq (F L[k])]) ((((hfr.app _).app _).app _)) (Fr.push (N:=0) (ZA _) [aq (F L[k])] (by simp[aq])).aW (by decide) (by simp) (by simp;omega) (by simp only[sE]) ?_;intro g' RJ hff hkp;have hrow:((L.take k).map F).map aq++[aq (F L[k])]=((L.take (k+1)).map F).map aq:=by rw[ZJ,YZ hlt,Y9,Y9];rfl
 rw[hrow]at hff;rw[hrow];refine Ws (A6 @t1 @t5 @t8 @t9 @t10 (wrapN (show k+1<2^63 by omega))) ?_;refine⟨_,?_,k+1,_,by omega,rfl,hff,rfl,rfl⟩;omega):A:=e
def z5{A:Prop} (e:A:=by
 have e3:¬(k:Int)<L.length:=by omega
 have e4:k=L.length:=by omega
 refine Ws (A7 @t1 @t5 @t8 @t9 @t10 @e3 @Zx) ?_;rw[e4,ZD]at hfr;exact hfr):A:=e
def z6{A:Prop} (e:A:=by
 rw[hrow]at hff;rw[hrow];refine Ws (A6 @t1 @t5 @t8 @t9 @t10 (wrapN (show k+1<2^63 by omega))) ?_;refine⟨_,?_,k+1,_,by omega,rfl,hff,rfl,rfl⟩;omega):A:=e
def z7{A:Prop} (e:A:=by
 have Tn:some i∈V.bl:=by rw[hd];exact iW hi
 refine hk i (hin i Tn).2 (λe=>?_) (λe=>r.ne (e▸Tn));obtain⟨h1,h2,h3⟩:=aae.1 Sz;rcases hi with hi|hi
 ·exact h3 _ hi _ (by simp) i rfl e
 ·exact(Z3.1 h2).1 _ hi i e rfl):A:=e
def z8{A:Prop} (e:A:=by
 have hrow:V.aC.map aM++[aM (y,t)]=(V.aC++[(y,t)]).map aM:=by rw[Y9];rfl
 rw[hrow]at hff;rw[hrow];have hbl:=r.lt;have RT:sB V.s3≠some b:=λe=>r.ne (by rw[<-e];simp[RV.bl])
 have hk1:∀i,i<(B++g).length->sB V.s3≠some i->(B++g')[i]? =(B++g)[i]? :=λi hi hne=>by
  rw[hkp i (by simp only[YT]at hi ⊢;omega) (λb0 o n e he z=>hne (by rw[he,z];rfl))];exact(show Ext (B++g) _ from Xx).get hi
 have mB:(B++g')[b]? =some (.b V.row):=(hk1 b hbl RT).trans r.m;have UK:=λ(b' o n e:Nat)=>iE (i:=4) (v:=.slice b' o n e) mB rfl (by decide)
 refine Rs (A4 @t0 @t1 @UK @fi) ?_;refine Gg r hff ?_ (λi hi=>by cases hi;exact .inr (by simp only[YT];omega)) hk1 ?_ ?_
 ·refine Fr.low (N:=(B++g).length) ((show Fr (B++g).length _ t 1 _ from SJ.app _).aD λi hi=>hkp i ?_ (λb0 o n e he z=>?_)) (by simp)
  ·have:=(SJ.bP hi).2;simp only[YT]at this ⊢;omega
  ·have h1:=(SJ.bP hi).1;have h2:=(r.o.i3.bP (show sB V.s3=some i by rw[he,z];rfl)).2;omega
 ·intro i hi;have h1:=SJ.bP hi;refine⟨h1.1,λe=>?_⟩;cases e;have:=h1.2;simp only[YT,YX,Y6]at this;omega
 ·rw[hy];simp[RV.an,du]):A:=e
def z9{A:Prop} (e:A:=by
 rcases hn i hi with hn|hn
 ·exact .inl hn
 ·refine .inr ⟨λy hy e=>?_,λy hy e=>?_⟩
  ·subst e;have:=(hin i (by rw[hd];exact iW (.inl hy))).2;omega
  ·subst e;have:=(hin i (by rw[hd];exact iW (.inr hy))).2;omega):A:=e
def Nc{A:Prop} (e:A:=by
 refine⟨own,r.hN,hm,λhb=>?_⟩;have hbl:=r.lt;have T0:=r.ne;rw[hd]at T0;by_cases hsb:sB s=some b
 ·rcases hn b hsb with z|z
  ·exact T0 (by rw[z];simp)
  ·omega
 ·by_cases htb:sB t=some b
  ·have:=(hnt b htb).1;omega
  ·have TH:some b≠sB s:=λz=>hsb z.symm
   have htb':some b≠sB t:=λz=>htb z.symm
   simp only[RV.bl,Y9,ZX,aaC,Y8,ZG,Z0,aay]at hb;simp only[Y8,ZG,Z0,aay]at T0
   grind):A:=e
def Jb{A:Prop} (e:A:=by
 rw[hkp i (by simp only[YT]at hi ⊢;omega) (λb0 o n e he z=>hne (by rw[he,z];rfl))];exact(show Ext (B++g) _ from Xx).get hi):A:=e
def z12{A:Prop} (e:A:=by
 by_cases hex:∃(x:Nat) (ox:bK),l[x]? =some ox/\listed.getD x false=true/\ox.dst=some t
 ·obtain⟨x,ox,hx,hxl,U4⟩:=hex;obtain⟨oo,Ul,Vl⟩:=SV x ox t hx U4;have hxi:x<i:=by
   by_cases e1:x=i
   ·subst e1;rw[SR]at hxl;cases hxl
   ·by_cases e2:x<i
    ·exact e2
    ·have e3:=(cO hsl (show i<x by omega) ho Ul).2 t Vl ht;have e4:=hcl x i hxl hin e3;rw[SR]at e4;cases e4
  rw[RS (x+1) i t (by omega) (by omega) (λk o' a2 a3 a4 a5=>by have:=huniq x k ox o' t hx a4 U4 a5;omega)];exact h2 t x ox hx hxl U4
 ·rw[RS 0 i t (by omega) (by omega) (λk o' e2 e3 e4 e5=>by
   obtain⟨oo,Ul,Sd⟩:=SV k o' t e4 e5;have h6:=((cO hsl e3 Ul ho).1 t Sd).2 ht;exact hex ⟨k,o',e4,hahead k (Zl.1 Ul).1 h6,e5⟩)]
  exact h1 t λj oj hj hl Sd=>hex ⟨j,oj,hj,hl,Sd⟩):A:=e
def QF{A:Prop} (e:A:=by
 repeat (first|simp (config:={maxSteps:=1000000}) only[aO,aQ,aY,aZ,Nat.reduceAdd,Nat.reduceMul,Nat.reduceLeDiff,Nat.reduceEqDiff,ba,hlen,Zi,Zk,t2,t3,t4,le,lr,bC,aN,bd,aG,RK,gP,reduceCtorEq,Zx,Zp,eO,j1,f1,ix,l2,oJ.aH,e2,iy,lv,e3,sb,gm]|simp (config:={maxSteps:=1000000}) (disch:=first|(simp only[YT,YX,Y6]<;>omega)|rfl|omega|fail) only[dP,aO,aQ,aY,aZ,Nat.reduceAdd,Nat.reduceMul,Nat.reduceLeDiff,Nat.reduceEqDiff,ba,hlen,Zi,Zk,t2,t3,t4,le,lr,bC,aN,bd,aG,RK,gP,reduceCtorEq,Zx,Zp,eO,j1,f1,ix,l2,oJ.aH,e2,iy,lv,e3,sb,gm])
 rw[bD,Za (λz=>z hct),Zh h3];exact cG.fin R8 (λz=>absurd z (by decide))):A:=e
def AO{A:Prop} (e:A:=by
 exact⟨by simp[Op.equalIn,Zm hu],λl=>by simp,by simp,rfl,rfl⟩):A:=e
def QE{A:Prop} (e:A:=by
 have hlt:=(YU.1 hx).1;have R6:t<a1.tmps.size:=by have:=hTl l.length (Zc _);omega
 have ex:(T l.length).getD t ay=x:=by simp[List.getD,hx]
 have ey:a1.tmps.getD t undef=a1.tmps[t]:=by simp[ZP,ZT R6]
 refine⟨a1.tmps[t],by simp,?_⟩;rw[<-ex,<-ey];by_cases hw:∃(j:Nat) (o:bK),l[j]? =some o/\o.dst=some t
 ·obtain⟨j,o,hj,ho⟩:=hw;have T5:=(YU.1 hj).1;rw[RS (j+1) l.length t (by omega) (Zc _) (λk o' a2 a3 a4 a5=>by have:=huniq j k o o' t hj a4 ho a5;omega)];exact h2 t j o hj (hall j (by omega)) ho
 ·rw[RS 0 l.length t (by omega) (Zc _) (λk o' _ _ h4 h5=>hw ⟨k,o',h4,h5⟩)];exact h1 t λj o hj _ ho=>hw ⟨j,o,hj,ho⟩):A:=e
def QD{A:Prop} (e:A:=by
 cases x with
 |agg l=>cases hx
 |dL l=>cases hx
 |bool b=>rw[VR]at h;subst h;rfl
 |int k n=>rw[VR]at h;subst h;rfl
 |wS k b=>rw[VR]at h;obtain⟨_,rfl,_⟩:=h;rfl
 |wD k x y=>rw[VR]at h;obtain⟨_,_,rfl,_⟩:=h;rfl
 |str s=>rw[VR]at h;subst h;rfl
 |ptr b o=>rw[VR]at h;obtain⟨_,_,rfl⟩:=h;rfl
 |nilPtr=>rw[VR]at h;subst h;rfl
 |slice b o n e=>rw[VR]at h;obtain⟨_,_,_,_,rfl,_⟩:=h;rfl
 |af=>rw[VR]at h;subst h;rfl
 |map r=>rw[VR]at h;obtain⟨_,_,rfl⟩:=h;rfl
 |db=>rw[VR]at h;subst h;rfl
 |func f a c=>rw[VR]at h;obtain⟨_,_,_,rfl,_⟩:=h;rfl
 |nilFunc=>rw[VR]at h;subst h;rfl
 |uM u a=>rw[VR]at h;obtain⟨_,rfl,_⟩:=h;rfl
 |kC=>cases hx):A:=e
def QC{A:Prop} (e:A:=by
 simp only[ZS,Zi,Option.map_map];congr 1;funext i;simp only[Function.comp];omega):A:=e
def Ja{A:Prop} (e:A:=by
 obtain⟨h1,h2,h3⟩:=s.kl i hi;rw[g2 i h2,hk i (ZW h1 s.ln) (λz=>h3 (by rw[<-z];simp[RV.bl]))];exact s.kp i hi):A:=e
def I9{A:Prop} (e:A:=by
 simp only[RV.bl,Y9,ZX,aaC,Y8,ZG,List.mem_nil_iff,aay]at h ⊢
 grind):A:=e
def z20{A:Prop} (e:A:=by
 have hX:Ext X (X++[.b V.row]++[.b x.row]++[.b js]):=Xx;have ho:cJ B.length (X++[.b V.row]++[.b x.row]++[.b js]) V:=o.ar λi hi=>hX.get (o.dR hi).2
 refine⟨⟨ho,hx.len,by simp,λhi=>by have:=(o.dR hi).2;omega⟩,hx.trans hX,Zc _,λ_ _=>rfl,λi hi=>?_⟩;simp only[YT,YX,Y6];rcases hi with⟨h1,h2⟩|h1|h1
 ·exact⟨by omega,by omega,h2⟩
 ·exact⟨by omega,by omega,λz=>by have:=(o.dR z).2;omega⟩
 ·exact⟨by omega,by omega,λz=>by have:=(o.dR z).2;omega⟩):A:=e
def z21{A:Prop} (e:A:=by
 have e5:=wrapN (n:=k) (by omega);by_cases hp:L[k]=M[k]
 ·have q:decide (L[k]≠M[k])=false:=YW (λz=>z hp);refine Rs (mN @t0 @t1 @t5 @e3 hs.aH @ix @ld @iy @ly @q @e5) ?_;refine⟨_,by omega,k+1,by omega,rfl,?_,rfl⟩;rw[ZJ,ZJ,hi,YZ hlt,YZ R6,hp]
 ·have q:decide (L[k]≠M[k])=true:=Y5 hp;refine Rs (o8 @t0 @t1 @t5 @e3 hs.aH @ix @ld @iy @ly @q) ?_;exact Zv AV.bool (YW (λ(e:L=M)=>hp (by simp only[e]))).symm):A:=e
def QB{A:Prop} (e:A:=by
 split at hk
 case isFalse=>cases hk
 rename_i hg;cases R7:flat P 20 t with
 |none=>simp[R7]at hk
 |some ks=>
  simp[R7]at hk;subst hk;have hb':y6 ks (ρ x) (ρ y)=some b:=hb;unfold y6 at hb';split at hb'
  case h_2=>cases hb'
  rename_i xs ys hxa Tq;rw[hxa]at hx;rw[Tq]at hy;obtain⟨lx,rfl,UG⟩:=hx;obtain⟨ly,rfl,UF⟩:=hy;split at hb'
  case isFalse=>cases hb'
  rename_i hlen;refine fin (wA hg) ?_ rfl rfl;exact BH 20 t ks R7 10000 (by omega) _ hu xs ys lx ly b hlen.1 hlen.2 UG UF hb' w):A:=e
def Ba{A:Prop} (e:A:=by
 simp only[compile]at hc
 (repeat' split at hc)
 all_goals cases hc):A:=e
def z24{A:Prop} (e:A:=by
 have:=(Fr.push (N:=0) (es:=3) (h:=W++[ak.cells z true false]) (ZA _) [z] (λx hx=>by rw[Zj]at hx;rw[hx,hz];rfl)).aW
 simpa only[Z1,aaV,Zr,YX,Y6,ZN]using this):A:=e
def I8{A:Prop} (e:A:=by
 rw[hkp _ (by have:=s.lt;have:=Tb.len;omega) λb0 o n e he z=>hub (by rw[he,z];rfl)];exact Tb.some s.b3):A:=e
def ML{A:Prop} (e:A:=by
 have:∀n,qN (Array.replicate ops.size false) n<=n:=by
  intro n
  induction n with
  |zero=>exact Zc _
  |succ n ihn=>simp only[qN];split<;>omega
 exact this _):A:=e
def Jq{A:Prop} (e:A:=by
 cases hk;exact fg.nD hr (F1 (w:=w) (ox:=x) (oy:=y) hk0 hx hy hs) (λcv h=>by simp only[execOp,ho];rw[Zo,h];rfl)):A:=e
def z28{A:Prop} (e:A:=by
 rcases hs.Oy with⟨rfl,rfl⟩|hq
 ·refine Ws @B6 ?_;exact .nil
 ·refine Ws @hq ?_;refine WR.pG (N:=h.length) a8 (Zc _) (hs.ext (by repeat first|exact Ext.refl _|refine Ext.app _ ?_)) (by omega) λs' g hf=>?_
  refine Wn ?_;exact hf):A:=e
def Nb{A:Prop} (e:A:=by
 obtain⟨xi,a1,a2⟩:=SV i oi d hi h1;obtain⟨xj,b1,b2⟩:=SV j oj d hj h2;by_cases hlt:i<j
 ·exact absurd b2 ((cO hsl hlt a1 b1).1 d a2).1
 ·by_cases UU:j<i
  ·exact absurd a2 ((cO hsl UU b1 a1).1 d b2).1
  ·omega):A:=e
def Na{A:Prop} (e:A:=by
 show 0+0+nc*i.size<=(vo++vn).length+rest.length;rw[YT,SM,Sy,Yl,TG];have e1:nc*i.size=(n+k)*i.size+(nc-(n+k))*i.size:=by rw[<-abf];congr 1;omega
 rw[abf]at e1;simp;omega):A:=e
def z31{A:Prop} (e:A:=by
 rw[e]at hb;by_cases hsb:sB s=some b
 ·rcases hn b hsb with z|z
  ·exact T0 (by rw[z];simp)
  ·omega
 ·rcases vJ hb with z|z|z
  ·exact T0 (iW (.inl z))
  ·exact hsb z.symm
  ·exact T0 (iW (.inr z))):A:=e
def M9{A:Prop} (e:A:=by
 have hlt:j<ops.size:=by have:=(YU.1 hj).1;omega
 have ho:ops[j]? =some ops[j]:=ZT hlt;obtain⟨io',h1,h2⟩:=RM j ops[j] (by simp);rw[hj]at h1;cases h1;exact⟨_,ho,h2⟩):A:=e
def QA{A:Prop} (e:A:=by
 have hsh:U.an.aj=V.an.aj.map (kJ a z):=by
  refine List.ext_getElem (by simp[RV.an,TT]) λi h1 h2=>?_
  have hi:i<U.aj.length:=by simpa [RV.an]using h1
  have:=hU i hi (by omega);rw[Zh (by omega)]at this
  simpa [RV.an]using this
 have heq:∀A C:dJ,{A with aj:=C.aj} =C->A={C with aj:=A.aj}:=by
  intro A C h;cases A;cases C;simp_all
 have:=heq _ _ hreg;rw[this,hsh,du,ha,hz]):A:=e
def Qz{A:Prop} (e:A:=by
 refine⟨(fn.aD λj hj=>kp j (ln j hj).2 λe=>?_).low (by simp only[YT];omega),(fv.aD λj hj=>kp j (lv j hj).2 λe=>?_).low (by simp only[YT];omega),λj hj e=>?_,λj hj e=>?_⟩
 ·have h1:=(ln j hj).1;have h2:=hout j e;omega
 ·have h1:=(lv j hj).1;have h2:=hout j e;omega
 ·have h1:=(ln j hj).2;have h2:=Um j e;omega
 ·have h1:=(lv j hj).2;have h2:=Um j e;omega):A:=e
def Qy{A:Prop} (e:A:=by
 by_cases hxy:x<=y
 ·have:=Uz x (y-x) (by omega) (λj o h1 h2 h3=>by
   cases hk:cF o.k with
   |true=>rfl
   |false=>have:=hno j o h3 hk;omega)
  rw[show x+(y-x)=y from by omega]at this;exact this.symm
 ·have:=Uz y (x-y) (by omega) (λj o h1 h2 h3=>by
   cases hk:cF o.k with
   |true=>rfl
   |false=>have:=hno j o h3 hk;omega)
  rw[show y+(x-y)=x from by omega]at this;exact this):A:=e
def M8{A:Prop} (e:A:=by
 subst e;by_cases hsi:sB s=some i
 ·exact n2 hsi
 ·have:=(hin i (by rw[hd];simp only[Y8,ZG,Z0,aay]at hy ⊢;have hsi':some i≠sB s:=λz=>hsi z.symm;grind)).2;omega):A:=e
def z37{A:Prop} (e:A:=by
 obtain⟨e,he,hb,hor⟩:=(n9 hed ho).2 x hx ha;have hle:=Xd e he hb;rcases hor with rfl|hor
 ·exact hle
 ·exact hcl e.on x hle hx hor):A:=e
def Qx{A:Prop} (e:A:=by
 simp only[RE]at hc;split at hc
 case h_2=>cases hc
 rename_i kt e x' i' y' hu RI hi' hy';simp only[Zq]at hc;obtain⟨kk,hkk,rfl⟩:=hc;obtain⟨w',h1,rfl,h2,h3⟩:=Ha (w:=w) hu hkk hr (hρ x (by simp[RE,Op.operands]) x' RI) (hρ i (by simp[RE,Op.operands]) i' hi') (hρ y (by simp[RE,Op.operands]) y' hy') hs;exact⟨undef,w',m,.inr ⟨by simp[execOp,RE,h1],rfl⟩,jT m,h2,h3⟩):A:=e
def M7{A:Prop} (e:A:=by
 rw[hp,Za (by decide),Zr]at RX;refine Ws (A6 @t1 @t5 @t8 @t9 @t10 (wrapN (show k+1<2^63 by omega))) ?_;refine⟨_,?_,k+1,out,by omega,rfl,by rw[RX];exact(hfr.app _).app _,rfl,rfl⟩;omega):A:=e
def z40{A:Prop} (e:A:=by
 have h1:=SJ.bP hi;refine⟨h1.1,λe=>?_⟩;cases e;have:=h1.2;simp only[YT,YX,Y6]at this;omega):A:=e
def Qw{A:Prop} (e:A:=by
 rcases RQ b1 e1 h1 with⟨rfl,rfl⟩|⟨W9,Tx⟩
 ·rcases RQ b2 e2 h2 with⟨rfl,rfl⟩|⟨hl2,Wl⟩
  ·exact absurd rfl hne
  ·exact absurd hcb.symm (hout b2 e2 Wl)
 ·rcases RQ b2 e2 h2 with⟨rfl,rfl⟩|⟨hl2,Wl⟩
  ·exact absurd hcb (hout b1 e1 Tx)
  ·rw[YY W9]at hk1;rw[YY hl2]at RF;exact hr.sep b1 b2 e1 e2 k1 k2 hne Tx Wl hk1 RF hcb):A:=e
def MK{A:Prop} (e:A:=by
 rw[cZ (by omega)]at hj ⊢;split
 ·rfl
 ·split at hj
  ·rename_i hji;subst hji;exact hahead x hx ha
  ·exact hcl j x hj hx ha):A:=e
def Dj{A:Prop} (e:A:=by
 exact cG.fin R8 (λz=>absurd z (by decide))):A:=e
def M6{A:Prop} (e:A:=by
 have e3:¬(k:Int)<L.length:=by omega
 have e4:k=L.length:=by omega
 refine Ws (A7 @t1 @t5 @t8 @t9 @t10 @e3 @Zx) ?_;rw[e4,ZD]at hm;exact⟨L',hm,hfr,hin,Sz⟩):A:=e
def MJ{A:Prop} (e:A:=by
 rw[hkp i (by simp only[YT];omega) (λb0 o n e he z=>hne (by rw[he,z];rfl))];exact YY hi):A:=e
def z46{A:Prop} (e:A:=by
 exact(show Ext (B++g) _ from Xx).get hi):A:=e
def M5{A:Prop} (e:A:=by
 cases RC;rw[hv]at h1;have h1':=h1;obtain⟨f',a',c',h2,h3,_⟩:=h1;simp only[AN]at h3;subst h3;exact fg.same hr h1' (by simp[execOp,RE,h2])):A:=e
def Qv{A:Prop} (e:A:=by
 simp only[YT,YX,Y6]at this ⊢;omega):A:=e
def z49{A:Prop} (e:A:=by
 simp only[RE,Zq]at hc;obtain⟨x',RI,rfl⟩:=hc;have RC:dw (.cg x') ρ h=some (v,h'):=hs;simp only[dw,Zy,abh]at RC;obtain⟨rfl,rfl⟩:=RC;exact fg.same hr (hρ x (by simp[RE,Op.operands]) x' RI) (by simp[execOp,RE])):A:=e
def Qu{A:Prop} (e:A:=by
 have:=(Fr.push (N:=0) (es:=4) (h:=W++[ak.cells z true false]) (ZA _) [z] (λx hx=>by rw[Zj]at hx;rw[hx,hz];rfl)).aW
 simpa only[Z1,aaV,Zr,YX,Y6,ZN]using this):A:=e
def z51{A:Prop} (e:A:=by
 have:=uI (T:=T) (t:=t) (a:=x) (y-x) (λj h1 h2=>by
  have hj:l[j]? =some (l[j]'(by omega)):=YZ (by omega);obtain⟨v,hv⟩:=Tp j _ hj;exact⟨_,v,hv,hno j _ h1 (by omega) hj⟩)
 rwa [show x+(y-x)=y from by omega]at this):A:=e
def I7{A:Prop} (e:A:=by
 exact⟨_,by omega,k+1,_,by omega,rfl,hff,rfl,rfl⟩):A:=e
def z53{A:Prop} (e:A:=by
 rename_i hm;cases h;rw[ZE,ZE]at hm;obtain⟨f,hf⟩:=Option.isSome_iff_exists.1 hm.1.2;have h1:=abu hf;rw[ZE]at h1;exact .inr (.inr ⟨l3,rfl,hq.2,⟨l,hl⟩,2,YB,.inr ⟨f,h1.1,h1.2⟩,hm.2⟩)):A:=e
def Qt{A:Prop} (e:A:=by
 refine⟨_,w',m',room VP hlen TX (by simp only[VS];rw[gI];exact h0),⟨_,_,cap,h1,rfl,VP,λ_=>?_,?_⟩,h2,h3⟩
 ·rw[VS];simp only[Addr.mk.injEq,abz,and_true];omega
 ·show 0+(en.d+o)+cap*i.size<=en.sz;omega):A:=e
def Qs{A:Prop} (e:A:=by
 have RC:S j=true:=by unfold mark at hs;rwa [Za hji]at hs
 rw[dD (huniq j o d hji hj ho)];refine VR.mono ?_ _ _ (M.yF d j o hj RC ho);intro b e hb;unfold bZ.dF at hb ⊢;split at hb
 ·rename_i hlt;rw[Zh hlt];exact Uh _ _ hb
 ·cases hb):A:=e
def Qr{A:Prop} (e:A:=by
 have e2:(#[]++(⟨[.string ⟨⟨s⟩⟩,.int .u8 (c.toNat:Int)]⟩:Array Value)++#[])=#[]++#[.string ⟨⟨s⟩⟩,.int .u8 (c.toNat:Int)]++#[]:=rfl;simp only[e2,e',Result.andThen];exact⟨_,m,rfl,rfl,hr,Grow.refl m h w hr.cL⟩):A:=e
def MI{A:Prop} (e:A:=by
 cases hx:m h.length with
 |none=>rfl
 |some y=>exact absurd (hr.cL _ _ hx) (by omega)):A:=e
def M4{A:Prop} (e:A:=by
 rw[RX,aaz];simp only[aa9,abv,hd,Zk,Y9,ZX,aaC]):A:=e
def z59{A:Prop} (e:A:=by
 rw[a5 i hi (by omega),hU i (by omega) hi'];by_cases TL:i=k
 ·subst TL;rw[Zh rfl,Za (by omega),Zh (by omega)]
 ·rw[Za TL];by_cases hil:i<k
  ·rw[Zh hil,Zh (by omega)]
  ·rw[Za hil,Za (by omega)]):A:=e
def I6{A:Prop} (e:A:=by
 subst z;rcases hb' i hi with z|z
 ·exact RT z
 ·omega):A:=e
def Qq{A:Prop} (e:A:=by
 have hj:l[x+k]? =some (l[x+k]'(by omega)):=YZ (by omega);rw[show x+(k+1)=x+k+1 from by omega,Uy _ _ hj (hno _ _ (by omega) (by omega) hj)];exact ih (by omega) λj o h1 h2 h3=>hno j o h1 (by omega) h3):A:=e
def I5{A:Prop} (e:A:=by
 subst z;rcases hn i hi with z|z
 ·exact RT z
 ·omega):A:=e
def M3{A:Prop} (e:A:=by
 obtain⟨v,hv⟩:=Tp j _ (YZ (show j<l.length by omega));rw[hv,mZ];exact ih (by omega)):A:=e
def Qp{A:Prop} (e:A:=by
 split at hk
 case isFalse=>cases hk
 simp only[Zq]at hk;obtain⟨ks,_,rfl⟩:=hk;exact fg.nD hr (F1 (w:=w) (ox:=x) (oy:=y) hk0 hx hy hs) (λcv h=>by simp only[execOp,ho];rw[Zo,h];rfl)):A:=e
def Qo{A:Prop} (e:A:=by
 refine⟨e,ts,h'++[ak.dead]++g',λr hr=>?_,done e h' g' hl To⟩;have:r=none:=hr;subst this;have:=Ev.fN (h:=h) (ps:=ps) (asg:=asg) (body:=body) hA hg hs (ng hl) bV;rw[rr hl]at this;exact this):A:=e
def M1{A:Prop} (e:A:=by
 rw[ZJ,YZ hlt,aaz];congr 1;cases hp:p L[k]<;>simp[hp]):A:=e
def Qn{A:Prop} (e:A:=by
 rw[ZJ,YZ SQ]at hy';rcases Y8.1 hy' with hy'|hy'
 ·exact hsf y' hy'
 ·simp only[Option.toList_some,Zj]at hy';rw[hy',<-hy];exact h4):A:=e
def Qm{A:Prop} (e:A:=by
 refine y5 hg RI ?_ (λt TW=>ht t ?_)
 ·exact ZC.1 hgok x (Array.mem_toList_iff.2 hx)
 ·subst TW;exact List.mem_append_left _ (List.mem_filterMap.2 ⟨.tmp t,by simpa using hx,rfl⟩)):A:=e
def Ql{A:Prop} (e:A:=by
 refine Rs (A2 @t0 @o1) ?_;refine WF.res T.c177 (r177 T (hx.ext Xx) (by simp;omega)) ?_;rintro s' g1 hf;have o2:=hf.aW.one;refine Rs (A3 @t0 @o1 @o2) ?_;exact⟨s',rfl,(Fr.swap hf (by simp)).low (by simp)⟩):A:=e
def z70{A:Prop} (e:A:=by
 rw[Za Sl]at RF;exact hr.sep b1 b2 e1 e2 k1 k2 hne Td RO hk1 RF hcb):A:=e
def Qk{A:Prop} (e:A:=by
 have q:decide ((L.length:Int)≠M.length)=true:=Y5 (by omega);refine Rs (A5 @t0 @t1 hs.aH ht.aH @q) ?_;exact Zv AV.bool (YW (λ(e:L=M)=>h1 (by rw[e]))).symm):A:=e
def z72{A:Prop} (e:A:=by
 refine⟨_,by omega,k+1,out,by omega,rfl,?_,rfl,rfl⟩;rw[RX,aaz];simp only[aa9,abv,hd,ZS,Zi,Zr];exact hfr.app _):A:=e
def Qj{A:Prop} (e:A:=by
 rw[bD]at hc;split at hc
 case isTrue hb=>exact absurd hc hb
 case isFalse hb=>
  unfold jQ at hb;split at hb
  ·exact absurd (by decide) hb
  split at hb
  ·exact absurd (by decide) hb
  omega):A:=e
def M0{A:Prop} (e:A:=by
 obtain⟨h3,h4,h5⟩:=w.md x hx;exact⟨h3,h4,λt ht=>by rw[em];exact gy (h5 t ht)⟩):A:=e
def z75{A:Prop} (e:A:=by
 rw[ZP,Array.getElem?_replicate];split<;>rfl):A:=e
def z76{A:Prop} (e:A:=by
 have e3:=eC hlt;have e4:k=L.length:=by omega
 refine Rs (A5 @t0 @t1 @t5 @e3 hs.aH) ?_;rw[e4,ZD,h1,ZD]at hi;exact Zv AV.bool (Y5 hi).symm):A:=e
def MZ{A:Prop} (e:A:=by
 obtain⟨o,h1,h2⟩:=VT j io hj;exact⟨o,h1,by rw[<- (dt h2).1];exact hd⟩):A:=e
def Qi{A:Prop} (e:A:=by
 have hi':i<x.ev.names.length:=by omega
 have:aP x.ev i=x.ev.names[i]:=by rw[aP,ZK,YZ hi'];rfl
 rw[this];exact ox.n.kS hi' rfl e):A:=e
def MH{A:Prop} (e:A:=by
 by_cases e1:j=i
 ·subst e1;exact hlt
 ·rw[hne j e1];exact hl):A:=e
def z80{A:Prop} (e:A:=by
 rw[Zd (by simp;omega),Zd (by simp;omega)];simp):A:=e
def MG{A:Prop} (e:A:=by
 have:=Bc (listed:=listed) (by omega) SR ops.size hin;omega):A:=e
def FL{A:Prop} (e:A:=by
 exact Rs (A3 @t0 @t1 @t2) trivial):A:=e
def MY{A:Prop} (e:A:=by
 rw[ZJ,YZ (by rw[hRl];exact hlt),hy];simp[RV.an]):A:=e
def Qh{A:Prop} (e:A:=by
 rename_i cs;cases hl:cs.toList.mapM (mA n)with
 |none=>simp[hl]at h
 |some r=>simp[hl]at h;subst h;exact⟨cs.toList,rfl,vK m n (qD m n) _ _ hl⟩):A:=e
def z85{A:Prop} (e:A:=by
 have h1:=(s.bk.o.dR (b:=i) (by rw[<-e];simp[RV.bl])).2;have:=(htb i hi).1;omega):A:=e
def Qg{A:Prop} (e:A:=by
 unfold bZ.add at Tf;by_cases hx:b=h.length
 ·rw[Zh hx]at Tf;cases Tf;exact .inl ⟨hx,rfl⟩
 ·rw[Za hx]at Tf;exact .inr ⟨hr.cL _ _ Tf,Tf⟩):A:=e
def z87{A:Prop} (e:A:=by
 simp only[Fe,Fc,Fb,IL,IM,Fh,Fg,Ff,Mj,Mi,aaA,aaa,ne_eq,Zy,and_true];omega):A:=e
def Qf{A:Prop} (e:A:=by
 refine Rs (Jo @t4 @t6 @t20 @t21 @t22 @e3 @ix @ld @e5 @l2 @l3 @bW @jk @lk @hb @mp @a4) ?_;exact⟨_,by omega,k+1,_,by omega,rfl,rfl,hnew,rfl⟩):A:=e
def MX{A:Prop} (e:A:=by
 show(R.aC++[_]).length<=32;rw[YT,Zt];omega):A:=e
def MW{A:Prop} (e:A:=by
 rcases hn i z with z|z
 ·exact h3 (by rw[<-z];simp[RV.bl])
 ·have:=s.ln;omega):A:=e
def z91{A:Prop} (e:A:=by
 exact cG.fin R1 (λz=>absurd z (by decide))):A:=e
def Qe{A:Prop} (e:A:=by
 rw[az (e.some hg0)];have:bF x.ev 1=1\/bF x.ev 1=2\/bF x.ev 1=3\/bF x.ev 1=4:=by omega
 rcases this with z|z|z|z<;>rw[z]<;>rfl):A:=e
def z93{A:Prop} (e:A:=by
 simp only[Zj,Zy]at z;omega):A:=e
def Qd{A:Prop} (e:A:=by
 rw[ZJ,YZ hlt,tn];simp only[Option.toList_some,cU,ZN,ZQ];rw[aaQ (by omega)]):A:=e
def Jp{A:Prop} (e:A:=by
 exact cG.fin sY (λz=>absurd z (by decide))):A:=e
def Qc{A:Prop} (e:A:=by
 cases hk:cF oj.k with
 |true=>exact .inl rfl
 |false=>
  cases RF:kL oj with
  |true=>exact .inr rfl
  |false=>have:=hHh j oj h3 hk RF;omega):A:=e
def Qb{A:Prop} (e:A:=by
 have hne:io.dst≠some d:=hd i io hio (by simp[mark]);rw[dD hne];refine M.yG d λj o hj hs=>hd j o hj ?_
 unfold mark;split
 ·rfl
 ·exact hs):A:=e
def Qa{A:Prop} (e:A:=by
 have d1:decide (n<10)=true:=Y5 h10;refine Ws (A4 @d0 @d1 @uG @zb) ?_;rw[kI,Lib.decDigits,dif_pos (by omega),y7 h0 h10]):A:=e
def P9{A:Prop} (e:A:=by
 have e3:=jm hmo (show i<j by omega) hio hj XC (hrp hk) U8 (hld hk) (.inl ⟨Tk,hk⟩);have e4:=hcl j i TK hin e3;rw[SR]at e4;cases e4):A:=e
def Kf{A:Prop} (e:A:=by
 rw[VR]at ha hv ⊢;obtain⟨e,he,_⟩:=ha;obtain⟨e',SL,hv⟩:=hv;exact⟨e',by unfold bZ.dF;rw[Zh (hd _ _ he)];exact SL,hv⟩):A:=e
def GX{A:Prop} (e:A:=by
 exact h3 (by rw[<-z];simp[RV.bl])):A:=e
def Ke{A:Prop} (e:A:=by
 have:=(Fr.push (N:=0) (es:=3) (h:=W4) (ZA _) [z] (λx hx=>by rw[Zj]at hx;rw[hx,hz];rfl)).aW
 simpa using this):A:=e
def Kc{A:Prop} (e:A:=by
 simp only[aO,aQ,aY,aZ,Nat.reduceAdd,Nat.reduceMul,Nat.reduceLeDiff,Nat.reduceEqDiff,ba,hlen,Zi,Zk,t0,az hg.1]):A:=e
def Kb{A:Prop} (e:A:=by
 have hl:=(YU.1 this).1;rw[YZ hl]at this;rw[<-ZZ this];exact List.set_getElem_self hl):A:=e
def z105{A:Prop} (e:A:=by
 split at hn
 case isFalse=>cases hn
 rename_i T4;subst T4;cases hn;obtain⟨e,rfl⟩:=hd;simp[Builtin.len_,TZ,Zm hu,goInt]):A:=e
def Ka{A:Prop} (e:A:=by
 by_cases hab:a=b
 ·simp[c6,cT,hab,AD]
 ·have:(a==b)=false:=by simp[hab]
  simp[c6,cT,hab,AD,this]):A:=e
def z107{A:Prop} (e:A:=by
 subst z;have:=(hnt i hi).1;omega):A:=e
def GW{A:Prop} (e:A:=by
 rw[ei];refine Rs (A5 @t0 @t1 @ix @ld @on) ?_;exact⟨x,Tn,sp,rfl⟩):A:=e
def z109{A:Prop} (e:A:=by
 have:jQ V.an x.ev=3:=by rw[jQ,Za (by rw[h1];decide),<-jx.e,Zh h2]
 rw[bD,Zh (by rw[this];decide),this]):A:=e
def J9{A:Prop} (e:A:=by
 simp only[ZP,ZT (show i<listed.size by omega),aba]at hl ⊢;exact hl):A:=e
def J8{A:Prop} (e:A:=by
 obtain⟨h1,h2,h3⟩:=s.kl i hi;rw[hk i (ZW h1 s.ln) (λz=>h3 (by rw[<-z];simp[RV.bl]))];exact s.kp i hi):A:=e
def J7{A:Prop} (e:A:=by
 refine Rs (A4 @t0 @t1 @t2 @Zz) ?_;refine WF.ce T.c15 (ha0 _ Xx) λg2=>?_
 refine Rs @t0 ?_;exact⟨e0.trans Xx,rfl⟩):A:=e
def J6{A:Prop} (e:A:=by
 obtain⟨y,hy,rfl⟩:=ZB.1 hx;have:=tZ w.n2 (Zu (f:=jR.name) (aag.1 hy).1);omega):A:=e
def J5{A:Prop} (e:A:=by
 have VE:(ps.map λ(i,x)=>(i,σ x)).toList=ps.toList.map λp=>(p.1,σ p.2):=by simp
 rw[VE,S2];simp[newRow]):A:=e
def J4{A:Prop} (e:A:=by
 by_cases hlt:j<i
 ·have:=Tm (j+1) i (by omega) (by omega);omega
 ·have:=Tm (i+1) j (by omega) (by omega);omega):A:=e
def z116{A:Prop} (e:A:=by
 have e3:V.cC.length=V.bV.cC.length:=by simp[HV.bV]
 have e4:V.bV.dm.length=V.dm.length:=by simp[HV.bV]
 omega):A:=e
def z117{A:Prop} (e:A:=by
 split at h
 ·rename_i h1 h2 h3 h4;simp only at h1 h2 h3 h4;subst h1;subst h2;subst h3;subst h4;cases h;rfl
 ·cases h):A:=e
def zv{A:Prop} (e:A:=by
 exact Ws (A2 @hld @S9) trivial):A:=e
def z119{A:Prop} (e:A:=by
 rw[VR]at ha hv ⊢;obtain⟨l1,_,h1⟩:=ha;obtain⟨l2,hv,h2⟩:=hv;exact⟨l2,hv,cK.cut hd l _ _ h1 h2⟩):A:=e
def J3{A:Prop} (e:A:=by
 rcases Y8.1 hx with hx|hx
 ·exact w.ev x hx
 ·rw[Zj]at hx;subst hx;exact⟨d,we⟩):A:=e
def J2{A:Prop} (e:A:=by
 show 0+(dO k z.cells).length<=row.size;rw[jw,hrs,hzl,ZN];exact Z7 _ hkn):A:=e
def J1{A:Prop} (e:A:=by
 have e1:decide (jQ V.an x.ev≠0)=true:=Y5 hb;refine Rs (A3 @t0 @t1 @e1) ?_;rw[bD,Zh hb]):A:=e
def Dp{A:Prop} (e:A:=by
 rw[ei];exact Rs (A4 @t0 @t1 @ix @ld) trivial):A:=e
def z124{A:Prop} (e:A:=by
 exact⟨_,by omega,k+1,by omega,rfl,eW.trans Xx,rfl⟩):A:=e
def GU{A:Prop} (e:A:=by
 rw[<-Sd]at hx;exact e1 (huniq j i oj io d hj hio Ut hx)):A:=e
def J0{A:Prop} (e:A:=by
 refine WF.ce T.c254 (Z.atoi Sd.2 (by simp) (by omega)) λg2=>?_
 refine Rs @t0 ?_;unfold kX;rw[e1];rfl):A:=e
def z127{A:Prop} (e:A:=by
 simp only[RV.an,aab];rfl):A:=e
def JZ{A:Prop} (e:A:=by
 obtain⟨ma,va,h1,h2⟩:=h;exact⟨ma,va,λb e hb=>ZW (h1 b e hb) hnk,h2⟩):A:=e
def GS{A:Prop} (e:A:=by
 exact propext ⟨λz=>by omega,λz=>by omega⟩):A:=e
def z130{A:Prop} (e:A:=by
 simp only[RV.an,aab];rfl):A:=e
def z131{A:Prop} (e:A:=by
 have hne:=hb' b 0 _ _ rfl;rw[<-ZY _ _ hN,Zf (aai hne)]):A:=e
def JY{A:Prop} (e:A:=by
 have:jQ V.an x.ev=23:=by rw[jQ,Zh h1]
 rw[bD,Zh (by rw[this];decide),this]):A:=e
def GR{A:Prop} (e:A:=by
 rw[hr]at h1;simp only[ZQ]at h1;omega):A:=e
def GQ{A:Prop} (e:A:=by
 rename_i hu;cases hf;exact⟨_,hu,λ_=>rfl⟩):A:=e
def GP{A:Prop} (e:A:=by
 exact⟨_,by omega,k+1,by omega,rfl,eW,rfl⟩):A:=e
def JX{A:Prop} (e:A:=by
 refine hall ?_;cases hy:fp s[k]with
 |false=>rfl
 |true=>have:=kH.1 hy;omega):A:=e
def JW{A:Prop} (e:A:=by
 have a1:=hdom b e SP;have a2:=fI hlen (i:=θ) (j:=j) (by omega) (by omega);omega):A:=e
def z138{A:Prop} (e:A:=by
 have:=st.ts.length;simpa using this):A:=e
def z139{A:Prop} (e:A:=by
 subst he;rw[Zh rfl]at q4;simp only[Zp,Zk];exact⟨h5,g5,rfl,h6,q4⟩):A:=e
def JV{A:Prop} (e:A:=by
 simp only[eI,qP,Zy,AV.bool.injEq];by_cases hab:x=y<;>simp[hab]):A:=e
def z141{A:Prop} (e:A:=by
 rw[Zd (by omega),abe,Nat.add_sub_cancel' (by omega)]):A:=e
def Dm{A:Prop} (e:A:=by
 exact fin (kF h2 h3) h1 h4 h5):A:=e
def z143{A:Prop} (e:A:=by
 simp only[stepT,nj,qo];cases val ts x with
 |func f a c=>cases f<;>rfl
 |_=>rfl):A:=e
def GO{A:Prop} (e:A:=by
 cases k2<;>first|trivial|exact absurd rfl hl):A:=e
def z145{A:Prop} (e:A:=by
 simp only[RV.bl,Y8,ZB];exact .inl (.inl (.inr ⟨x,hx,hb⟩))):A:=e
def z146{A:Prop} (e:A:=by
 rcases Y8.1 hx with hx|hx
 ·exact hs.aW.rows x hx
 ·exact hy.rows x hx):A:=e
def GN{A:Prop} (e:A:=by
 have:=hTl l.length (Zc _);simp;omega):A:=e
def z148{A:Prop} (e:A:=by
 exact cG.fin Tt (λz=>absurd z (by decide))):A:=e
def JU{A:Prop} (e:A:=by
 cases hs with
 |nil=>exact .nil
 |mk hN hb he=>exact .mk hN ((hk _ rfl).trans hb) he):A:=e
def JT{A:Prop} (e:A:=by
 exact ug (by simp only[YT,Zt]at this;omega)):A:=e
def JS{A:Prop} (e:A:=by
 rw[<-hS,aaD];rintro⟨y,hy,hy2⟩;rw[hsf y hy]at hy2;cases hy2):A:=e
def z152{A:Prop} (e:A:=by
 rw[YV,Zd (Zc _),Z6];rfl):A:=e
def GM{A:Prop} (e:A:=by
 exact cG.fin s (λz=>absurd z (by decide))):A:=e
def z154{A:Prop} (e:A:=by
 rw[ZY _ _ (Zc _),Z6,YV];rfl):A:=e
def JR{A:Prop} (e:A:=by
 simp only[RV.bl,Y8,ZB];exact .inl (.inr ⟨x,hx,hb⟩)):A:=e
def z156{A:Prop} (e:A:=by
 simp only[Zq]at hc;obtain⟨f,_,rfl⟩:=hc;exact hs.elim):A:=e
def z157{A:Prop} (e:A:=by
 rw[fK,<-jx.e,ZK,YZ hsl];rfl):A:=e
def JQ{A:Prop} (e:A:=by
 rw[fK,<-Vk,ZK,YZ hlt];rfl):A:=e
def z159{A:Prop} (e:A:=by
 rw[ZJ,YZ hlt,gf,aaO];rfl):A:=e
def z160{A:Prop} (e:A:=by
 rw[Zd hN,Zg (by simp at hbl;omega)]):A:=e
def JP{A:Prop} (e:A:=by
 rw[hh]at hi;refine Rs (A5 @t2 @t3 @t5 @t6 @hi) ?_;exact⟨Wd.trans Xx,rfl⟩):A:=e
def z162{A:Prop} (e:A:=by
 rw[em];exact w.n3.add (gn 0 (by decide)) f0):A:=e
def JO{A:Prop} (e:A:=by
 rw[YV (h++[ak.bj (lD ds vf)]) g];exact K _ _ (s.put g1 hc)):A:=e
def z164{A:Prop} (e:A:=by
 cases TJ:o.k<;>rw[TJ]at hk<;>first|(cases hk;done)|simp[mG,TJ]):A:=e
def JN{A:Prop} (e:A:=by
 rw[Vk];unfold jQ at hb;split at hb
 ·cases hb
 split at hb
 ·cases hb
 omega):A:=e
def JM{A:Prop} (e:A:=by
 rw[ZO];exact propext ⟨λz=>by omega,λz=>by omega⟩):A:=e
def z167{A:Prop} (e:A:=by
 cases ok
 ·exact U5
 ·exact⟨_,rfl,_,_,rfl,U5,_,_,rfl,rfl,rfl⟩):A:=e
def z168{A:Prop} (e:A:=by
 exact⟨hone,v,by rw[XF _ (by omega)];exact hv,VR.mono Uo _ _ RG⟩):A:=e
def JL{A:Prop} (e:A:=by
 rw[<-nP];exact hF.aD λj hj=>ne j (by have:=hlo j hj;omega)):A:=e
def JK{A:Prop} (e:A:=by
 simp only[RV.bl,Y8,ZB];exact .inr ⟨x,hx,hb⟩):A:=e
def z171{A:Prop} (e:A:=by
 rw[YT,Z9,Z9];omega):A:=e
def Dl{A:Prop} (e:A:=by
 rw[Za hbb]at ht;exact ht):A:=e
def z173{A:Prop} (e:A:=by
 subst hn;exact .of hmix hA (H (aV A.nt [a0,a1,a2]) hl rfl rfl rfl)):A:=e
def JJ{A:Prop} (e:A:=by
 simp only[YT,YX,Y6];omega):A:=e
def z175{A:Prop} (e:A:=by
 rw[Y7];exact ZR (ZM _ _) w.l2):A:=e
def JI{A:Prop} (e:A:=by
 obtain⟨cv',m',rfl,h1,h2,h3⟩:=he;exact hn cv' m' w'' h1 h2 h3):A:=e
def JH{A:Prop} (e:A:=by
 exact⟨s.length-(k+1),by omega,k+1,by omega,rfl,rfl,rfl⟩):A:=e
def Dk{A:Prop} (e:A:=by
 exact dl (by omega) (by omega)):A:=e
def JG{A:Prop} (e:A:=by
 simp only[FQ,FH,Ex.leaves,abz];cases cQ rs ts h<;>simp):A:=e
def GL{A:Prop} (e:A:=by
 rw[this];exact List.set_getElem_self _):A:=e
def JF{A:Prop} (e:A:=by
 rename_i hu;rw[hu]at Vb;cases Vb;cases hf;exact hone rfl rfl hu):A:=e
def z182{A:Prop} (e:A:=by
 rw[Ta];exact cG.fin s5 (λ_=>by simp only[du,sp,hp];rfl)):A:=e
def z183{A:Prop} (e:A:=by
 refine⟨_,by omega,k+1,by omega,rfl,WA.trans Xx,hu,rfl⟩):A:=e
def JE{A:Prop} (e:A:=by
 refine⟨_,by omega,k+1,by omega,rfl,TW.trans Xx,hu,rfl⟩):A:=e
def JD{A:Prop} (e:A:=by
 have:=hlate j oj hj hk hjf (by omega);rw[TK]at this;cases this):A:=e
def JC{A:Prop} (e:A:=by
 simp only[WR,iI.app,ZS,false_implies,abz]):A:=e
def JB{A:Prop} (e:A:=by
 refine⟨_,by omega,k+1,by omega,rfl,hx.trans Xx,hu,rfl⟩):A:=e
def GK{A:Prop} (e:A:=by
 subst e1;rw[SR]at TK;cases TK):A:=e
def JA{A:Prop} (e:A:=by
 rw[beq_eq_false_iff_ne];rintro rfl;exact absurd hc.1 (by decide)):A:=e
def Jz{A:Prop} (e:A:=by
 refine Rs (A3 @t0 @t1 @fi) ?_;exact⟨g',V',rfl,h1,h2⟩):A:=e
def Jy{A:Prop} (e:A:=by
 exact⟨_,by omega,k+1,by omega,rfl,hx.trans Xx,hi,rfl⟩):A:=e
def Jx{A:Prop} (e:A:=by
 simp only[stepT,nj];cases eI op (val ts x) (val ts y)<;>rfl):A:=e
def z193{A:Prop} (e:A:=by
 simp only[RV.bl,l1,l2,e2,YV,aaa]):A:=e
def z194{A:Prop} (e:A:=by
 subst hn;exact .of hmix hA (H (aV A.nt [a0,a1]) hl rfl rfl)):A:=e
def Jw{A:Prop} (e:A:=by
 subst h3;exact⟨cv,w,m,h1,h2,hr,Grow.refl m _ w hr.cL⟩):A:=e
def z196{A:Prop} (e:A:=by
 refine .run hw (by rw[hk];trivial) ?_;rw[hk];exact nI hs):A:=e
def Jv{A:Prop} (e:A:=by
 exact⟨_,_,rfl,.inr ⟨Is hlt (by omega),by omega⟩⟩):A:=e
def z198{A:Prop} (e:A:=by
 exact⟨_,[],rfl,⟨.nil,λx hx=>by cases hx⟩,rfl⟩):A:=e
def GJ{A:Prop} (e:A:=by
 exact(bad (by rw[SY];rfl) Xx).2):A:=e
def Ju{A:Prop} (e:A:=by
 simp only[abc,ZS,Zi];omega):A:=e
def z201{A:Prop} (e:A:=by
 exact lA (by rw[hTl];exact M.size) (VR.mono h1 _ _ hv)):A:=e
def Jt{A:Prop} (e:A:=by
 rw[Za TL];simp only[abo (aai TL)]):A:=e
def z203{A:Prop} (e:A:=by
 cases k<;>first|exact H|exact absurd ⟨_,_,rfl⟩ hc):A:=e
def Js{A:Prop} (e:A:=by
 simp only[YT,Zt];omega):A:=e
def Jr{A:Prop} (e:A:=by
 rw[bE]at hl;subst hl;cases hf;exact⟨cx,rfl,hx⟩):A:=e
def z206{A:Prop} (e:A:=by
 have:c=[]:=Z4.1 h;subst this;rfl):A:=e
end Go.Abs
