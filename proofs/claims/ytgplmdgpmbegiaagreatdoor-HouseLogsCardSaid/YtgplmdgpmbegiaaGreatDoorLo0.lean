/- Ends of proofs that stand in more than one place. No condition. -/
import Derived.Tactics
set_option linter.all false
namespace Go.Abs
def Ud:=@List.length_append
def Ue:=@List.getElem?_eq_some_iff
def Uf:=@List.append_assoc
def Ug:=@List.getElem?_append_left
def Uh:=@decide_eq_false
def Ui:=@List.length_cons
def Uj:=@List.getElem?_eq_getElem
def Uk:=@decide_eq_true
def Ul:=@List.length_nil
def Um:=@List.mem_append
def Un:=@List.getElem?_append_right
def Uo:=@Result.andThen_ok
def Up:=@List.map_append
def Uq:=@Nat.le_refl
def Ur:=@if_neg
def Us:=@List.length_singleton
def Ut:=@if_pos
def Uu:=@Array.getElem?_eq_some_iff
def Uv:=@List.length_map
def Uw:=@List.mem_singleton
def Ux:=@run_underlying
def Uy:=@Sem.run_bind
def Uz:=@Option.map_eq_some_iff
def UA:=@Bool.not_true
def UB:=@List.getElem_mem
def UC:=@if_false
def UD:=@if_true
def UE:=@List.append_nil
def UF:=@Bool.not_false
def UG:=@Option.some.injEq
def UH:=@Bool.and_eq_true
def UI:=@List.mem_map
def UJ:=@List.all_eq_true
def UK:=@Nat.zero_le
def UL:=@List.mem_cons_of_mem
def UM:=@congrArg
def UN:=@Sem.run_pure
def UO:=@List.take_of_length_le
def UP:=@List.mem_map_of_mem
def UQ:=@List.getD_eq_getElem?_getD
def UR:=@List.mem_cons
def US:=@decide_true
def UT:=@decide_eq_true_eq
def UU:=@List.take_length
def UW:=@Array.getD_eq_getD_getElem?
def UX:=@Nat.zero_add
def UY:=@List.getElem?_set_self
def UZ:=@Array.getElem?_eq_getElem
def U0:=@List.set_append_right
def U1:=@List.getElem?_set_ne
def U3:=@Bool.false_eq_true
def U4:=@List.mem_cons_self
def U5:=@List.mem_of_getElem?
def U6:=@List.length_take
def U7:=@List.length_filter_le
def U8:=@List.take_append_drop
def U9:=@List.take_add_one
def Va:=@decide_false
def Vb:=@Nat.sub_self
def Vc:=@Option.some.inj
def Vd:=@List.length_eq_zero_iff
def Ve:=@Option.bind_eq_some_iff
def Vf:=@Nat.mul_le_mul_right
def Vg:=@Nat.lt_of_lt_of_le
def Vh:=@List.not_mem_nil
def Vi:=@List.mem_of_mem_take
def Vj:=@List.flatten_cons
def Vk:=@Nat.le_trans
def Vl:=@List.map_cons
def Vm:=@List.getElem?_cons_zero
def Vn:=@List.length_replicate
def Vo:=@List.mem_range
def Vp:=@List.cons_append
def Vq:=@List.pairwise_append
def Vr:=@List.drop_length
def Vs:=@Bool.not_eq_true'
def Vt:=@Array.getElem?_setIfInBounds_self_of_lt
def Vu:=@List.getLastD_eq_getLast?
def Vv:=@Nat.succ_mul
def Vw:=@List.getElem?_map
def Vx:=@List.pairwise_cons
def Vy:=@List.getElem?_cons_succ
def Vz:=@List.getElem_map
def VA:=@List.length_set
def VB:=@List.length_drop
def VC:=@List.drop_eq_getElem_cons
def VD:=@List.nil_append
def VE:=@Array.getElem?_toList
def VF:=@List.getElem?_toArray
def VG:=@List.flatten_append
def VH:=@List.drop_drop
def VI:=@List.drop_zero
def VJ:=@List.all_cons
def VK:=@of_decide_eq_true
def VM:=@Decidable.not_not
def VO:=@eq_false
def VP:=@Array.getElem?_eq_none
def VQ:=@List.mem_filter
def VS:=@Bool.true_and
def VT:=@List.replicate_succ
def VU:=@List.length_pos_iff
def VV:=@decide_eq_false_iff_not
def VW:=@Bool.or_eq_true
def VX:=@Array.getElem?_setIfInBounds_ne
def VY:=@List.take_succ_cons
def VZ:=@List.pairwise_singleton
def V3:=@or_false
def V4:=@List.append_cancel_left
def V5:=@Nat.min_eq_left
def V6:=@Option.map_some
def V9:=@UInt8.toNat_inj
def Wa:=@List.drop_eq_nil_of_le
def Wb:=@decide_eq_decide
def Wc:=@List.getElem?_eq_none
def Wd:=@Bool.false_ne_true
def We:=@Bool.false_and
def Wf:=@List.take_zero
def Wg:=@List.mem_or_eq_of_mem_set
def Wh:=@List.flatten_replicate_singleton
def Wi:=@List.getElem?_take_of_lt
def Wj:=@List.all_append
def Wk:=@Nat.zero_mul
def Wl:=@List.map_map
def Wm:=@Nat.add_mul
def Wo:=@Option.bind_eq_bind
def Wp:=@Nat.mul_one
def Wq:=@Array.length_toList
def Wr:=@Bool.false_or
def Wt:=@Option.getD_some
def Wu:=@List.any_eq_true
def Wv:=@List.getElem?_drop
def Ww:=@List.map_nil
def Wx:=@List.set_getElem_self
def Wy:=@Ne.symm
def Wz:=@Option.map_none
def WA:=@List.filter_map
def WD:=@List.getElem_set_self
def WH:=@Prod.mk.injEq
def WI:=@List.ext_getElem?
def WJ:=@Function.comp_def
def WN:=@List.count_le_length
def WT:=@List.mapM_cons
def WU:=@Bool.and_false
def WW:=@List.getElem_of_mem
def WX:=@List.replicate_zero
def WY:=@List.getElem_set_ne
def WZ:=@Array.ext'
def W3:=@Nat.add_zero
def W6:=@Bool.true_or
def W7:=@List.find?_some
def W8:=@Option.pure_def
def W9:=@List.foldl_cons
def Xa:=@List.nodup_cons
def Xb:=@Nat.le_succ
def Xc:=@true_and
def Xd:=@eq_true
abbrev By:=List UInt8
def Tv:True:=trivial
def Om{A:Prop}(e:A:=by omega):A:=e
def De{A:Prop}(e:A:=by decide):A:=e
def Si{A:Prop}(e:A:=by simp):A:=e
def z1{A:Prop} (e:A:=by
 refine Ws hs.aS ?_;refine WL.inv T.mix (λn ts h'=>∃k:Nat,k<=L.length/\n=L.length-k/\Ext h h'/\L.findIdx? p=((L.drop k).findIdx? p).map (· +k)/\ts.length=19/\slot ts 0=s/\slot ts 1=f/\slot ts 7=.i L.length/\slot ts 8=.i k) L.length
  ⟨0,by omega,rfl,Ext.refl h,by simp,rfl,rfl,rfl,rfl,rfl⟩ ?_
 rintro _ ts _ ⟨k,hk,rfl,⟨g,rfl⟩,hi,hlen,t0,t1,t7,t8⟩;rw[jM ts 19 hlen];by_cases hlt:k<L.length
 ·have hd:L.drop k=L[k]::L.drop (k+1):=by simp
  have e3:(k:Int)<L.length:=by omega
  simp only[aL,aR,bd,bf,Nat.reduceAdd,Nat.reduceMul,Nat.reduceLeDiff,Nat.reduceEqDiff,t0,t1,t7,t8,e3,US,hs.fx hlt,hs.mY hlt];refine WF.val (hf L[k] (by simp) _ ⟨g,rfl⟩) ?_;rintro _ g1 rfl;cases hp:p L[k]with
  |true=>
   refine Ws @t8 ?_;rw[eD,hi,hd,List.findIdx?_cons,hp];simp
  |false=>
   refine Ws (A2 @t8 (wrapN (show k+1<2^63 by omega))) ?_;refine⟨_,?_,k+1,by omega,rfl,?_,rfl⟩
   ·omega
   ·rw[hi,hd,List.findIdx?_cons,hp];simp only[U3,UC,Option.map_map];congr 1;funext i;simp only[Function.comp];omega
 ·have e3:¬(k:Int)<L.length:=by omega
  have e4:k=L.length:=by omega
  refine Ws (A6 @t0 @t1 @t7 @t8 @e3 @Va) ?_;rw[eD,hi,e4,Vr];rfl):A:=e
def z2{A:Prop} (e:A:=by
 rw[hrow]at hff;rw[hrow];refine Ws (A6 @t1 @t5 @t8 @t9 @t10 (wrapN (show k+1<2^63 by omega))) ?_;have hout:∀b,sB out=some b->b<(h++g).length:=λb hb=>(hfr.bL hb).2
 have hnew:∀b,sB s' =some b->(h++g).length<=b/\b<(h++g).length+(1+g1.length):=λb hb=>by
  have:=TZ.bL hb;simp only[Ud,Ui,Ul]at this ⊢;omega
 have hold:∀x∈L',∀b,sB x.2=some b->b<(h++g).length/\sB out≠some b:=λx hx b hb=>by
  refine⟨((hin x hx).bL hb).2,λe=>?_⟩;exact(Vx.1 Pp).1 _ (UP hx) b e hb
 refine⟨_,?_,k+1,_,L'++[(L[k].1,s')],by omega,rfl,?_,hff,?_,?_,rfl,rfl⟩
 ·omega
 ·rw[Up,hm,U9,Uj hlt,Up];rfl
 ·intro x hx;rcases Um.1 hx with hx|hx
  ·refine((((hin x hx).app _).app _).app _).ay λb hb=>hkp b ?_ λb0 o n e hso=>?_
   ·have:=(hold x hx b hb).1;simp only[Ud]at this ⊢;omega
   ·intro e;subst e;exact(hold x hx b hb).2 (by rw[hso];rfl)
  ·rw[Uw]at hx;subst hx;refine Fr.low (N:=(h++g++[ai.cells [] true true]).length) ?_ (by simp only[Ud];omega);refine Fr.ay (h:=_) ((TZ.app _).low ?_) λb hb=>hkp b ?_ λb0 o n e hso=>?_
   ·simp
   ·have:=hnew b hb;simp only[Ud,Ui,Ul]at this ⊢;omega
   ·intro e;subst e;have h1:=hout b (by rw[hso];rfl);have h2:=(hnew b hb).1;omega
 ·have em:(L'++[(L[k].1,s')]).map (λx=>sB x.2)=(L'.map λx=>sB x.2)++[sB s']:=by rw[Up];rfl
  rw[em];refine Vx.2 ⟨?_,Vq.2 ⟨(Vx.1 Pp).2,VZ _ _,?_⟩⟩
  ·intro y hy b hb QL;cases hb;rcases Um.1 hy with hy|hy
   ·obtain⟨x,hx,rfl⟩:=UI.1 hy;have:=(hold x hx _ QL).1;simp only[Ud]at this;omega
   ·rw[Uw]at hy;rw[hy]at QL;have:=(hnew _ QL).2;simp only[Ud,Ui,Ul]at this;omega
  ·intro y hy z hz b hb hzb;obtain⟨x,hx,rfl⟩:=UI.1 hy;rw[Uw]at hz;rw[hz]at hzb;have h1:=(hold x hx _ hb).1;have h2:=(hnew _ hzb).1;omega):A:=e
def z3{A:Prop} (e:A:=by
 refine WF.val (hvk _ (by repeat first|exact Ext.refl _|refine Ext.app _ ?_)) ?_;rintro _ g1 rfl;refine Wn ?_;refine WR.gj (h0:=h) (cs:=((L.take k).map F).map al) (ys:=[al (F L[k])]) ((((hfr.app _).app _).app _)) (Fr.push (N:=0) (UK _) [al (F L[k])] (by simp[al])).aM (by decide) (by simp) (by simp;omega) (by simp only[qi]) ?_;intro g' OJ hff hkp;have hrow:((L.take k).map F).map al++[al (F L[k])]=((L.take (k+1)).map F).map al:=by rw[U9,Uj hlt,Up,Up];rfl
 rw[hrow]at hff;rw[hrow];refine Ws (A6 @t1 @t5 @t8 @t9 @t10 (wrapN (show k+1<2^63 by omega))) ?_;refine⟨_,?_,k+1,_,by omega,rfl,hff,rfl,rfl⟩;omega):A:=e
def z4{A:Prop} (e:A:=by
 have e3:¬(k:Int)<L.length:=by omega
 have e4:k=L.length:=by omega
 refine Ws (A7 @t1 @t5 @t8 @t9 @t10 @e3 @Va) ?_;rw[e4,UU]at hfr;exact hfr):A:=e
def z5{A:Prop} (e:A:=by
 rw[hrow]at hff;rw[hrow];refine Ws (A6 @t1 @t5 @t8 @t9 @t10 (wrapN (show k+1<2^63 by omega))) ?_;refine⟨_,?_,k+1,_,by omega,rfl,hff,rfl,rfl⟩;omega):A:=e
def z6{A:Prop} (e:A:=by
 have PY:some i∈V.bl:=by rw[hd];exact gR hi
 refine hk i (hin i PY).2 (λe=>?_) (λe=>r.ne (e▸PY));obtain⟨h1,h2,h3⟩:=Vq.1 Pp;rcases hi with hi|hi
 ·exact h3 _ hi _ (by simp) i rfl e
 ·exact(Vx.1 h2).1 _ hi i e rfl):A:=e
def z7{A:Prop} (e:A:=by
 have hrow:V.aJ.map aP++[aP (y,t)]=(V.aJ++[(y,t)]).map aP:=by rw[Up];rfl
 rw[hrow]at hff;rw[hrow];have hbl:=r.lt;have OH:sB V.s3≠some b:=λe=>r.ne (by rw[<-e];simp[RV.bl])
 have hk1:∀i,i<(B++g).length->sB V.s3≠some i->(B++g')[i]? =(B++g)[i]? :=λi hi hne=>by
  rw[hkp i (by simp only[Ud]at hi ⊢;omega) (λb0 o n e he z=>hne (by rw[he,z];rfl))];exact(show Ext (B++g) _ from Xx).get hi
 have mB:(B++g')[b]? =some (.b V.row):=(hk1 b hbl OH).trans r.m;have QS:=λ(b' o n e:Nat)=>gy (i:=4) (v:=.slice b' o n e) mB rfl (by decide)
 refine Rs (A4 @t0 @t1 @QS @ee) ?_;refine EK r hff ?_ (λi hi=>by cases hi;exact .inr (by simp only[Ud];omega)) hk1 ?_ ?_
 ·refine Fr.low (N:=(B++g).length) ((show Fr (B++g).length _ t 1 _ from Px.app _).ay λi hi=>hkp i ?_ (λb0 o n e he z=>?_)) (by simp)
  ·have:=(Px.bL hi).2;simp only[Ud]at this ⊢;omega
  ·have h1:=(Px.bL hi).1;have h2:=(r.o.i3.bL (show sB V.s3=some i by rw[he,z];rfl)).2;omega
 ·intro i hi;have h1:=Px.bL hi;refine⟨h1.1,λe=>?_⟩;cases e;have:=h1.2;simp only[Ud,Ui,Ul]at this;omega
 ·rw[hy];simp[RV.aD,fZ]):A:=e
def z8{A:Prop} (e:A:=by
 rcases hn i hi with hn|hn
 ·exact .inl hn
 ·refine .inr ⟨λy hy e=>?_,λy hy e=>?_⟩
  ·subst e;have:=(hin i (by rw[hd];exact gR (.inl hy))).2;omega
  ·subst e;have:=(hin i (by rw[hd];exact gR (.inr hy))).2;omega):A:=e
def z9{A:Prop} (e:A:=by
 refine⟨own,r.hN,hm,λhb=>?_⟩;have hbl:=r.lt;have Qe:=r.ne;rw[hd]at Qe;by_cases hsb:sB s=some b
 ·rcases hn b hsb with z|z
  ·exact Qe (by rw[z];simp)
  ·omega
 ·by_cases htb:sB t=some b
  ·have:=(hnt b htb).1;omega
  ·have hsb':some b≠sB s:=λz=>hsb z.symm
   have htb':some b≠sB t:=λz=>htb z.symm
   simp only[RV.bl,Up,Vl,Ww,Um,UR,Vh,V3]at hb;simp only[Um,UR,Vh,V3]at Qe
   grind):A:=e
def Ho{A:Prop} (e:A:=by
 rw[hkp i (by simp only[Ud]at hi ⊢;omega) (λb0 o n e he z=>hne (by rw[he,z];rfl))];exact(show Ext (B++g) _ from Xx).get hi):A:=e
def NB{A:Prop} (e:A:=by
 by_cases hex:∃(x:Nat) (ox:bo),l[x]? =some ox/\listed.getD x false=true/\ox.dst=some t
 ·obtain⟨x,ox,hx,hxl,Q6⟩:=hex;obtain⟨oo,Qv,Rn⟩:=Pm x ox t hx Q6;have hxi:x<i:=by
   by_cases e1:x=i
   ·subst e1;rw[Ph]at hxl;cases hxl
   ·by_cases e2:x<i
    ·exact e2
    ·have e3:=(cG hsl (show i<x by omega) ho Qv).2 t Rn ht;have e4:=hcl x i hxl hin e3;rw[Ph]at e4;cases e4
  rw[OA (x+1) i t (by omega) (by omega) (λk o' a2 a3 a4 a5=>by have:=huniq x k ox o' t hx a4 Q6 a5;omega)];exact h2 t x ox hx hxl Q6
 ·rw[OA 0 i t (by omega) (by omega) (λk o' e2 e3 e4 e5=>by
   obtain⟨oo,Qv,OR⟩:=Pm k o' t e4 e5;have h6:=((cG hsl e3 Qv ho).1 t OR).2 ht;exact hex ⟨k,o',e4,hahead k (Uu.1 Qv).1 h6,e5⟩)]
  exact h1 t λj oj hj hl OR=>hex ⟨j,oj,hj,hl,OR⟩):A:=e
def z12{A:Prop} (e:A:=by
 refine⟨(fn.ay λj hj=>kp j (ln j hj).2 λe=>?_).low (by simp only[Ud];omega),(fv.ay λj hj=>kp j (lv j hj).2 λe=>?_).low (by simp only[Ud];omega),λj hj e=>?_,λj hj e=>?_⟩
 ·have h1:=(ln j hj).1;have h2:=hout j e;omega
 ·have h1:=(lv j hj).1;have h2:=hout j e;omega
 ·have h1:=(ln j hj).2;have h2:=PL j e;omega
 ·have h1:=(lv j hj).2;have h2:=PL j e;omega):A:=e
def y3{A:Prop} (e:A:=by
 exact⟨by simp[Op.equalIn,Ux hu],λl=>by simp,by simp,rfl,rfl⟩):A:=e
def NA{A:Prop} (e:A:=by
 have hlt:=(Ue.1 hx).1;have O3:t<a1.tmps.size:=by have:=hTl l.length (Uq _);omega
 have ex:(T l.length).getD t au=x:=by simp[List.getD,hx]
 have ey:a1.tmps.getD t undef=a1.tmps[t]:=by simp[UW,UZ O3]
 refine⟨a1.tmps[t],by simp,?_⟩;rw[<-ex,<-ey];by_cases hw:∃(j:Nat) (o:bo),l[j]? =some o/\o.dst=some t
 ·obtain⟨j,o,hj,ho⟩:=hw;have QP:=(Ue.1 hj).1;rw[OA (j+1) l.length t (by omega) (Uq _) (λk o' a2 a3 a4 a5=>by have:=huniq j k o o' t hj a4 ho a5;omega)];exact h2 t j o hj (hall j (by omega)) ho
 ·rw[OA 0 l.length t (by omega) (Uq _) (λk o' _ _ h4 h5=>hw ⟨k,o',h4,h5⟩)];exact h1 t λj o hj _ ho=>hw ⟨j,o,hj,ho⟩):A:=e
def Nz{A:Prop} (e:A:=by
 cases x with
 |agg l=>cases hx
 |dt l=>cases hx
 |bool b=>rw[VR]at h;subst h;rfl
 |int k n=>rw[VR]at h;subst h;rfl
 |uS k b=>rw[VR]at h;obtain⟨_,rfl,_⟩:=h;rfl
 |uE k x y=>rw[VR]at h;obtain⟨_,_,rfl,_⟩:=h;rfl
 |str s=>rw[VR]at h;subst h;rfl
 |ptr b o=>rw[VR]at h;obtain⟨_,_,rfl⟩:=h;rfl
 |nilPtr=>rw[VR]at h;subst h;rfl
 |slice b o n e=>rw[VR]at h;obtain⟨_,_,_,_,rfl,_⟩:=h;rfl
 |ah=>rw[VR]at h;subst h;rfl
 |map r=>rw[VR]at h;obtain⟨_,_,rfl⟩:=h;rfl
 |cQ=>rw[VR]at h;subst h;rfl
 |func f a c=>rw[VR]at h;obtain⟨_,_,_,rfl,_⟩:=h;rfl
 |nilFunc=>rw[VR]at h;subst h;rfl
 |sN u a=>rw[VR]at h;obtain⟨_,rfl,_⟩:=h;rfl
 |ju=>cases hx):A:=e
def Ny{A:Prop} (e:A:=by
 have e5:=wrapN (n:=k) (by omega);by_cases hp:L[k]=M[k]
 ·have q:decide (L[k]≠M[k])=false:=Uh (λz=>z hp);refine Rs (y9 @t0 @t1 @t5 @e3 hs.aS @ix @ld @iy @ly @q @e5) ?_;refine⟨_,by omega,k+1,by omega,rfl,?_,rfl⟩;rw[U9,U9,hi,Uj hlt,Uj O3,hp]
 ·have q:decide (L[k]≠M[k])=true:=Uk hp;refine Rs (uO @t0 @t1 @t5 @e3 hs.aS @ix @ld @iy @ly @q) ?_;exact UM AV.bool (Uh (λ(e:L=M)=>hp (by simp only[e]))).symm):A:=e
def Nx{A:Prop} (e:A:=by
 split at hk
 case isFalse=>cases hk
 rename_i hg;cases O1:flat P 20 t with
 |none=>simp[O1]at hk
 |some ks=>
  simp[O1]at hk;subst hk;have hb':xA ks (ρ x) (ρ y)=some b:=hb;unfold xA at hb';split at hb'
  case h_2=>cases hb'
  rename_i xs ys hxa PH;rw[hxa]at hx;rw[PH]at hy;obtain⟨lx,rfl,QO⟩:=hx;obtain⟨ly,rfl,QN⟩:=hy;split at hb'
  case isFalse=>cases hb'
  rename_i hlen;refine fin (ux hg) ?_ rfl rfl;exact zR 20 t ks O1 10000 (by omega) _ hu xs ys lx ly b hlen.1 hlen.2 QO QN hb' w):A:=e
def ze{A:Prop} (e:A:=by
 simp only[compile]at hc
 (repeat' split at hc)
 all_goals cases hc):A:=e
def Kn{A:Prop} (e:A:=by
 have:∀n,oX (Array.replicate ops.size false) n<=n:=by
  intro n
  induction n with
  |zero=>exact Uq _
  |succ n ihn=>simp only[oX];split<;>omega
 exact this _):A:=e
def z20{A:Prop} (e:A:=by
 cases hk;exact ed.lG hr (Es (w:=w) (ox:=x) (oy:=y) hk0 hx hy hs) (λcv h=>by simp only[execOp,ho];rw[Uy,h];rfl)):A:=e
def z21{A:Prop} (e:A:=by
 rcases hs.Lo with⟨rfl,rfl⟩|hq
 ·refine Ws @As ?_;exact .nil
 ·refine Ws @hq ?_;refine WR.JX (N:=h.length) bO (Uq _) (hs.ext (by repeat first|exact Ext.refl _|refine Ext.app _ ?_)) (by omega) λs' g hf=>?_
  refine Wn ?_;exact hf):A:=e
def KK{A:Prop} (e:A:=by
 obtain⟨xi,a1,a2⟩:=Pm i oi d hi h1;obtain⟨xj,b1,b2⟩:=Pm j oj d hj h2;by_cases hlt:i<j
 ·exact absurd b2 ((cG hsl hlt a1 b1).1 d a2).1
 ·by_cases Q0:j<i
  ·exact absurd a2 ((cG hsl Q0 b1 a1).1 d b2).1
  ·omega):A:=e
def KJ{A:Prop} (e:A:=by
 show 0+0+nc*i.size<=(vo++vn).length+rest.length;rw[Ud,OO,Pc,TB,Qa];have e1:nc*i.size=(n+k)*i.size+(nc-(n+k))*i.size:=by rw[<-Wm];congr 1;omega
 rw[Wm]at e1;simp;omega):A:=e
def z24{A:Prop} (e:A:=by
 rw[e]at hb;by_cases hsb:sB s=some b
 ·rcases hn b hsb with z|z
  ·exact Qe (by rw[z];simp)
  ·omega
 ·rcases tM hb with z|z|z
  ·exact Qe (gR (.inl z))
  ·exact hsb z.symm
  ·exact Qe (gR (.inr z))):A:=e
def KI{A:Prop} (e:A:=by
 have hlt:j<ops.size:=by have:=(Ue.1 hj).1;omega
 have ho:ops[j]? =some ops[j]:=UZ hlt;obtain⟨io',h1,h2⟩:=Ov j ops[j] (by simp);rw[hj]at h1;cases h1;exact⟨_,ho,h2⟩):A:=e
def Nw{A:Prop} (e:A:=by
 by_cases hxy:x<=y
 ·have:=QJ x (y-x) (by omega) (λj o h1 h2 h3=>by
   cases hk:bX o.k with
   |true=>rfl
   |false=>have:=hno j o h3 hk;omega)
  rw[show x+(y-x)=y from by omega]at this;exact this.symm
 ·have:=QJ y (x-y) (by omega) (λj o h1 h2 h3=>by
   cases hk:bX o.k with
   |true=>rfl
   |false=>have:=hno j o h3 hk;omega)
  rw[show y+(x-y)=x from by omega]at this;exact this):A:=e
def KH{A:Prop} (e:A:=by
 subst e;by_cases hsi:sB s=some i
 ·exact n2 hsi
 ·have:=(hin i (by rw[hd];simp only[Um,UR,Vh,V3]at hy ⊢;have hsi':some i≠sB s:=λz=>hsi z.symm;grind)).2;omega):A:=e
def z28{A:Prop} (e:A:=by
 obtain⟨e,he,hb,hor⟩:=(mw hed ho).2 x hx ha;have hle:=Su e he hb;rcases hor with rfl|hor
 ·exact hle
 ·exact hcl e.on x hle hx hor):A:=e
def Nv{A:Prop} (e:A:=by
 simp only[Oh]at hc;split at hc
 case h_2=>cases hc
 rename_i kt e x' i' y' hu Oo hi' hy';simp only[Uz]at hc;obtain⟨kk,hkk,rfl⟩:=hc;obtain⟨w',h1,rfl,h2,h3⟩:=Fq (w:=w) hu hkk hr (hρ x (by simp[Oh,Op.operands]) x' Oo) (hρ i (by simp[Oh,Op.operands]) i' hi') (hρ y (by simp[Oh,Op.operands]) y' hy') hs;exact⟨undef,w',m,.inr ⟨by simp[execOp,Oh,h1],rfl⟩,iV m,h2,h3⟩):A:=e
def KG{A:Prop} (e:A:=by
 rw[hp,Ur (by decide),UE]at OK;refine Ws (A6 @t1 @t5 @t8 @t9 @t10 (wrapN (show k+1<2^63 by omega))) ?_;refine⟨_,?_,k+1,out,by omega,rfl,by rw[OK];exact(hfr.app _).app _,rfl,rfl⟩;omega):A:=e
def z31{A:Prop} (e:A:=by
 have h1:=Px.bL hi;refine⟨h1.1,λe=>?_⟩;cases e;have:=h1.2;simp only[Ud,Ui,Ul]at this;omega):A:=e
def Nu{A:Prop} (e:A:=by
 rcases Oz b1 e1 h1 with⟨rfl,rfl⟩|⟨SW,Ra⟩
 ·rcases Oz b2 e2 h2 with⟨rfl,rfl⟩|⟨hl2,R4⟩
  ·exact absurd rfl hne
  ·exact absurd hcb.symm (hout b2 e2 R4)
 ·rcases Oz b2 e2 h2 with⟨rfl,rfl⟩|⟨hl2,R4⟩
  ·exact absurd hcb (hout b1 e1 Ra)
  ·rw[Ug SW]at hk1;rw[Ug hl2]at Oi;exact hr.sep b1 b2 e1 e2 k1 k2 hne Ra R4 hk1 Oi hcb):A:=e
def Km{A:Prop} (e:A:=by
 rw[cM (by omega)]at hj ⊢;split
 ·rfl
 ·split at hj
  ·rename_i hji;subst hji;exact hahead x hx ha
  ·exact hcl j x hj hx ha):A:=e
def KF{A:Prop} (e:A:=by
 have e3:¬(k:Int)<L.length:=by omega
 have e4:k=L.length:=by omega
 refine Ws (A7 @t1 @t5 @t8 @t9 @t10 @e3 @Va) ?_;rw[e4,UU]at hm;exact⟨L',hm,hfr,hin,Pp⟩):A:=e
def KE{A:Prop} (e:A:=by
 exact(show Ext (B++g) _ from Xx).get hi):A:=e
def KD{A:Prop} (e:A:=by
 cases On;rw[hv]at h1;have h1':=h1;obtain⟨f',a',c',h2,h3,_⟩:=h1;simp only[y0]at h3;subst h3;exact ed.same hr h1' (by simp[execOp,Oh,h2])):A:=e
def z37{A:Prop} (e:A:=by
 simp only[Ud,Ui,Ul]at this ⊢;omega):A:=e
def Nt{A:Prop} (e:A:=by
 simp only[Oh,Uz]at hc;obtain⟨x',Oo,rfl⟩:=hc;have On:cV (.dq x') ρ h=some (v,h'):=hs;simp only[cV,UG,WH]at On;obtain⟨rfl,rfl⟩:=On;exact ed.same hr (hρ x (by simp[Oh,Op.operands]) x' Oo) (by simp[execOp,Oh])):A:=e
def Ns{A:Prop} (e:A:=by
 have:=sK (T:=T) (t:=t) (a:=x) (y-x) (λj h1 h2=>by
  have hj:l[j]? =some (l[j]'(by omega)):=Uj (by omega);obtain⟨v,hv⟩:=PG j _ hj;exact⟨_,v,hv,hno j _ h1 (by omega) hj⟩)
 rwa [show x+(y-x)=y from by omega]at this):A:=e
def z40{A:Prop} (e:A:=by
 rename_i hm;cases h;rw[UH,UH]at hm;obtain⟨f,hf⟩:=Option.isSome_iff_exists.1 hm.1.2;have h1:=W7 hf;rw[UH]at h1;exact .inr (.inr ⟨l3,rfl,hq.2,⟨l,hl⟩,2,hl3,.inr ⟨f,h1.1,h1.2⟩,hm.2⟩)):A:=e
def Nr{A:Prop} (e:A:=by
 refine⟨_,w',m',room RK hlen Qc (by simp only[RN];rw[fV];exact h0),⟨_,_,cap,h1,rfl,RK,λ_=>?_,?_⟩,h2,h3⟩
 ·rw[RN];simp only[Addr.mk.injEq,Xc,and_true];omega
 ·show 0+(en.d+o)+cap*i.size<=en.sz;omega):A:=e
def Nq{A:Prop} (e:A:=by
 have On:S j=true:=by unfold mark at hs;rwa [Ur hji]at hs
 rw[cZ (huniq j o d hji hj ho)];refine VR.mono ?_ _ _ (M.wC d j o hj On ho);intro b e hb;unfold bH.da at hb ⊢;split at hb
 ·rename_i hlt;rw[Ut hlt];exact Qq _ _ hb
 ·cases hb):A:=e
def Np{A:Prop} (e:A:=by
 have e2:(#[]++(⟨[.string ⟨⟨s⟩⟩,.int .u8 (c.toNat:Int)]⟩:Array Value)++#[])=#[]++#[.string ⟨⟨s⟩⟩,.int .u8 (c.toNat:Int)]++#[]:=rfl;simp only[e2,e',Result.andThen];exact⟨_,m,rfl,rfl,hr,Grow.refl m h w hr.cD⟩):A:=e
def Kl{A:Prop} (e:A:=by
 cases hx:m h.length with
 |none=>rfl
 |some y=>exact absurd (hr.cD _ _ hx) (by omega)):A:=e
def Hn{A:Prop} (e:A:=by
 subst z;rcases hb' i hi with z|z
 ·exact OH z
 ·omega):A:=e
def z46{A:Prop} (e:A:=by
 have hj:l[x+k]? =some (l[x+k]'(by omega)):=Uj (by omega);rw[show x+(k+1)=x+k+1 from by omega,QI _ _ hj (hno _ _ (by omega) (by omega) hj)];exact ih (by omega) λj o h1 h2 h3=>hno j o h1 (by omega) h3):A:=e
def KC{A:Prop} (e:A:=by
 obtain⟨v,hv⟩:=PG j _ (Uj (show j<l.length by omega));rw[hv,lh];exact ih (by omega)):A:=e
def No{A:Prop} (e:A:=by
 split at hk
 case isFalse=>cases hk
 simp only[Uz]at hk;obtain⟨ks,_,rfl⟩:=hk;exact ed.lG hr (Es (w:=w) (ox:=x) (oy:=y) hk0 hx hy hs) (λcv h=>by simp only[execOp,ho];rw[Uy,h];rfl)):A:=e
def z49{A:Prop} (e:A:=by
 refine⟨e,ts,h'++[ai.dead]++g',λr hr=>?_,done e h' g' hl PF⟩;have:r=none:=hr;subst this;have:=Ev.ft (h:=h) (ps:=ps) (asg:=asg) (body:=body) hA hg hs (lq hl) bE;rw[pG hl]at this;exact this):A:=e
def Nn{A:Prop} (e:A:=by
 have d1:decide ((1000000:Int)<s.length)=true:=Uk (by omega);refine Rs (A2 @t0 @d1) ?_;exact⟨[],.ah,by rw[cH,Ut h6];rfl,by rw[cH,Ut h6],.nil,λx hx=>(by cases hx)⟩):A:=e
def z51{A:Prop} (e:A:=by
 rw[U9,Uj hlt,List.filter_append];congr 1;cases hp:p L[k]<;>simp[hp]):A:=e
def Nl{A:Prop} (e:A:=by
 refine xz hg Oo ?_ (λt Qb=>ht t ?_)
 ·exact UJ.1 hgok x (Array.mem_toList_iff.2 hx)
 ·subst Qb;exact List.mem_append_left _ (List.mem_filterMap.2 ⟨.tmp t,by simpa using hx,rfl⟩)):A:=e
def z53{A:Prop} (e:A:=by
 refine Rs (A2 @t0 @o1) ?_;refine WF.res T.c177 (r177 T (hx.ext Xx) (by simp;omega)) ?_;rintro s' g1 hf;have o2:=hf.aM.one;refine Rs (A3 @t0 @o1 @o2) ?_;exact⟨s',rfl,(Fr.swap hf (by simp)).low (by simp)⟩):A:=e
def Kk{A:Prop} (e:A:=by
 rw[Ur O0]at Oi;exact hr.sep b1 b2 e1 e2 k1 k2 hne PN OD hk1 Oi hcb):A:=e
def Nk{A:Prop} (e:A:=by
 have q:decide ((L.length:Int)≠M.length)=true:=Uk (by omega);refine Rs (A5 @t0 @t1 hs.aS ht.aS @q) ?_;exact UM AV.bool (Uh (λ(e:L=M)=>h1 (by rw[e]))).symm):A:=e
def Nj{A:Prop} (e:A:=by
 rw[dA]at hc;split at hc
 case isTrue hb=>exact absurd hc hb
 case isFalse hb=>
  unfold nB at hb;split at hb
  ·exact absurd (by decide) hb
  split at hb
  ·exact absurd (by decide) hb
  omega):A:=e
def KB{A:Prop} (e:A:=by
 obtain⟨h3,h4,h5⟩:=w.md x hx;exact⟨h3,h4,λt ht=>by rw[em];exact fO (h5 t ht)⟩):A:=e
def Kj{A:Prop} (e:A:=by
 rw[UW,Array.getElem?_replicate];split<;>rfl):A:=e
def z59{A:Prop} (e:A:=by
 have e3:=gG hlt;have e4:k=L.length:=by omega
 refine Rs (A5 @t0 @t1 @t5 @e3 hs.aS) ?_;rw[e4,UU,h1,UU]at hi;exact UM AV.bool (Uk hi).symm):A:=e
def KA{A:Prop} (e:A:=by
 obtain⟨o,h1,h2⟩:=RO j io hj;exact⟨o,h1,by rw[<- (cU h2).1];exact hd⟩):A:=e
def Ki{A:Prop} (e:A:=by
 by_cases e1:j=i
 ·subst e1;exact hlt
 ·rw[hne j e1];exact hl):A:=e
def Kz{A:Prop} (e:A:=by
 rw[Un (by simp;omega),Un (by simp;omega)];simp):A:=e
def Kh{A:Prop} (e:A:=by
 have:=zi (listed:=listed) (by omega) Ph ops.size hin;omega):A:=e
def Ni{A:Prop} (e:A:=by
 refine⟨λh1=>?_,λh1=>⟨l.length-(k+1),by omega,k+1,by omega,rfl,?_,rfl⟩⟩
 ·rw[hf,hd,aO,Ur h1]
 ·rw[hf,hd,aO,Ut (by omega)]):A:=e
def Ed{A:Prop} (e:A:=by
 exact Rs (A3 @t0 @t1 @t2) trivial):A:=e
def Nh{A:Prop} (e:A:=by
 rename_i cs;cases hl:cs.toList.mapM (kL n)with
 |none=>simp[hl]at h
 |some r=>simp[hl]at h;subst h;exact⟨cs.toList,rfl,tN m n (oJ m n) _ _ hl⟩):A:=e
def Ng{A:Prop} (e:A:=by
 unfold bH.add at Pz;by_cases hx:b=h.length
 ·rw[Ut hx]at Pz;cases Pz;exact .inl ⟨hx,rfl⟩
 ·rw[Ur hx]at Pz;exact .inr ⟨hr.cD _ _ Pz,Pz⟩):A:=e
def Nf{A:Prop} (e:A:=by
 simp only[DJ,DI,DH,G3,G4,DM,DL,DK,JS,JR,VD,Vp,ne_eq,UG,and_true];omega):A:=e
def Nd{A:Prop} (e:A:=by
 refine Rs (MT @t4 @t6 @t20 @t21 @t22 @e3 @ix @ld @e5 @l2 @l3 @bA @hO @lk @hb @mp @a4) ?_;exact⟨_,by omega,k+1,_,by omega,rfl,rfl,hnew,rfl⟩):A:=e
def z70{A:Prop} (e:A:=by
 show(R.aJ++[_]).length<=32;rw[Ud,Us];omega):A:=e
def Nc{A:Prop} (e:A:=by
 rw[az (e.some hg0)];have:cC x.ev 1=1\/cC x.ev 1=2\/cC x.ev 1=3\/cC x.ev 1=4:=by omega
 rcases this with z|z|z|z<;>rw[z]<;>rfl):A:=e
def z72{A:Prop} (e:A:=by
 cases hk:bX oj.k with
 |true=>exact .inl rfl
 |false=>
  cases Oi:jE oj with
  |true=>exact .inr rfl
  |false=>have:=hHh j oj h3 hk Oi;omega):A:=e
def Kg{A:Prop} (e:A:=by
 simp only[Ud,Us];omega):A:=e
def Nb{A:Prop} (e:A:=by
 refine Rs (A5 @u0 @u1 @u5 @u6 (wrapN (show k+1<2^63 by omega))) ?_;exact⟨s.length-(k+1),by omega,k+1,_,g2,by omega,rfl,rfl,Ua,rfl,rfl⟩):A:=e
def z75{A:Prop} (e:A:=by
 have hne:io.dst≠some d:=hd i io hio (by simp[mark]);rw[cZ hne];refine M.wD d λj o hj hs=>hd j o hj ?_
 unfold mark;split
 ·rfl
 ·exact hs):A:=e
def z76{A:Prop} (e:A:=by
 have d1:decide (n<10)=true:=Uk h10;refine Ws (A4 @d0 @d1 @sI @xI) ?_;rw[gJ,Lib.decDigits,dif_pos (by omega),xB h0 h10]):A:=e
def Na{A:Prop} (e:A:=by
 have e3:=iq hmo (show i<j by omega) hio hj SS (hrp hk) Rb (hld hk) (.inl ⟨PC,hk⟩);have e4:=hcl j i P2 hin e3;rw[Ph]at e4;cases e4):A:=e
def M9{A:Prop} (e:A:=by
 rw[VR]at ha hv ⊢;obtain⟨e,he,_⟩:=ha;obtain⟨e',Pd,hv⟩:=hv;exact⟨e',by unfold bH.da;rw[Ut (hd _ _ he)];exact Pd,hv⟩):A:=e
def M8{A:Prop} (e:A:=by
 simp only[aL,aR,bd,bf,Nat.reduceAdd,Nat.reduceMul,Nat.reduceLeDiff,Nat.reduceEqDiff,bj,hlen,UC,UD,t0,az hg.1]):A:=e
def z80{A:Prop} (e:A:=by
 simp only[Uf];refine Eh λe=>?_
 have:=(fv3.bL hj).1;simp only[Ud,Us]at this;omega):A:=e
def M7{A:Prop} (e:A:=by
 simp only[Uf];refine Eh λe=>?_
 have:=(fn3.bL hj).1;simp only[Ud,Us]at this;omega):A:=e
def M6{A:Prop} (e:A:=by
 have hl:=(Ue.1 this).1;rw[Uj hl]at this;rw[<-Vc this];exact Wx hl):A:=e
def M5{A:Prop} (e:A:=by
 split at hn
 case isFalse=>cases hn
 rename_i PM;subst PM;cases hn;obtain⟨e,rfl⟩:=hd;simp[Builtin.len_,Qd,Ux hu,goInt]):A:=e
def M4{A:Prop} (e:A:=by
 by_cases hab:a=b
 ·simp[c8,cR,hab,yO]
 ·have:(a==b)=false:=by simp[hab]
  simp[c8,cR,hab,yO,this]):A:=e
def z85{A:Prop} (e:A:=by
 rw[ei];refine Rs (A5 @t0 @t1 @ix @ld @on) ?_;exact⟨x,PY,sp,rfl⟩):A:=e
def M3{A:Prop} (e:A:=by
 simp only[UW,UZ (show i<listed.size by omega),Wt]at hl ⊢;exact hl):A:=e
def z87{A:Prop} (e:A:=by
 obtain⟨y,hy,rfl⟩:=UI.1 hx;have:=rR w.n2 (UP (f:=kM.name) (VQ.1 hy).1);omega):A:=e
def M1{A:Prop} (e:A:=by
 have Qw:(ps.map λ(i,x)=>(i,σ x)).toList=ps.toList.map λp=>(p.1,σ p.2):=by simp
 rw[Qw,Pr];simp[newRow]):A:=e
def M0{A:Prop} (e:A:=by
 by_cases hlt:j<i
 ·have:=PE (j+1) i (by omega) (by omega);omega
 ·have:=PE (i+1) j (by omega) (by omega);omega):A:=e
def MZ{A:Prop} (e:A:=by
 have e3:V.cI.length=V.bE.cI.length:=by simp[HV.bE]
 have e4:V.bE.cS.length=V.cS.length:=by simp[HV.bE]
 omega):A:=e
def z91{A:Prop} (e:A:=by
 split at h
 ·rename_i h1 h2 h3 h4;simp only at h1 h2 h3 h4;subst h1;subst h2;subst h3;subst h4;cases h;rfl
 ·cases h):A:=e
def Kf{A:Prop} (e:A:=by
 rw[bp m7'];exact fC hone (by simp)):A:=e
def z93{A:Prop} (e:A:=by
 exact Ws (A2 @hld @Pt) trivial):A:=e
def MY{A:Prop} (e:A:=by
 rw[VR]at ha hv ⊢;obtain⟨l1,_,h1⟩:=ha;obtain⟨l2,hv,h2⟩:=hv;exact⟨l2,hv,cw.cut hd l _ _ h1 h2⟩):A:=e
def MX{A:Prop} (e:A:=by
 rcases Um.1 hx with hx|hx
 ·exact w.ev x hx
 ·rw[Uw]at hx;subst hx;exact⟨d,we⟩):A:=e
def MW{A:Prop} (e:A:=by
 show 0+(du k z.cells).length<=row.size;rw[iE,hrs,hzl,UX];exact Vf _ hkn):A:=e
def MV{A:Prop} (e:A:=by
 have e1:decide (nB V.aD x.ev≠0)=true:=Uk hb;refine Rs (A3 @t0 @t1 @e1) ?_;rw[dA,Ut hb]):A:=e
def Ky{A:Prop} (e:A:=by
 rw[<-OR]at hx;exact e1 (huniq j i oj io d hj hio QD hx)):A:=e
def MU{A:Prop} (e:A:=by
 refine WF.ce T.c254 (Z.atoi OR.2 (by simp) (by omega)) λg2=>?_
 refine Rs @t0 ?_;unfold cT;rw[e1];rfl):A:=e
def Fa{A:Prop} (e:A:=by
 rw[hrow];exact fC rfl (by show 0+1<=5;omega)):A:=e
def Ic{A:Prop} (e:A:=by
 obtain⟨ma,va,h1,h2⟩:=h;exact⟨ma,va,λb e hb=>Vg (h1 b e hb) hnk,h2⟩):A:=e
def E9{A:Prop} (e:A:=by
 exact propext ⟨λz=>by omega,λz=>by omega⟩):A:=e
def BN{A:Prop} (e:A:=by
 simp only[RV.aD,Vz];rfl):A:=e
def Ib{A:Prop} (e:A:=by
 have hne:=hb' b 0 _ _ rfl;rw[<-U0 _ _ hN,U1 (Wy hne)]):A:=e
def z105{A:Prop} (e:A:=by
 rename_i hu;cases hf;exact⟨_,hu,λ_=>rfl⟩):A:=e
def Ia{A:Prop} (e:A:=by
 refine hall ?_;cases hy:cj s[k]with
 |false=>rfl
 |true=>have:=dx.1 hy;omega):A:=e
def z107{A:Prop} (e:A:=by
 rw[Oq];exact⟨L',_,rfl,rfl,(hfr.app g2).app _,λx hx=>((hin x hx).app g2).app _⟩):A:=e
def H9{A:Prop} (e:A:=by
 have a1:=hdom b e Pg;have a2:=fi hlen (i:=θ) (j:=j) (by omega) (by omega);omega):A:=e
def z109{A:Prop} (e:A:=by
 have:=st.ts.length;simpa using this):A:=e
def H8{A:Prop} (e:A:=by
 by_cases hil:i<k
 ·rw[Ut hil,Ut (by omega)]
 ·rw[Ur hil,Ur (by omega)]):A:=e
def H7{A:Prop} (e:A:=by
 subst he;rw[Ut rfl]at q4;simp only[US,UD];exact⟨h5,g5,rfl,h6,q4⟩):A:=e
def H6{A:Prop} (e:A:=by
 simp only[dM,o6,UG,AV.bool.injEq];by_cases hab:x=y<;>simp[hab]):A:=e
def H5{A:Prop} (e:A:=by
 rw[Un (by omega),Wv,Nat.add_sub_cancel' (by omega)]):A:=e
def BM{A:Prop} (e:A:=by
 exact fin (jz h2 h3) h1 h4 h5):A:=e
def H4{A:Prop} (e:A:=by
 exact UM AV.bool (bad (Bool.eq_false_iff.2 λz=>by have:=dx.1 z;omega))):A:=e
def z116{A:Prop} (e:A:=by
 simp only[stepT,lz,ow];cases val ts x with
 |func f a c=>cases f<;>rfl
 |_=>rfl):A:=e
def z117{A:Prop} (e:A:=by
 cases k2<;>first|trivial|exact absurd rfl hl):A:=e
def H3{A:Prop} (e:A:=by
 simp only[RV.bl,Um,UI];exact .inl (.inl (.inr ⟨x,hx,hb⟩))):A:=e
def z119{A:Prop} (e:A:=by
 exact(bad (by rw[OV];rfl) Xx).2):A:=e
def HZ{A:Prop} (e:A:=by
 refine Rs (A6 @t0 @t5 @t6 @t7 @e3 @e4) ?_;rw[Oq];exact⟨L',_,rfl,rfl,hfr,hin⟩):A:=e
def HY{A:Prop} (e:A:=by
 rcases Um.1 hx with hx|hx
 ·exact hs.aM.rows x hx
 ·exact hy.rows x hx):A:=e
def E8{A:Prop} (e:A:=by
 have:=hTl l.length (Uq _);simp;omega):A:=e
def HX{A:Prop} (e:A:=by
 refine WF.ce T.c15 (ha0 _ Xx) λg2=>?_
 refine Rs @t0 ?_;exact⟨e0.trans Xx,rfl⟩):A:=e
def z124{A:Prop} (e:A:=by
 cases hs with
 |nil=>exact .nil
 |mk hN hb he=>exact .mk hN ((hk _ rfl).trans hb) he):A:=e
def HW{A:Prop} (e:A:=by
 rw[Uf,Un (Uq _),Vb];rfl):A:=e
def HU{A:Prop} (e:A:=by
 rw[U0 _ _ (Uq _),Vb,Uf];rfl):A:=e
def z127{A:Prop} (e:A:=by
 simp only[RV.bl,Um,UI];exact .inl (.inr ⟨x,hx,hb⟩)):A:=e
def HT{A:Prop} (e:A:=by
 simp only[Uz]at hc;obtain⟨f,_,rfl⟩:=hc;exact hs.elim):A:=e
def HS{A:Prop} (e:A:=by
 exact⟨he,bad (Bool.eq_false_iff.2 λz=>by have:=dx.1 z;omega)⟩):A:=e
def z130{A:Prop} (e:A:=by
 rw[jS,<-Rm,UQ,Uj hlt];rfl):A:=e
def z131{A:Prop} (e:A:=by
 rw[Un hN,UY (by simp at hbl;omega)]):A:=e
def E7{A:Prop} (e:A:=by
 rw[em];exact w.n3.add (gn 0 (by decide)) f0):A:=e
def E6{A:Prop} (e:A:=by
 rw[ei];exact Rs (A4 @t0 @t1 @ix @ld) trivial):A:=e
def HQ{A:Prop} (e:A:=by
 rw[Uf (h++[ai.aN (j5 ds vf)]) g];exact K _ _ (s.put g1 hc)):A:=e
def HP{A:Prop} (e:A:=by
 have h2:(s.take k).length<=s.length:=by rw[U6];omega
 omega):A:=e
def HO{A:Prop} (e:A:=by
 cases P0:o.k<;>rw[P0]at hk<;>first|(cases hk;done)|simp[kR,P0]):A:=e
def HN{A:Prop} (e:A:=by
 rw[Rm];unfold nB at hb;split at hb
 ·cases hb
 split at hb
 ·cases hb
 omega):A:=e
def z138{A:Prop} (e:A:=by
 rw[UT];exact propext ⟨λz=>by omega,λz=>by omega⟩):A:=e
def z139{A:Prop} (e:A:=by
 cases ok
 ·exact Q7
 ·exact⟨_,rfl,_,_,rfl,Q7,_,_,rfl,rfl,rfl⟩):A:=e
def HM{A:Prop} (e:A:=by
 exact⟨hone,v,by rw[SX _ (by omega)];exact hv,VR.mono Qz _ _ Ok⟩):A:=e
def z141{A:Prop} (e:A:=by
 rw[<-lR];exact hF.ay λj hj=>ne j (by have:=hlo j hj;omega)):A:=e
def HL{A:Prop} (e:A:=by
 simp only[RV.bl,Um,UI];exact .inr ⟨x,hx,hb⟩):A:=e
def z143{A:Prop} (e:A:=by
 rw[<-vg];exact hF.ay λj hj=>ne j (by have:=hlo j hj;omega)):A:=e
def HK{A:Prop} (e:A:=by
 rw[Ud,Vn,Vn];omega):A:=e
def z145{A:Prop} (e:A:=by
 rw[Ur hbb]at ht;exact ht):A:=e
def z146{A:Prop} (e:A:=by
 subst hn;exact .of hmix hA (H (aQ A.nt [a0,a1,a2]) hl rfl rfl rfl)):A:=e
def HJ{A:Prop} (e:A:=by
 simp only[Ud,Ui,Ul];omega):A:=e
def z148{A:Prop} (e:A:=by
 rw[Uv];exact Vk (U7 _ _) w.l2):A:=e
def HI{A:Prop} (e:A:=by
 obtain⟨cv',m',rfl,h1,h2,h3⟩:=he;exact hn cv' m' w'' h1 h2 h3):A:=e
def HH{A:Prop} (e:A:=by
 exact⟨s.length-(k+1),by omega,k+1,by omega,rfl,rfl,rfl⟩):A:=e
def BL{A:Prop} (e:A:=by
 exact dl (by omega) (by omega)):A:=e
def z152{A:Prop} (e:A:=by
 simp only[FQ,D9,Ex.leaves,Xc];cases cL rs ts h<;>simp):A:=e
def HG{A:Prop} (e:A:=by
 rename_i hu;rw[hu]at Rf;cases Rf;cases hf;exact hone rfl rfl hu):A:=e
def z154{A:Prop} (e:A:=by
 refine⟨_,by omega,k+1,by omega,rfl,Sc.trans Xx,hu,rfl⟩):A:=e
def HF{A:Prop} (e:A:=by
 refine⟨_,by omega,k+1,by omega,rfl,Qb.trans Xx,hu,rfl⟩):A:=e
def z156{A:Prop} (e:A:=by
 have:=hlate j oj hj hk hjf (by omega);rw[P2]at this;cases this):A:=e
def z157{A:Prop} (e:A:=by
 simp only[WR,gL.app,U3,false_implies,Xc]):A:=e
def E5{A:Prop} (e:A:=by
 subst e1;rw[Ph]at P2;cases P2):A:=e
def z159{A:Prop} (e:A:=by
 rw[beq_eq_false_iff_ne];rintro rfl;exact absurd hc.1 (by decide)):A:=e
def z160{A:Prop} (e:A:=by
 refine Rs (A3 @t0 @t1 @ee) ?_;exact⟨g',V',rfl,h1,h2⟩):A:=e
def HE{A:Prop} (e:A:=by
 exact⟨_,by omega,k+1,by omega,rfl,hx.trans Xx,hi,rfl⟩):A:=e
def z162{A:Prop} (e:A:=by
 simp only[stepT,lz];cases dM op (val ts x) (val ts y)<;>rfl):A:=e
def HD{A:Prop} (e:A:=by
 simp only[RV.bl,l1,l2,e2,Uf,Vp]):A:=e
def z164{A:Prop} (e:A:=by
 subst hn;exact .of hmix hA (H (aQ A.nt [a0,a1]) hl rfl rfl)):A:=e
def HC{A:Prop} (e:A:=by
 subst h3;exact⟨cv,w,m,h1,h2,hr,Grow.refl m _ w hr.cD⟩):A:=e
def HB{A:Prop} (e:A:=by
 refine .run hw (by rw[hk];trivial) ?_;rw[hk];exact lL hs):A:=e
def z167{A:Prop} (e:A:=by
 exact⟨_,_,rfl,.inr ⟨GL hlt (by omega),by omega⟩⟩):A:=e
def z168{A:Prop} (e:A:=by
 exact⟨_,[],rfl,⟨.nil,λx hx=>by cases hx⟩,rfl⟩):A:=e
def HA{A:Prop} (e:A:=by
 simp only[We,U3,UC];omega):A:=e
def Hz{A:Prop} (e:A:=by
 exact jV (by rw[hTl];exact M.size) (VR.mono h1 _ _ hv)):A:=e
def z171{A:Prop} (e:A:=by
 subst z;have:=(hnt i hi).1;omega):A:=e
def E4{A:Prop} (e:A:=by
 exact(bad (by rw[hes];rfl) Xx).2):A:=e
def z173{A:Prop} (e:A:=by
 cases k<;>first|exact H|exact absurd ⟨_,_,rfl⟩ hc):A:=e
def Hy{A:Prop} (e:A:=by
 rw[aT]at hl;subst hl;cases hf;exact⟨cx,rfl,hx⟩):A:=e
def z175{A:Prop} (e:A:=by
 have:c=[]:=Vd.1 h;subst this;rfl):A:=e
end Go.Abs
