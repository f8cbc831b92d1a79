/- Ends of proofs that stand in more than one place. No condition. -/
import Derived.Tactics
set_option linter.all false
namespace Go.Abs
def Tg:=@List.length_append
def Th:=@List.getElem?_eq_some_iff
def Ti:=@List.append_assoc
def Tj:=@List.getElem?_append_left
def Tk:=@List.getElem?_eq_getElem
def Tl:=@List.length_cons
def Tm:=@decide_eq_false
def Tn:=@List.mem_append
def To:=@List.getElem?_append_right
def Tp:=@Result.andThen_ok
def Tq:=@decide_eq_true
def Tr:=@List.length_nil
def Ts:=@Nat.le_refl
def Tt:=@if_neg
def Tu:=@List.length_map
def Tw:=@Array.getElem?_eq_some_iff
def Tx:=@List.map_append
def Ty:=@if_pos
def Tz:=@run_underlying
def TA:=@Sem.run_bind
def TB:=@Option.map_eq_some_iff
def TC:=@List.length_singleton
def TD:=@List.mem_singleton
def TE:=@List.getElem_mem
def TF:=@List.getD_eq_getElem?_getD
def TG:=@Option.some.injEq
def TH:=@List.append_nil
def TI:=@List.mem_map
def TJ:=@Nat.zero_le
def TK:=@List.mem_cons_of_mem
def TL:=@Bool.and_eq_true
def TM:=@List.all_eq_true
def TN:=@Sem.run_pure
def TO:=@congrArg
def TP:=@List.mem_cons
def TQ:=@if_true
def TR:=@List.mem_map_of_mem
def TT:=@if_false
def TU:=@Bool.not_true
def TV:=@List.take_of_length_le
def TW:=@Bool.not_false
def TX:=@Array.getD_eq_getD_getElem?
def TZ:=@Nat.zero_add
def T0:=@List.mem_cons_self
def T2:=@List.getElem?_set_self
def T3:=@decide_eq_true_eq
def T4:=@Array.getElem?_eq_getElem
def T5:=@decide_true
def T6:=@List.mem_of_getElem?
def T7:=@List.take_length
def T8:=@Bool.false_eq_true
def T9:=@List.take_add_one
def Ua:=@List.getElem?_set_ne
def Ub:=@List.set_append_right
def Uc:=@List.length_filter_le
def Ud:=@List.mem_range
def Ue:=@Option.bind_eq_some_iff
def Uf:=@Nat.sub_self
def Ug:=@Option.some.inj
def Uh:=@Nat.lt_of_lt_of_le
def Ui:=@List.not_mem_nil
def Uj:=@Nat.mul_le_mul_right
def Uk:=@List.length_eq_zero_iff
def Ul:=@List.flatten_cons
def Um:=@List.length_set
def Un:=@List.map_cons
def Uo:=@List.getElem?_cons_zero
def Up:=@List.length_replicate
def Uq:=@decide_false
def Ur:=@Nat.le_trans
def Us:=@List.pairwise_append
def Ut:=@List.mem_of_mem_take
def Uu:=@List.cons_append
def Uv:=@Array.getElem?_setIfInBounds_self_of_lt
def Uw:=@Nat.succ_mul
def Ux:=@List.getElem_map
def Uy:=@List.pairwise_cons
def Uz:=@List.take_append_drop
def UA:=@List.getElem?_cons_succ
def UB:=@List.length_take
def UC:=@Bool.not_eq_true'
def UD:=@Array.getElem?_toList
def UE:=@List.getElem?_toArray
def UF:=@List.drop_zero
def UG:=@List.getElem?_map
def UH:=@of_decide_eq_true
def UI:=@eq_false
def UJ:=@Array.getElem?_eq_none
def UK:=@List.mem_filter
def UL:=@List.drop_drop
def UM:=@List.getLastD_eq_getLast?
def UN:=@List.replicate_succ
def UO:=@or_false
def UP:=@List.nil_append
def UQ:=@List.drop_length
def UR:=@List.any_eq_true
def US:=@Array.getElem?_setIfInBounds_ne
def UT:=@List.flatten_append
def UU:=@Bool.or_eq_true
def UW:=@decide_eq_decide
def UX:=@List.pairwise_singleton
def UY:=@decide_eq_false_iff_not
def UZ:=@List.append_cancel_left
def U0:=@Int.toNat_natCast
def U1:=@Decidable.not_not
def U3:=@Nat.min_eq_left
def U4:=@Option.map_some
def U5:=@List.set_getElem_self
def U6:=@List.getElem?_eq_none
def U7:=@List.map_map
def U8:=@Bool.false_ne_true
def U9:=@List.drop_eq_getElem_cons
def Va:=@List.mem_or_eq_of_mem_set
def Vb:=@List.flatten_replicate_singleton
def Vc:=@List.getElem?_take_of_lt
def Vd:=@Nat.zero_mul
def Ve:=@Option.bind_eq_bind
def Vf:=@List.take_succ_cons
def Vg:=@Nat.mul_one
def Vh:=@Array.length_toList
def Vi:=@Bool.false_or
def Vj:=@List.length_pos_iff
def Vk:=@Option.getD_some
def Vl:=@Ne.symm
def Vm:=@List.getElem?_drop
def Vn:=@Int.tmod_lt_of_pos
def Vo:=@Nat.add_mul
def Vp:=@Option.map_none
def Vq:=@List.filter_map
def Vr:=@List.getElem_set_self
def Vs:=@Prod.mk.injEq
def Vt:=@List.ext_getElem?
def Vu:=@List.all_cons
def Vv:=@Bool.true_and
def Vw:=@Function.comp_def
def Vx:=@List.mapM_cons
def Vy:=@List.length_drop
def Vz:=@List.mem_nil_iff
def VA:=@List.getElem_of_mem
def VB:=@List.replicate_zero
def VC:=@List.getElem_set_ne
def VD:=@Array.ext'
def VE:=@Nat.add_zero
def VF:=@List.find?_some
def VG:=@Option.pure_def
def VH:=@List.nodup_cons
def VI:=@Nat.le_succ
def VJ:=@true_and
def VK:=@eq_true
abbrev By:=List UInt8
def Tv:True:=trivial
def Om{A:Prop}(e:A:=by omega):A:=e
def De{A:Prop}(e:A:=by decide):A:=e
def Si{A:Prop}(e:A:=by simp):A:=e
def z1{A:Prop} (e:A:=by
 refine Ws hs.bh ?_;refine WL.inv T.mix (λn ts h'=>∃k:Nat,k<=L.length/\n=L.length-k/\Ext h h'/\L.findIdx? p=((L.drop k).findIdx? p).map (· +k)/\ts.length=19/\slot ts 0=s/\slot ts 1=f/\slot ts 7=.i L.length/\slot ts 8=.i k) L.length
  ⟨0,by omega,rfl,Ext.refl h,by simp,rfl,rfl,rfl,rfl,rfl⟩ ?_
 rintro _ ts _ ⟨k,hk,rfl,⟨g,rfl⟩,hi,hlen,t0,t1,t7,t8⟩;rw[ki ts 19 hlen];by_cases hlt:k<L.length
 ·have hd:L.drop k=L[k]::L.drop (k+1):=by simp
  have e3:(k:Int)<L.length:=by omega
  simp only[bx,bo,bL,bM,Nat.reduceAdd,Nat.reduceMul,Nat.reduceLeDiff,Nat.reduceEqDiff,t0,t1,t7,t8,e3,T5,hs.eX hlt,hs.lO hlt];refine WF.val (hf L[k] (by simp) _ ⟨g,rfl⟩) ?_;rintro _ g1 rfl;cases hp:p L[k]with
  |true=>
   refine Ws @t8 ?_;rw[dM,hi,hd,List.findIdx?_cons,hp];simp
  |false=>
   refine Ws (A2 @t8 (wrapN (show k+1<2^63 by omega))) ?_;refine⟨_,?_,k+1,by omega,rfl,?_,rfl⟩
   ·omega
   ·rw[hi,hd,List.findIdx?_cons,hp];simp only[T8,TT,Option.map_map];congr 1;funext i;simp only[Function.comp];omega
 ·have e3:¬(k:Int)<L.length:=by omega
  have e4:k=L.length:=by omega
  refine Ws (A6 @t0 @t1 @t7 @t8 @e3 @Uq) ?_;rw[dM,hi,e4,UQ];rfl):A:=e
def z2{A:Prop} (e:A:=by
 rw[hrow]at hff;rw[hrow];refine Ws (A6 @t1 @t5 @t8 @t9 @t10 (wrapN (show k+1<2^63 by omega))) ?_;have hout:∀b,sB out=some b->b<(h++g).length:=λb hb=>(hfr.bN hb).2
 have hnew:∀b,sB s' =some b->(h++g).length<=b/\b<(h++g).length+(1+g1.length):=λb hb=>by
  have:=Ri.bN hb;simp only[Tg,Tl,Tr]at this ⊢;omega
 have hold:∀x∈L',∀b,sB x.2=some b->b<(h++g).length/\sB out≠some b:=λx hx b hb=>by
  refine⟨((hin x hx).bN hb).2,λe=>?_⟩;exact(Uy.1 OH).1 _ (TR hx) b e hb
 refine⟨_,?_,k+1,_,L'++[(L[k].1,s')],by omega,rfl,?_,hff,?_,?_,rfl,rfl⟩
 ·omega
 ·rw[Tx,hm,T9,Tk hlt,Tx];rfl
 ·intro x hx;rcases Tn.1 hx with hx|hx
  ·refine((((hin x hx).app _).app _).app _).ay λb hb=>hkp b ?_ λb0 o n e hso=>?_
   ·have:=(hold x hx b hb).1;simp only[Tg]at this ⊢;omega
   ·intro e;subst e;exact(hold x hx b hb).2 (by rw[hso];rfl)
  ·rw[TD]at hx;subst hx;refine Fr.low (N:=(h++g++[ai.cells [] true true]).length) ?_ (by simp only[Tg];omega);refine Fr.ay (h:=_) ((Ri.app _).low ?_) λb hb=>hkp b ?_ λb0 o n e hso=>?_
   ·simp
   ·have:=hnew b hb;simp only[Tg,Tl,Tr]at this ⊢;omega
   ·intro e;subst e;have h1:=hout b (by rw[hso];rfl);have h2:=(hnew b hb).1;omega
 ·have em:(L'++[(L[k].1,s')]).map (λx=>sB x.2)=(L'.map λx=>sB x.2)++[sB s']:=by rw[Tx];rfl
  rw[em];refine Uy.2 ⟨?_,Us.2 ⟨(Uy.1 OH).2,UX _ _,?_⟩⟩
  ·intro y hy b hb PH;cases hb;rcases Tn.1 hy with hy|hy
   ·obtain⟨x,hx,rfl⟩:=TI.1 hy;have:=(hold x hx _ PH).1;simp only[Tg]at this;omega
   ·rw[TD]at hy;rw[hy]at PH;have:=(hnew _ PH).2;simp only[Tg,Tl,Tr]at this;omega
  ·intro y hy z hz b hb hzb;obtain⟨x,hx,rfl⟩:=TI.1 hy;rw[TD]at hz;rw[hz]at hzb;have h1:=(hold x hx _ hb).1;have h2:=(hnew _ hzb).1;omega):A:=e
def z3{A:Prop} (e:A:=by
 refine WF.val (hvk _ (by repeat first|exact Ext.refl _|refine Ext.app _ ?_)) ?_;rintro _ g1 rfl;refine Wn ?_;refine WR.fN (h0:=h) (cs:=((L.take k).map F).map an) (ys:=[an (F L[k])]) ((((hfr.app _).app _).app _)) (Fr.push (N:=0) (TJ _) [an (F L[k])] (by simp[an])).aN (by decide) (by simp) (by simp;omega) (by simp only[p4]) ?_;intro g' N1 hff hkp;have hrow:((L.take k).map F).map an++[an (F L[k])]=((L.take (k+1)).map F).map an:=by rw[T9,Tk hlt,Tx,Tx];rfl
 rw[hrow]at hff;rw[hrow];refine Ws (A6 @t1 @t5 @t8 @t9 @t10 (wrapN (show k+1<2^63 by omega))) ?_;refine⟨_,?_,k+1,_,by omega,rfl,hff,rfl,rfl⟩;omega):A:=e
def z4{A:Prop} (e:A:=by
 have e3:¬(k:Int)<L.length:=by omega
 have e4:k=L.length:=by omega
 refine Ws (A7 @t1 @t5 @t8 @t9 @t10 @e3 @Uq) ?_;rw[e4,T7]at hfr;exact hfr):A:=e
def z5{A:Prop} (e:A:=by
 rw[hrow]at hff;rw[hrow];refine Ws (A6 @t1 @t5 @t8 @t9 @t10 (wrapN (show k+1<2^63 by omega))) ?_;refine⟨_,?_,k+1,_,by omega,rfl,hff,rfl,rfl⟩;omega):A:=e
def z6{A:Prop} (e:A:=by
 have Pf:some i∈V.bl:=by rw[hd];exact fZ hi
 refine hk i (hin i Pf).2 (λe=>?_) (λe=>r.ne (e▸Pf));obtain⟨h1,h2,h3⟩:=Us.1 OH;rcases hi with hi|hi
 ·exact h3 _ hi _ (by simp) i rfl e
 ·exact(Uy.1 h2).1 _ hi i e rfl):A:=e
def z7{A:Prop} (e:A:=by
 have hrow:V.aI.map aL++[aL (y,t)]=(V.aI++[(y,t)]).map aL:=by rw[Tx];rfl
 rw[hrow]at hff;rw[hrow];have hbl:=r.lt;have NZ:sB V.s3≠some b:=λe=>r.ne (by rw[<-e];simp[RV.bl])
 have hk1:∀i,i<(B++g).length->sB V.s3≠some i->(B++g')[i]? =(B++g)[i]? :=λi hi hne=>by
  rw[hkp i (by simp only[Tg]at hi ⊢;omega) (λb0 o n e he z=>hne (by rw[he,z];rfl))];exact(show Ext (B++g) _ from Xx).get hi
 have mB:(B++g')[b]? =some (.b V.row):=(hk1 b hbl NZ).trans r.m;have Qb:=λ(b' o n e:Nat)=>fM (i:=4) (v:=.slice b' o n e) mB rfl (by decide)
 refine Rs (A4 @t0 @t1 @Qb @dI) ?_;refine DR r hff ?_ (λi hi=>by cases hi;exact .inr (by simp only[Tg];omega)) hk1 ?_ ?_
 ·refine Fr.low (N:=(B++g).length) ((show Fr (B++g).length _ t 1 _ from OQ.app _).ay λi hi=>hkp i ?_ (λb0 o n e he z=>?_)) (by simp)
  ·have:=(OQ.bN hi).2;simp only[Tg]at this ⊢;omega
  ·have h1:=(OQ.bN hi).1;have h2:=(r.o.i3.bN (show sB V.s3=some i by rw[he,z];rfl)).2;omega
 ·intro i hi;have h1:=OQ.bN hi;refine⟨h1.1,λe=>?_⟩;cases e;have:=h1.2;simp only[Tg,Tl,Tr]at this;omega
 ·rw[hy];simp[RV.aC,fC]):A:=e
def z8{A:Prop} (e:A:=by
 rcases hn i hi with hn|hn
 ·exact .inl hn
 ·refine .inr ⟨λy hy e=>?_,λy hy e=>?_⟩
  ·subst e;have:=(hin i (by rw[hd];exact fZ (.inl hy))).2;omega
  ·subst e;have:=(hin i (by rw[hd];exact fZ (.inr hy))).2;omega):A:=e
def z9{A:Prop} (e:A:=by
 refine⟨own,r.hN,hm,λhb=>?_⟩;have hbl:=r.lt;have Pv:=r.ne;rw[hd]at Pv;by_cases hsb:sB s=some b
 ·rcases hn b hsb with z|z
  ·exact Pv (by rw[z];simp)
  ·omega
 ·by_cases htb:sB t=some b
  ·have:=(hnt b htb).1;omega
  ·have hsb':some b≠sB s:=λz=>hsb z.symm
   have htb':some b≠sB t:=λz=>htb z.symm
   simp only[RV.bl,Tx,Un,List.map_nil,Tn,TP,Ui,UO]at hb;simp only[Tn,TP,Ui,UO]at Pv
   grind):A:=e
def Gt{A:Prop} (e:A:=by
 rw[hkp i (by simp only[Tg]at hi ⊢;omega) (λb0 o n e he z=>hne (by rw[he,z];rfl))];exact(show Ext (B++g) _ from Xx).get hi):A:=e
def M0{A:Prop} (e:A:=by
 by_cases hex:∃(x:Nat) (ox:aZ),l[x]? =some ox/\listed.getD x false=true/\ox.dst=some t
 ·obtain⟨x,ox,hx,hxl,Qr⟩:=hex;obtain⟨oo,PT,QB⟩:=OF x ox t hx Qr;have hxi:x<i:=by
   by_cases e1:x=i
   ·subst e1;rw[OC]at hxl;cases hxl
   ·by_cases e2:x<i
    ·exact e2
    ·have e3:=(cj hsl (show i<x by omega) ho PT).2 t QB ht;have e4:=hcl x i hxl hin e3;rw[OC]at e4;cases e4
  rw[NS (x+1) i t (by omega) (by omega) (λk o' a2 a3 a4 a5=>by have:=huniq x k ox o' t hx a4 Qr a5;omega)];exact h2 t x ox hx hxl Qr
 ·rw[NS 0 i t (by omega) (by omega) (λk o' e2 e3 e4 e5=>by
   obtain⟨oo,PT,N6⟩:=OF k o' t e4 e5;have h6:=((cj hsl e3 PT ho).1 t N6).2 ht;exact hex ⟨k,o',e4,hahead k (Tw.1 PT).1 h6,e5⟩)]
  exact h1 t λj oj hj hl N6=>hex ⟨j,oj,hj,hl,N6⟩):A:=e
def z12{A:Prop} (e:A:=by
 exact⟨by simp[Op.equalIn,Tz hu],λl=>by simp,by simp,rfl,rfl⟩):A:=e
def MZ{A:Prop} (e:A:=by
 have hlt:=(Th.1 hx).1;have Oh:t<a1.tmps.size:=by have:=hTl l.length (Ts _);omega
 have ex:(T l.length).getD t ar=x:=by simp[List.getD,hx]
 have ey:a1.tmps.getD t undef=a1.tmps[t]:=by simp[TX,T4 Oh]
 refine⟨a1.tmps[t],by simp,?_⟩;rw[<-ex,<-ey];by_cases hw:∃(j:Nat) (o:aZ),l[j]? =some o/\o.dst=some t
 ·obtain⟨j,o,hj,ho⟩:=hw;have QU:=(Th.1 hj).1;rw[NS (j+1) l.length t (by omega) (Ts _) (λk o' a2 a3 a4 a5=>by have:=huniq j k o o' t hj a4 ho a5;omega)];exact h2 t j o hj (hall j (by omega)) ho
 ·rw[NS 0 l.length t (by omega) (Ts _) (λk o' _ _ h4 h5=>hw ⟨k,o',h4,h5⟩)];exact h1 t λj o hj _ ho=>hw ⟨j,o,hj,ho⟩):A:=e
def MY{A:Prop} (e:A:=by
 cases x with
 |agg l=>cases hx
 |dh l=>cases hx
 |bool b=>rw[VR]at h;subst h;rfl
 |int k n=>rw[VR]at h;subst h;rfl
 |ug k b=>rw[VR]at h;obtain⟨_,rfl,_⟩:=h;rfl
 |tU k x y=>rw[VR]at h;obtain⟨_,_,rfl,_⟩:=h;rfl
 |str s=>rw[VR]at h;subst h;rfl
 |ptr b o=>rw[VR]at h;obtain⟨_,_,rfl⟩:=h;rfl
 |nilPtr=>rw[VR]at h;subst h;rfl
 |slice b o n e=>rw[VR]at h;obtain⟨_,_,_,_,rfl,_⟩:=h;rfl
 |ah=>rw[VR]at h;subst h;rfl
 |map r=>rw[VR]at h;obtain⟨_,_,rfl⟩:=h;rfl
 |cH=>rw[VR]at h;subst h;rfl
 |func f a c=>rw[VR]at h;obtain⟨_,_,_,rfl,_⟩:=h;rfl
 |nilFunc=>rw[VR]at h;subst h;rfl
 |rZ u a=>rw[VR]at h;obtain⟨_,rfl,_⟩:=h;rfl
 |iU=>cases hx):A:=e
def MX{A:Prop} (e:A:=by
 have e5:=wrapN (n:=k) (by omega);by_cases hp:L[k]=M[k]
 ·have q:decide (L[k]≠M[k])=false:=Tm (λz=>z hp);refine Rs (AZ @t0 @t1 @t5 @e3 hs.bh @ix @ld @iy @ly @q @e5) ?_;refine⟨_,by omega,k+1,by omega,rfl,?_,rfl⟩;rw[T9,T9,hi,Tk hlt,Tk Oh,hp]
 ·have q:decide (L[k]≠M[k])=true:=Tq hp;refine Rs (yD @t0 @t1 @t5 @e3 hs.bh @ix @ld @iy @ly @q) ?_;exact TO AV.bool (Tm (λ(e:L=M)=>hp (by simp only[e]))).symm):A:=e
def MW{A:Prop} (e:A:=by
 split at hk
 case isFalse=>cases hk
 rename_i hg;cases Of:flat P 20 t with
 |none=>simp[Of]at hk
 |some ks=>
  simp[Of]at hk;subst hk;have hb':wC ks (ρ x) (ρ y)=some b:=hb;unfold wC at hb';split at hb'
  case h_2=>cases hb'
  rename_i xs ys hxa O1;rw[hxa]at hx;rw[O1]at hy;obtain⟨lx,rfl,P8⟩:=hx;obtain⟨ly,rfl,P7⟩:=hy;split at hb'
  case isFalse=>cases hb'
  rename_i hlen;refine fin (tO hg) ?_ rfl rfl;exact zj 20 t ks Of 10000 (by omega) _ hu xs ys lx ly b hlen.1 hlen.2 P8 P7 hb' w):A:=e
def yH{A:Prop} (e:A:=by
 simp only[compile]at hc
 (repeat' split at hc)
 all_goals cases hc):A:=e
def JH{A:Prop} (e:A:=by
 have:∀n,oD (Array.replicate ops.size false) n<=n:=by
  intro n
  induction n with
  |zero=>exact Ts _
  |succ n ihn=>simp only[oD];split<;>omega
 exact this _):A:=e
def GI{A:Prop} (e:A:=by
 cases hk;exact dF.la hr (DB (w:=w) (ox:=x) (oy:=y) hk0 hx hy hs) (λcv h=>by simp only[execOp,ho];rw[TA,h];rfl)):A:=e
def z20{A:Prop} (e:A:=by
 rcases hs.KU with⟨rfl,rfl⟩|hq
 ·refine Ws @zJ ?_;exact .nil
 ·refine Ws @hq ?_;refine WR.AE (N:=h.length) bF (Ts _) (hs.ext (by repeat first|exact Ext.refl _|refine Ext.app _ ?_)) (by omega) λs' g hf=>?_
  refine Wn ?_;exact hf):A:=e
def z21{A:Prop} (e:A:=by
 obtain⟨xi,a1,a2⟩:=OF i oi d hi h1;obtain⟨xj,b1,b2⟩:=OF j oj d hj h2;by_cases hlt:i<j
 ·exact absurd b2 ((cj hsl hlt a1 b1).1 d a2).1
 ·by_cases Qk:j<i
  ·exact absurd a2 ((cj hsl Qk b1 a1).1 d b2).1
  ·omega):A:=e
def Kb{A:Prop} (e:A:=by
 show 0+0+nc*i.size<=(vo++vn).length+rest.length;rw[Tg,Oz,OJ,SH,Pr];have e1:nc*i.size=(n+k)*i.size+(nc-(n+k))*i.size:=by rw[<-Vo];congr 1;omega
 rw[Vo]at e1;simp;omega):A:=e
def Ka{A:Prop} (e:A:=by
 rw[e]at hb;by_cases hsb:sB s=some b
 ·rcases hn b hsb with z|z
  ·exact Pv (by rw[z];simp)
  ·omega
 ·rcases tq hb with z|z|z
  ·exact Pv (fZ (.inl z))
  ·exact hsb z.symm
  ·exact Pv (fZ (.inr z))):A:=e
def z24{A:Prop} (e:A:=by
 have hlt:j<ops.size:=by have:=(Th.1 hj).1;omega
 have ho:ops[j]? =some ops[j]:=T4 hlt;obtain⟨io',h1,h2⟩:=NO j ops[j] (by simp);rw[hj]at h1;cases h1;exact⟨_,ho,h2⟩):A:=e
def MV{A:Prop} (e:A:=by
 refine⟨(fn.ay λj hj=>kp j (ln j hj).2 λe=>?_).low (by simp only[Tg];omega),(fv.ay λj hj=>kp j (lv j hj).2 λe=>?_).low (by simp only[Tg];omega),λj hj e=>?_,λj hj e=>?_⟩
 ·have h1:=(ln j hj).1;have h2:=hout j e;omega
 ·have h1:=(lv j hj).1;have h2:=hout j e;omega
 ·have h1:=(ln j hj).2;have h2:=PU j e;omega
 ·have h1:=(lv j hj).2;have h2:=PU j e;omega):A:=e
def MU{A:Prop} (e:A:=by
 by_cases hxy:x<=y
 ·have:=P4 x (y-x) (by omega) (λj o h1 h2 h3=>by
   cases hk:bO o.k with
   |true=>rfl
   |false=>have:=hno j o h3 hk;omega)
  rw[show x+(y-x)=y from by omega]at this;exact this.symm
 ·have:=P4 y (x-y) (by omega) (λj o h1 h2 h3=>by
   cases hk:bO o.k with
   |true=>rfl
   |false=>have:=hno j o h3 hk;omega)
  rw[show y+(x-y)=x from by omega]at this;exact this):A:=e
def J9{A:Prop} (e:A:=by
 subst e;by_cases hsi:sB s=some i
 ·exact n2 hsi
 ·have:=(hin i (by rw[hd];simp only[Tn,TP,Ui,UO]at hy ⊢;have hsi':some i≠sB s:=λz=>hsi z.symm;grind)).2;omega):A:=e
def z28{A:Prop} (e:A:=by
 obtain⟨e,he,hb,hor⟩:=(lT hed ho).2 x hx ha;have hle:=RH e he hb;rcases hor with rfl|hor
 ·exact hle
 ·exact hcl e.on x hle hx hor):A:=e
def MT{A:Prop} (e:A:=by
 simp only[NF]at hc;split at hc
 case h_2=>cases hc
 rename_i kt e x' i' y' hu NL hi' hy';simp only[TB]at hc;obtain⟨kk,hkk,rfl⟩:=hc;obtain⟨w',h1,rfl,h2,h3⟩:=EA (w:=w) hu hkk hr (hρ x (by simp[NF,Op.operands]) x' NL) (hρ i (by simp[NF,Op.operands]) i' hi') (hρ y (by simp[NF,Op.operands]) y' hy') hs;exact⟨undef,w',m,.inr ⟨by simp[execOp,NF,h1],rfl⟩,iv m,h2,h3⟩):A:=e
def J8{A:Prop} (e:A:=by
 rw[hp,Tt (by decide),TH]at Oy;refine Ws (A6 @t1 @t5 @t8 @t9 @t10 (wrapN (show k+1<2^63 by omega))) ?_;refine⟨_,?_,k+1,out,by omega,rfl,by rw[Oy];exact(hfr.app _).app _,rfl,rfl⟩;omega):A:=e
def z31{A:Prop} (e:A:=by
 have h1:=OQ.bN hi;refine⟨h1.1,λe=>?_⟩;cases e;have:=h1.2;simp only[Tg,Tl,Tr]at this;omega):A:=e
def MS{A:Prop} (e:A:=by
 rcases NR b1 e1 h1 with⟨rfl,rfl⟩|⟨hl1,Qu⟩
 ·rcases NR b2 e2 h2 with⟨rfl,rfl⟩|⟨hl2,Rf⟩
  ·exact absurd rfl hne
  ·exact absurd hcb.symm (hout b2 e2 Rf)
 ·rcases NR b2 e2 h2 with⟨rfl,rfl⟩|⟨hl2,Rf⟩
  ·exact absurd hcb (hout b1 e1 Qu)
  ·rw[Tj hl1]at hk1;rw[Tj hl2]at NG;exact hr.sep b1 b2 e1 e2 k1 k2 hne Qu Rf hk1 NG hcb):A:=e
def JG{A:Prop} (e:A:=by
 rw[cE (by omega)]at hj ⊢;split
 ·rfl
 ·split at hj
  ·rename_i hji;subst hji;exact hahead x hx ha
  ·exact hcl j x hj hx ha):A:=e
def J7{A:Prop} (e:A:=by
 have e3:¬(k:Int)<L.length:=by omega
 have e4:k=L.length:=by omega
 refine Ws (A7 @t1 @t5 @t8 @t9 @t10 @e3 @Uq) ?_;rw[e4,T7]at hm;exact⟨L',hm,hfr,hin,OH⟩):A:=e
def J6{A:Prop} (e:A:=by
 exact(show Ext (B++g) _ from Xx).get hi):A:=e
def J5{A:Prop} (e:A:=by
 cases NI;rw[hv]at h1;have h1':=h1;obtain⟨f',a',c',h2,h3,_⟩:=h1;simp only[yv]at h3;subst h3;exact dF.same hr h1' (by simp[execOp,NF,h2])):A:=e
def z37{A:Prop} (e:A:=by
 simp only[Tg,Tl,Tr]at this ⊢;omega):A:=e
def MR{A:Prop} (e:A:=by
 simp only[NF,TB]at hc;obtain⟨x',NL,rfl⟩:=hc;have NI:cN (.dw x') ρ h=some (v,h'):=hs;simp only[cN,TG,Vs]at NI;obtain⟨rfl,rfl⟩:=NI;exact dF.same hr (hρ x (by simp[NF,Op.operands]) x' NL) (by simp[execOp,NF])):A:=e
def MQ{A:Prop} (e:A:=by
 have:=rW (T:=T) (t:=t) (a:=x) (y-x) (λj h1 h2=>by
  have hj:l[j]? =some (l[j]'(by omega)):=Tk (by omega);obtain⟨v,hv⟩:=O0 j _ hj;exact⟨_,v,hv,hno j _ h1 (by omega) hj⟩)
 rwa [show x+(y-x)=y from by omega]at this):A:=e
def z40{A:Prop} (e:A:=by
 rename_i hm;cases h;rw[TL,TL]at hm;obtain⟨f,hf⟩:=Option.isSome_iff_exists.1 hm.1.2;have h1:=VF hf;rw[TL]at h1;exact .inr (.inr ⟨l3,rfl,hq.2,⟨l,hl⟩,2,Rg,.inr ⟨f,h1.1,h1.2⟩,hm.2⟩)):A:=e
def MP{A:Prop} (e:A:=by
 refine⟨_,w',m',room QX hlen Pt (by simp only[QZ];rw[fx];exact h0),⟨_,_,cap,h1,rfl,QX,λ_=>?_,?_⟩,h2,h3⟩
 ·rw[QZ];simp only[Addr.mk.injEq,VJ,and_true];omega
 ·show 0+(en.d+o)+cap*i.size<=en.sz;omega):A:=e
def MO{A:Prop} (e:A:=by
 have NI:S j=true:=by unfold mark at hs;rwa [Tt hji]at hs
 rw[cR (huniq j o d hji hj ho)];refine VR.mono ?_ _ _ (M.vO d j o hj NI ho);intro b e hb;unfold bA.cU at hb ⊢;split at hb
 ·rename_i hlt;rw[Ty hlt];exact PL _ _ hb
 ·cases hb):A:=e
def MN{A:Prop} (e:A:=by
 have e2:(#[]++(⟨[.string ⟨⟨s⟩⟩,.int .u8 (c.toNat:Int)]⟩:Array Value)++#[])=#[]++#[.string ⟨⟨s⟩⟩,.int .u8 (c.toNat:Int)]++#[]:=rfl;simp only[e2,e',Result.andThen];exact⟨_,m,rfl,rfl,hr,Grow.refl m h w hr.bZ⟩):A:=e
def JF{A:Prop} (e:A:=by
 cases hx:m h.length with
 |none=>rfl
 |some y=>exact absurd (hr.bZ _ _ hx) (by omega)):A:=e
def Gs{A:Prop} (e:A:=by
 subst z;rcases hb' i hi with z|z
 ·exact NZ z
 ·omega):A:=e
def z46{A:Prop} (e:A:=by
 have hj:l[x+k]? =some (l[x+k]'(by omega)):=Tk (by omega);rw[show x+(k+1)=x+k+1 from by omega,P3 _ _ hj (hno _ _ (by omega) (by omega) hj)];exact ih (by omega) λj o h1 h2 h3=>hno j o h1 (by omega) h3):A:=e
def J0{A:Prop} (e:A:=by
 obtain⟨v,hv⟩:=O0 j _ (Tk (show j<l.length by omega));rw[hv,kO];exact ih (by omega)):A:=e
def MM{A:Prop} (e:A:=by
 split at hk
 case isFalse=>cases hk
 simp only[TB]at hk;obtain⟨ks,_,rfl⟩:=hk;exact dF.la hr (DB (w:=w) (ox:=x) (oy:=y) hk0 hx hy hs) (λcv h=>by simp only[execOp,ho];rw[TA,h];rfl)):A:=e
def z49{A:Prop} (e:A:=by
 refine⟨e,ts,h'++[ai.dead]++g',λr hr=>?_,done e h' g' hl OZ⟩;have:r=none:=hr;subst this;have:=Ev.eM (h:=h) (ps:=ps) (asg:=asg) (body:=body) hA hg hs (kT hl) bp;rw[pk hl]at this;exact this):A:=e
def JZ{A:Prop} (e:A:=by
 rw[T9,Tk hlt,List.filter_append];congr 1;cases hp:p L[k]<;>simp[hp]):A:=e
def z51{A:Prop} (e:A:=by
 refine wB hg NL ?_ (λt Ps=>ht t ?_)
 ·exact TM.1 hgok x (Array.mem_toList_iff.2 hx)
 ·subst Ps;exact List.mem_append_left _ (List.mem_filterMap.2 ⟨.tmp t,by simpa using hx,rfl⟩)):A:=e
def ML{A:Prop} (e:A:=by
 refine Rs (A2 @t0 @o1) ?_;refine WF.res T.c177 (r177 T (hx.ext Xx) (by simp;omega)) ?_;rintro s' g1 hf;have o2:=hf.aN.one;refine Rs (A3 @t0 @o1 @o2) ?_;exact⟨s',rfl,(Fr.swap hf (by simp)).low (by simp)⟩):A:=e
def z53{A:Prop} (e:A:=by
 rw[Tt Ol]at NG;exact hr.sep b1 b2 e1 e2 k1 k2 hne O5 NV hk1 NG hcb):A:=e
def MK{A:Prop} (e:A:=by
 have q:decide ((L.length:Int)≠M.length)=true:=Tq (by omega);refine Rs (A5 @t0 @t1 hs.bh ht.bh @q) ?_;exact TO AV.bool (Tm (λ(e:L=M)=>h1 (by rw[e]))).symm):A:=e
def MJ{A:Prop} (e:A:=by
 rw[cX]at hc;split at hc
 case isTrue hb=>exact absurd hc hb
 case isFalse hb=>
  unfold jv at hb;split at hb
  ·exact absurd (by decide) hb
  split at hb
  ·exact absurd (by decide) hb
  omega):A:=e
def JY{A:Prop} (e:A:=by
 obtain⟨h3,h4,h5⟩:=w.md x hx;exact⟨h3,h4,λt ht=>by rw[em];exact fj (h5 t ht)⟩):A:=e
def JE{A:Prop} (e:A:=by
 rw[TX,Array.getElem?_replicate];split<;>rfl):A:=e
def MI{A:Prop} (e:A:=by
 have e3:=jf hlt;have e4:k=L.length:=by omega
 refine Rs (A5 @t0 @t1 @t5 @e3 hs.bh) ?_;rw[e4,T7,h1,T7]at hi;exact TO AV.bool (Tq hi).symm):A:=e
def z59{A:Prop} (e:A:=by
 obtain⟨o,h1,h2⟩:=Q0 j io hj;exact⟨o,h1,by rw[<- (cM h2).1];exact hd⟩):A:=e
def JD{A:Prop} (e:A:=by
 by_cases e1:j=i
 ·subst e1;exact hlt
 ·rw[hne j e1];exact hl):A:=e
def JX{A:Prop} (e:A:=by
 rw[To (by simp;omega),To (by simp;omega)];simp):A:=e
def JC{A:Prop} (e:A:=by
 have:=yK (listed:=listed) (by omega) OC ops.size hin;omega):A:=e
def Dq{A:Prop} (e:A:=by
 exact Rs (A3 @t0 @t1 @t2) trivial):A:=e
def MH{A:Prop} (e:A:=by
 rename_i cs;cases hl:cs.toList.mapM (kj n)with
 |none=>simp[hl]at h
 |some r=>simp[hl]at h;subst h;exact⟨cs.toList,rfl,tr m n (om m n) _ _ hl⟩):A:=e
def MG{A:Prop} (e:A:=by
 unfold bA.add at OS;by_cases hx:b=h.length
 ·rw[Ty hx]at OS;cases OS;exact .inl ⟨hx,rfl⟩
 ·rw[Tt hx]at OS;exact .inr ⟨hr.bZ _ _ OS,OS⟩):A:=e
def MF{A:Prop} (e:A:=by
 simp only[CR,CQ,CP,Ga,Gb,CV,CU,CS,Jg,Jf,UP,Uu,ne_eq,TG,and_true];omega):A:=e
def ME{A:Prop} (e:A:=by
 refine Rs (JO @t4 @t6 @t20 @t21 @t22 @e3 @ix @ld @e5 @l2 @l3 @bn @gy @lk @hb @mp @a4) ?_;exact⟨_,by omega,k+1,_,by omega,rfl,rfl,hnew,rfl⟩):A:=e
def JW{A:Prop} (e:A:=by
 show(R.aI++[_]).length<=32;rw[Tg,TC];omega):A:=e
def MD{A:Prop} (e:A:=by
 rw[az (e.some hg0)];have:bW x.ev 1=1\/bW x.ev 1=2\/bW x.ev 1=3\/bW x.ev 1=4:=by omega
 rcases this with z|z|z|z<;>rw[z]<;>rfl):A:=e
def z70{A:Prop} (e:A:=by
 cases hk:bO oj.k with
 |true=>exact .inl rfl
 |false=>
  cases NG:jk oj with
  |true=>exact .inr rfl
  |false=>have:=hHh j oj h3 hk NG;omega):A:=e
def MC{A:Prop} (e:A:=by
 have hne:io.dst≠some d:=hd i io hio (by simp[mark]);rw[cR hne];refine M.vP d λj o hj hs=>hd j o hj ?_
 unfold mark;split
 ·rfl
 ·exact hs):A:=e
def z72{A:Prop} (e:A:=by
 have d1:decide (n<10)=true:=Tq h10;refine Ws (A4 @d0 @d1 @rT @wM) ?_;rw[jh,Lib.decDigits,dif_pos (by omega),wD h0 h10]):A:=e
def MB{A:Prop} (e:A:=by
 have e3:=gD hmo (show i<j by omega) hio hj R6 (hrp hk) Px (hld hk) (.inl ⟨OW,hk⟩);have e4:=hcl j i Ph hin e3;rw[OC]at e4;cases e4):A:=e
def MA{A:Prop} (e:A:=by
 rw[VR]at ha hv ⊢;obtain⟨e,he,_⟩:=ha;obtain⟨e',Ox,hv⟩:=hv;exact⟨e',by unfold bA.cU;rw[Ty (hd _ _ he)];exact Ox,hv⟩):A:=e
def z75{A:Prop} (e:A:=by
 simp only[bx,bo,bL,bM,Nat.reduceAdd,Nat.reduceMul,Nat.reduceLeDiff,Nat.reduceEqDiff,bP,hlen,TT,TQ,t0,az hg.1]):A:=e
def z76{A:Prop} (e:A:=by
 have hl:=(Th.1 this).1;rw[Tk hl]at this;rw[<-Ug this];exact U5 hl):A:=e
def Mz{A:Prop} (e:A:=by
 split at hn
 case isFalse=>cases hn
 rename_i PJ;subst PJ;cases hn;obtain⟨e,rfl⟩:=hd;simp[Builtin.len_,Pu,Tz hu,goInt]):A:=e
def JV{A:Prop} (e:A:=by
 refine WF.ce T.c15 (ha _ Xx) λg=>?_
 refine Rs @t0 ?_;exact⟨Xx,rfl⟩):A:=e
def My{A:Prop} (e:A:=by
 by_cases hab:a=b
 ·simp[cL,cJ,hab,yk]
 ·have:(a==b)=false:=by simp[hab]
  simp[cL,cJ,hab,yk,this]):A:=e
def z80{A:Prop} (e:A:=by
 rw[ei];refine Rs (A5 @t0 @t1 @ix @ld @on) ?_;exact⟨x,Pf,sp,rfl⟩):A:=e
def Mx{A:Prop} (e:A:=by
 simp only[TX,T4 (show i<listed.size by omega),Vk]at hl ⊢;exact hl):A:=e
def JU{A:Prop} (e:A:=by
 rw[Ty h0];refine Rs (A4 @t0 @t1 @st @q) ?_;exact⟨_,rfl,.nil⟩):A:=e
def Mw{A:Prop} (e:A:=by
 obtain⟨y,hy,rfl⟩:=TI.1 hx;have:=rq w.n2 (TR (f:=km.name) (UK.1 hy).1);omega):A:=e
def Mv{A:Prop} (e:A:=by
 have QO:(ps.map λ(i,x)=>(i,σ x)).toList=ps.toList.map λp=>(p.1,σ p.2):=by simp
 rw[QO,OL];simp[newRow]):A:=e
def z85{A:Prop} (e:A:=by
 by_cases hlt:j<i
 ·have:=OY (j+1) i (by omega) (by omega);omega
 ·have:=OY (i+1) j (by omega) (by omega);omega):A:=e
def Mu{A:Prop} (e:A:=by
 have e3:V.cp.length=V.bp.cp.length:=by simp[HV.bp]
 have e4:V.bp.cI.length=V.cI.length:=by simp[HV.bp]
 omega):A:=e
def z87{A:Prop} (e:A:=by
 split at h
 ·rename_i h1 h2 h3 h4;simp only at h1 h2 h3 h4;subst h1;subst h2;subst h3;subst h4;cases h;rfl
 ·cases h):A:=e
def Gr{A:Prop} (e:A:=by
 exact Ws (A2 @hld @OO) trivial):A:=e
def Mt{A:Prop} (e:A:=by
 rw[iF,Tt h1,h2,Tt (λz=>z rfl)];simp only[cX];rw[h3,Tt (λz=>z rfl),h4,Tt (by omega)]):A:=e
def Ms{A:Prop} (e:A:=by
 rw[VR]at ha hv ⊢;obtain⟨l1,_,h1⟩:=ha;obtain⟨l2,hv,h2⟩:=hv;exact⟨l2,hv,bY.cut hd l _ _ h1 h2⟩):A:=e
def z91{A:Prop} (e:A:=by
 rcases Tn.1 hx with hx|hx
 ·exact w.ev x hx
 ·rw[TD]at hx;subst hx;exact⟨d,we⟩):A:=e
def Mr{A:Prop} (e:A:=by
 show 0+(cZ k z.cells).length<=row.size;rw[gN,hrs,hzl,TZ];exact Uj _ hkn):A:=e
def z93{A:Prop} (e:A:=by
 have e1:decide (jv V.aC x.ev≠0)=true:=Tq hb;refine Rs (A3 @t0 @t1 @e1) ?_;rw[cX,Ty hb]):A:=e
def Mq{A:Prop} (e:A:=by
 unfold jv;rw[Tt (by show ¬false=true;simp)];rw[Tt (by show ¬(S.length:Int)<=(q:Int);omega)]):A:=e
def JT{A:Prop} (e:A:=by
 rw[<-N6]at hx;exact e1 (huniq j i oj io d hj hio Ql hx)):A:=e
def Mp{A:Prop} (e:A:=by
 refine WF.ce T.c254 (Z.atoi N6.2 (by simp) (by omega)) λg2=>?_
 refine Rs @t0 ?_;unfold ju;rw[e1];rfl):A:=e
def JS{A:Prop} (e:A:=by
 show 1<=(n:Int)+1/\(n:Int)+1<=1000;omega):A:=e
def Mo{A:Prop} (e:A:=by
 obtain⟨ma,va,h1,h2⟩:=h;exact⟨ma,va,λb e hb=>Uh (h1 b e hb) hnk,h2⟩):A:=e
def JR{A:Prop} (e:A:=by
 exact propext ⟨λz=>by omega,λz=>by omega⟩):A:=e
def Bc{A:Prop} (e:A:=by
 simp only[RV.aC,Ux];rfl):A:=e
def Hh{A:Prop} (e:A:=by
 have hne:=hb' b 0 _ _ rfl;rw[<-Ub _ _ hN,Ua (Vl hne)]):A:=e
def Ei{A:Prop} (e:A:=by
 rename_i hu;cases hf;exact⟨_,hu,λ_=>rfl⟩):A:=e
def Hg{A:Prop} (e:A:=by
 refine hall ?_;cases hy:fa s[k]with
 |false=>rfl
 |true=>have:=jg.1 hy;omega):A:=e
def Hf{A:Prop} (e:A:=by
 have a1:=hdom b e OB;have a2:=eI hlen (i:=θ) (j:=j) (by omega) (by omega);omega):A:=e
def z105{A:Prop} (e:A:=by
 have:=st.ts.length;simpa using this):A:=e
def He{A:Prop} (e:A:=by
 by_cases hil:i<k
 ·rw[Ty hil,Ty (by omega)]
 ·rw[Tt hil,Tt (by omega)]):A:=e
def z107{A:Prop} (e:A:=by
 subst he;rw[Ty rfl]at q4;simp only[T5,TQ];exact⟨h5,g5,rfl,h6,q4⟩):A:=e
def Hd{A:Prop} (e:A:=by
 simp only[dm,oG,TG,AV.bool.injEq];by_cases hab:x=y<;>simp[hab]):A:=e
def z109{A:Prop} (e:A:=by
 rw[To (by omega),Vm,Nat.add_sub_cancel' (by omega)]):A:=e
def Bb{A:Prop} (e:A:=by
 exact fin (jc h2 h3) h1 h4 h5):A:=e
def Hc{A:Prop} (e:A:=by
 simp only[stepT,kX,nV];cases val ts x with
 |func f a c=>cases f<;>rfl
 |_=>rfl):A:=e
def Eh{A:Prop} (e:A:=by
 cases k2<;>first|trivial|exact absurd rfl hl):A:=e
def Ha{A:Prop} (e:A:=by
 simp only[RV.bl,Tn,TI];exact .inl (.inl (.inr ⟨x,hx,hb⟩))):A:=e
def G9{A:Prop} (e:A:=by
 rcases Tn.1 hx with hx|hx
 ·exact hs.aN.rows x hx
 ·exact hy.rows x hx):A:=e
def Eg{A:Prop} (e:A:=by
 have:=hTl l.length (Ts _);simp;omega):A:=e
def z116{A:Prop} (e:A:=by
 cases hs with
 |nil=>exact .nil
 |mk hN hb he=>exact .mk hN ((hk _ rfl).trans hb) he):A:=e
def z117{A:Prop} (e:A:=by
 rw[Ti,To (Ts _),Uf];rfl):A:=e
def G8{A:Prop} (e:A:=by
 rw[Ub _ _ (Ts _),Uf,Ti];rfl):A:=e
def z119{A:Prop} (e:A:=by
 simp only[RV.bl,Tn,TI];exact .inl (.inr ⟨x,hx,hb⟩)):A:=e
def G7{A:Prop} (e:A:=by
 simp only[TB]at hc;obtain⟨f,_,rfl⟩:=hc;exact hs.elim):A:=e
def G6{A:Prop} (e:A:=by
 rw[iw,<-PI,TF,Tk hlt];rfl):A:=e
def G5{A:Prop} (e:A:=by
 rw[To hN,T2 (by simp at hbl;omega)]):A:=e
def G4{A:Prop} (e:A:=by
 simp only[Lit.wf,TL,T3]at h;exact⟨h.1,h.2⟩):A:=e
def z124{A:Prop} (e:A:=by
 rw[em];exact w.n3.add (gn 0 (by decide)) f0):A:=e
def Ef{A:Prop} (e:A:=by
 rw[ei];exact Rs (A4 @t0 @t1 @ix @ld) trivial):A:=e
def G3{A:Prop} (e:A:=by
 rw[Ti (h++[ai.aK (jI ds vf)]) g];exact K _ _ (s.put g1 hc)):A:=e
def z127{A:Prop} (e:A:=by
 cases Pg:o.k<;>rw[Pg]at hk<;>first|(cases hk;done)|simp[kC,Pg]):A:=e
def G2{A:Prop} (e:A:=by
 rw[PI];unfold jv at hb;split at hb
 ·cases hb
 split at hb
 ·cases hb
 omega):A:=e
def G1{A:Prop} (e:A:=by
 rw[T3];exact propext ⟨λz=>by omega,λz=>by omega⟩):A:=e
def z130{A:Prop} (e:A:=by
 cases ok
 ·exact Qs
 ·exact⟨_,rfl,_,_,rfl,Qs,_,_,rfl,rfl,rfl⟩):A:=e
def z131{A:Prop} (e:A:=by
 exact⟨hone,v,by rw[Sa _ (by omega)];exact hv,VR.mono PW _ _ NH⟩):A:=e
def G0{A:Prop} (e:A:=by
 rw[<-lE];exact hF.ay λj hj=>ne j (by have:=hlo j hj;omega)):A:=e
def GZ{A:Prop} (e:A:=by
 simp only[RV.bl,Tn,TI];exact .inr ⟨x,hx,hb⟩):A:=e
def GY{A:Prop} (e:A:=by
 rw[Tg,Up,Up];omega):A:=e
def Ba{A:Prop} (e:A:=by
 rw[Tt hbb]at ht;exact ht):A:=e
def GX{A:Prop} (e:A:=by
 subst hn;exact .of hmix hA (H (aM A.nt [a0,a1,a2]) hl rfl rfl rfl)):A:=e
def GW{A:Prop} (e:A:=by
 simp only[Tg,Tl,Tr];omega):A:=e
def z138{A:Prop} (e:A:=by
 rw[Tu];exact Ur (Uc _ _) w.l2):A:=e
def z139{A:Prop} (e:A:=by
 obtain⟨cv',m',rfl,h1,h2,h3⟩:=he;exact hn cv' m' w'' h1 h2 h3):A:=e
def GU{A:Prop} (e:A:=by
 exact⟨s.length-(k+1),by omega,k+1,by omega,rfl,rfl,rfl⟩):A:=e
def z141{A:Prop} (e:A:=by
 exact dl (by omega) (by omega)):A:=e
def GS{A:Prop} (e:A:=by
 simp only[FQ,Dl,Ex.leaves,VJ];cases cD rs ts h<;>simp):A:=e
def z143{A:Prop} (e:A:=by
 rename_i hu;rw[hu]at Qx;cases Qx;cases hf;exact hone rfl rfl hu):A:=e
def GR{A:Prop} (e:A:=by
 refine⟨_,by omega,k+1,by omega,rfl,Rp.trans Xx,hu,rfl⟩):A:=e
def z145{A:Prop} (e:A:=by
 refine⟨_,by omega,k+1,by omega,rfl,Ps.trans Xx,hu,rfl⟩):A:=e
def z146{A:Prop} (e:A:=by
 have:=hlate j oj hj hk hjf (by omega);rw[Ph]at this;cases this):A:=e
def GQ{A:Prop} (e:A:=by
 simp only[WR,fR.app,T8,false_implies,VJ]):A:=e
def z148{A:Prop} (e:A:=by
 subst e1;rw[OC]at Ph;cases Ph):A:=e
def GP{A:Prop} (e:A:=by
 rw[beq_eq_false_iff_ne];rintro rfl;exact absurd hc.1 (by decide)):A:=e
def GO{A:Prop} (e:A:=by
 refine Rs (A3 @t0 @t1 @dI) ?_;exact⟨g',V',rfl,h1,h2⟩):A:=e
def GN{A:Prop} (e:A:=by
 simp only[stepT,kX];cases dm op (val ts x) (val ts y)<;>rfl):A:=e
def z152{A:Prop} (e:A:=by
 simp only[RV.bl,l1,l2,e2,Ti,Uu]):A:=e
def GM{A:Prop} (e:A:=by
 subst hn;exact .of hmix hA (H (aM A.nt [a0,a1]) hl rfl rfl)):A:=e
def z154{A:Prop} (e:A:=by
 subst h3;exact⟨cv,w,m,h1,h2,hr,Grow.refl m _ w hr.bZ⟩):A:=e
def GL{A:Prop} (e:A:=by
 refine .run hw (by rw[hk];trivial) ?_;rw[hk];exact lu hs):A:=e
def z156{A:Prop} (e:A:=by
 exact⟨_,_,rfl,.inr ⟨FP hlt (by omega),by omega⟩⟩):A:=e
def z157{A:Prop} (e:A:=by
 exact⟨_,[],rfl,⟨.nil,λx hx=>by cases hx⟩,rfl⟩):A:=e
def Ee{A:Prop} (e:A:=by
 exact(bad (by rw[OI];rfl) Xx).2):A:=e
def z159{A:Prop} (e:A:=by
 simp only[Bool.false_and,T8,TT];omega):A:=e
def z160{A:Prop} (e:A:=by
 exact jD (by rw[hTl];exact M.size) (VR.mono h1 _ _ hv)):A:=e
def Ed{A:Prop} (e:A:=by
 subst z;have:=(hnt i hi).1;omega):A:=e
def z162{A:Prop} (e:A:=by
 cases k<;>first|exact H|exact absurd ⟨_,_,rfl⟩ hc):A:=e
def GK{A:Prop} (e:A:=by
 simp only[Tg,TC];omega):A:=e
def z164{A:Prop} (e:A:=by
 rw[aP]at hl;subst hl;cases hf;exact⟨cx,rfl,hx⟩):A:=e
def GJ{A:Prop} (e:A:=by
 have:c=[]:=Uk.1 h;subst this;rfl):A:=e
end Go.Abs
