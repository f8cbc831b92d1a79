/- Ends of proofs that stand in more than one place. No condition. -/
import Derived.Tactics
set_option linter.all false
namespace Go.Abs
def Xr:=@List.getElem?_eq_some_iff
def Xs:=@List.length_append
def Xt:=@List.append_assoc
def Xu:=@decide_eq_false
def Xv:=@List.getElem?_append_left
def Xw:=@List.getElem?_eq_getElem
def Xy:=@List.length_cons
def Xz:=@decide_eq_true
def XA:=@List.length_nil
def XB:=@List.length_map
def XC:=@List.mem_append
def XD:=@List.map_append
def XE:=@List.getElem?_append_right
def XF:=@Result.andThen_ok
def XG:=@if_neg
def XH:=@Nat.le_refl
def XI:=@if_pos
def XJ:=@List.getElem_mem
def XK:=@List.getElem?_set_ne
def XL:=@List.getElem?_set_self
def XM:=@Array.getElem?_eq_some_iff
def XN:=@run_underlying
def XO:=@if_false
def XP:=@Sem.run_bind
def XQ:=@Option.map_eq_some_iff
def XR:=@if_true
def XS:=@decide_true
def XT:=@List.mem_singleton
def XU:=@List.append_nil
def XV:=@List.length_singleton
def XW:=@Bool.not_true
def XX:=@decide_false
def XY:=@Bool.not_false
def XZ:=@List.mem_map_of_mem
def X1:=@Option.some.injEq
def X2:=@List.mem_map
def X3:=@Nat.zero_le
def X4:=@Bool.and_eq_true
def X5:=@List.all_eq_true
def X6:=@congrArg
def X7:=@Sem.run_pure
def X8:=@List.take_length
def X9:=@List.mem_cons
def Ya:=@List.length_filter_le
def Yb:=@List.mem_cons_of_mem
def Yc:=@List.getD_eq_getElem?_getD
def Yd:=@List.length_set
def Ye:=@List.take_add_one
def Yf:=@List.take_of_length_le
def Yg:=@decide_eq_true_eq
def Yh:=@Array.getD_eq_getD_getElem?
def Yi:=@Nat.le_trans
def Yj:=@Bool.false_eq_true
def Yk:=@Nat.zero_add
def Yl:=@Array.getElem?_eq_getElem
def Ym:=@Nat.lt_of_lt_of_le
def Yn:=@List.mem_cons_self
def Yo:=@List.mem_of_getElem?
def Yp:=@List.set_append_right
def Yq:=@List.length_take
def Yr:=@List.map_cons
def Ys:=@List.drop_length
def Yt:=@List.not_mem_nil
def Yu:=@Option.some.inj
def Yv:=@List.pairwise_cons
def Yw:=@List.length_eq_zero_iff
def Yx:=@Option.bind_eq_some_iff
def Yy:=@Nat.sub_self
def Yz:=@Nat.mul_le_mul_right
def YA:=@List.mem_of_mem_take
def YB:=@List.length_replicate
def YC:=@List.getElem_map
def YD:=@List.getElem?_cons_zero
def YE:=@List.mem_range
def YF:=@List.flatten_cons
def YG:=@List.pairwise_append
def YH:=@of_decide_eq_true
def YI:=@List.mem_filter
def YJ:=@Array.getElem?_setIfInBounds_self_of_lt
def YK:=@Nat.succ_mul
def YL:=@List.cons_append
def YM:=@List.getElem?_cons_succ
def YN:=@Bool.not_eq_true'
def YO:=@List.drop_zero
def YP:=@Ne.symm
def YQ:=@List.filter_append
def YR:=@List.take_append_drop
def YS:=@Array.getElem?_toList
def YT:=@List.getElem?_toArray
def YU:=@List.getElem?_map
def YV:=@eq_false
def YW:=@Array.getElem?_eq_none
def YX:=@List.drop_drop
def YY:=@List.all_cons
def YZ:=@Bool.true_and
def Y5:=@List.replicate_succ
def Y6:=@List.pairwise_singleton
def Y7:=@or_false
def Y8:=@List.nil_append
def Y9:=@List.any_eq_true
def Za:=@List.map_map
def Zb:=@Array.getElem?_setIfInBounds_ne
def Zc:=@List.flatten_append
def Zd:=@List.mem_or_eq_of_mem_set
def Ze:=@List.getLastD_eq_getLast?
def Zf:=@List.map_nil
def Zg:=@Bool.or_eq_true
def Zh:=@List.filter_cons
def Zi:=@decide_eq_decide
def Zj:=@decide_eq_false_iff_not
def Zk:=@List.append_cancel_left
def Zl:=@Decidable.not_not
def Zm:=@Nat.min_eq_left
def Zo:=@List.take_succ_cons
def Zp:=@Option.map_some
def Zq:=@List.length_reverse
def Zr:=@List.length_pos_iff
def Zt:=@List.getElem?_eq_none
def Zu:=@List.getElem_set_self
def Zv:=@Bool.false_ne_true
def Zw:=@List.drop_eq_getElem_cons
def Zx:=@Array.all_eq_true_iff_forall_mem
def Zy:=@List.flatten_replicate_singleton
def Zz:=@List.filter_nil
def ZA:=@List.filter_map
def ZB:=@List.getElem?_take_of_lt
def ZC:=@Nat.zero_mul
def ZD:=@List.map_set
def ZE:=@List.getElem_of_mem
def ZF:=@Option.bind_eq_bind
def ZG:=@Nat.mul_one
def ZH:=@Array.length_toList
def ZI:=@Bool.false_or
def ZJ:=@Option.getD_some
def ZK:=@List.length_drop
def ZL:=@Bool.false_and
def ZM:=@List.findIdx?_cons
def ZN:=@List.getElem?_drop
def ZO:=@Nat.add_mul
def ZP:=@Option.map_none
def ZQ:=@Prod.mk.injEq
def ZR:=@List.ext_getElem?
def ZS:=@Function.comp_def
def ZT:=@List.any_cons
def ZU:=@List.mapM_cons
def ZV:=@List.getElem_set_ne
def ZW:=@List.replicate_zero
def ZX:=@Array.ext'
def ZY:=@Nat.le_of_lt
def ZZ:=@Nat.add_zero
def Z0:=@List.find?_some
def Z1:=@Option.pure_def
def Z2:=@List.foldl_cons
def Z3:=@List.nodup_cons
def Z4:=@Nat.le_succ
def Z5:=@true_and
def Z6:=@Eq.trans
def Z7:=@eq_true
abbrev By:=List UInt8
def Tv:True:=trivial
def Om{A:Prop}(e:A:=by omega):A:=e
def De{A:Prop}(e:A:=by decide):A:=e
def Si{A:Prop}(e:A:=by simp):A:=e
def z1{A:Prop} (e:A:=by
 refine Ws hs.aP ?_;refine WL.inv T.mix (fun n ts h'=>∃k:Nat,k≤L.length∧n=L.length - k∧Ext h h'∧L.findIdx? p= ((L.drop k).findIdx? p).map (· +k)∧ts.length=19∧slot ts 0=s∧slot ts 1=f∧slot ts 7= .i L.length∧slot ts 8= .i k) L.length
  ⟨0,by omega,rfl,Ext.refl h,by simp,rfl,rfl,rfl,rfl,rfl⟩ ?_
 rintro _ ts _ ⟨k,hk,rfl,⟨g,rfl⟩,hi,hlen,t0,t1,t7,t8⟩;rw[kJ ts 19 hlen];by_cases hlt:k < L.length
 ·have hd:L.drop k=L[k]::L.drop (k+1):=by simp
  have e3: (k:Int)< L.length:=by omega
  simp only[aV,bd,bD,bE,Nat.reduceAdd,Nat.reduceMul,Nat.reduceLeDiff,Nat.reduceEqDiff,t0,t1,t7,t8,e3,XS,hs.dG hlt,hs.kB hlt];refine WF.val (hf L[k] (by simp) _ ⟨g,rfl⟩) ?_;rintro _ g1 rfl;cases hp:p L[k]with
  | true=>
   refine Ws @t8 ?_;rw[cS,hi,hd,ZM,hp];simp
  | false=>
   refine Ws (A2 @t8 (wrapN (show k+1 < 2^63 by omega))) ?_;refine⟨_,?_,k+1,by omega,rfl,?_,rfl⟩
   ·omega
   ·rw[hi,hd,ZM,hp];simp only[Yj,XO,Option.map_map];congr 1;funext i;simp only[Function.comp];omega
 ·have e3:¬ (k:Int)< L.length:=by omega
  have e4:k=L.length:=by omega
  refine Ws (A6 @t0 @t1 @t7 @t8 @e3 @XX) ?_;rw[cS,hi,e4,Ys];rfl):A:=e
def z2{A:Prop} (e:A:=by
 rw[hrow]at hff;rw[hrow];refine Ws (A6 @t1 @t5 @t8 @t9 @t10 (wrapN (show k+1 < 2^63 by omega))) ?_;have hout:∀b,sB out=some b→b < (h++g).length:=fun b hb=>(hfr.bN hb).2
 have hnew:∀b,sB s' =some b→(h++g).length≤b∧b < (h++g).length+ (1+g1.length):=fun b hb=>by
  have:=Xg.bN hb;simp only[Xs,Xy,XA]at this ⊢;omega
 have hold:∀x∈L',∀b,sB x.2=some b→b < (h++g).length∧sB out≠some b:=fun x hx b hb=>by
  refine⟨((hin x hx).bN hb).2,fun e=>?_⟩;exact(Yv.1 Ra).1 _ (XZ hx) b e hb
 refine⟨_,?_,k+1,_,L'++ [(L[k].1,s')],by omega,rfl,?_,hff,?_,?_,rfl,rfl⟩
 ·omega
 ·rw[XD,hm,Ye,Xw hlt,XD];rfl
 ·intro x hx;rcases XC.1 hx with hx| hx
  ·refine((((hin x hx).app _).app _).app _).aC fun b hb=>hkp b ?_ fun b0 o n e hso=>?_
   ·have:=(hold x hx b hb).1;simp only[Xs]at this ⊢;omega
   ·intro e;subst e;exact(hold x hx b hb).2 (by rw[hso];rfl)
  ·rw[XT]at hx;subst hx;refine Fr.low (N:=(h++g++ [aq.cells [] true true]).length) ?_ (by simp only[Xs];omega);refine Fr.aC (h:=_) ((Xg.app _).low ?_) fun b hb=>hkp b ?_ fun b0 o n e hso=>?_
   ·simp
   ·have:=hnew b hb;simp only[Xs,Xy,XA]at this ⊢;omega
   ·intro e;subst e;have h1:=hout b (by rw[hso];rfl);have h2:=(hnew b hb).1;omega
 ·have em: (L'++ [(L[k].1,s')]).map (fun x=>sB x.2)= (L'.map fun x=>sB x.2)++ [sB s']:=by rw[XD];rfl
  rw[em];refine Yv.2 ⟨?_,YG.2 ⟨(Yv.1 Ra).2,Y6 _ _,?_⟩⟩
  ·intro y hy b hb Tg;cases hb;rcases XC.1 hy with hy| hy
   ·obtain⟨x,hx,rfl⟩:=X2.1 hy;have:=(hold x hx _ Tg).1;simp only[Xs]at this;omega
   ·rw[XT]at hy;rw[hy]at Tg;have:=(hnew _ Tg).2;simp only[Xs,Xy,XA]at this;omega
  ·intro y hy z hz b hb hzb;obtain⟨x,hx,rfl⟩:=X2.1 hy;rw[XT]at hz;rw[hz]at hzb;have h1:=(hold x hx _ hb).1;have h2:=(hnew _ hzb).1;omega):A:=e
def z3{A:Prop} (e:A:=by
 obtain⟨V2,rfl,sb,K1⟩:=fin hv;refine Rs (A4 @t3 @t4 @t7 @sb) ?_;refine K1 _ ?_ ?_ ?_ ?_ ?_
 ·simp only[bF,hlen]
 ·exact Zs @t3 trivial
 ·exact Zs @t4 trivial
 ·exact Zs @t7 trivial
 ·exact Zn trivial):A:=e
def z4{A:Prop} (e:A:=by
 refine WF.val (hvk _ (by repeat first| exact Ext.refl _| refine Ext.app _ ?_)) ?_;rintro _ g1 rfl;refine Wn ?_;refine WR.fw (h0:=h) (cs:=((L.take k).map F).map au) (ys:=[au (F L[k])]) ((((hfr.app _).app _).app _)) (Fr.push (N:=0) (X3 _) [au (F L[k])] (by simp[au])).a8 (by decide) (by simp) (by simp;omega) (by simp only[rK]) ?_;intro g' Qz hff hkp;have hrow: ((L.take k).map F).map au++ [au (F L[k])]= ((L.take (k+1)).map F).map au:=by rw[Ye,Xw hlt,XD,XD];rfl
 rw[hrow]at hff;rw[hrow];refine Ws (A6 @t1 @t5 @t8 @t9 @t10 (wrapN (show k+1 < 2^63 by omega))) ?_;refine⟨_,?_,k+1,_,by omega,rfl,hff,rfl,rfl⟩;omega):A:=e
def z5{A:Prop} (e:A:=by
 have e3:¬ (k:Int)< L.length:=by omega
 have e4:k=L.length:=by omega
 refine Ws (A7 @t1 @t5 @t8 @t9 @t10 @e3 @XX) ?_;rw[e4,X8]at hfr;exact hfr):A:=e
def z6{A:Prop} (e:A:=by
 rw[hrow]at hff;rw[hrow];refine Ws (A6 @t1 @t5 @t8 @t9 @t10 (wrapN (show k+1 < 2^63 by omega))) ?_;refine⟨_,?_,k+1,_,by omega,rfl,hff,rfl,rfl⟩;omega):A:=e
def z7{A:Prop} (e:A:=by
 have RS:some i∈V.bl:=by rw[hd];exact iK hi
 refine hk i (hin i RS).2 (fun e=>?_) (fun e=>r.ne (e▸RS));obtain⟨h1,h2,h3⟩:=YG.1 Ra;rcases hi with hi| hi
 ·exact h3 _ hi _ (by simp) i rfl e
 ·exact(Yv.1 h2).1 _ hi i e rfl):A:=e
def z8{A:Prop} (e:A:=by
 have hrow:V.aE.map aU++ [aU (y,t)]= (V.aE++ [(y,t)]).map aU:=by rw[XD];rfl
 rw[hrow]at hff;rw[hrow];have hbl:=r.lt;have QD:sB V.s3≠some b:=fun e=>r.ne (by rw[←e];simp[RV.bl])
 have hk1:∀i,i < (B++g).length→sB V.s3≠some i→(B++g')[i]? = (B++g)[i]? :=fun i hi hne=>by
  rw[hkp i (by simp only[Xs]at hi ⊢;omega) (fun b0 o n e he z=>hne (by rw[he,z];rfl))];exact(show Ext (B++g) _ from Xx).get hi
 have mB: (B++g')[b]? =some (.b V.row):=(hk1 b hbl QD).trans r.m;have Tn:=fun(b' o n e:Nat)=>gZ (i:=4) (v:=.slice b' o n e) mB rfl (by decide)
 refine Rs (A4 @t0 @t1 @Tn @eM) ?_;refine FE r hff ?_ (fun i hi=>by cases hi;exact .inr (by simp only[Xs];omega)) hk1 ?_ ?_
 ·refine Fr.low (N:=(B++g).length) ((show Fr (B++g).length _ t 1 _ from Ri.app _).aC fun i hi=>hkp i ?_ (fun b0 o n e he z=>?_)) (by simp)
  ·have:=(Ri.bN hi).2;simp only[Xs]at this ⊢;omega
  ·have h1:=(Ri.bN hi).1;have h2:=(r.o.i3.bN (show sB V.s3=some i by rw[he,z];rfl)).2;omega
 ·intro i hi;have h1:=Ri.bN hi;refine⟨h1.1,fun e=>?_⟩;cases e;have:=h1.2;simp only[Xs,Xy,XA]at this;omega
 ·rw[hy];simp[RV.ar,dq]):A:=e
def z9{A:Prop} (e:A:=by
 rcases hn i hi with hn| hn
 ·exact .inl hn
 ·refine .inr ⟨fun y hy e=>?_,fun y hy e=>?_⟩
  ·subst e;have:=(hin i (by rw[hd];exact iK (.inl hy))).2;omega
  ·subst e;have:=(hin i (by rw[hd];exact iK (.inr hy))).2;omega):A:=e
def Mp{A:Prop} (e:A:=by
 refine⟨own,r.hN,hm,fun hb=>?_⟩;have hbl:=r.lt;have SA:=r.ne;rw[hd]at SA;by_cases hsb:sB s=some b
 ·rcases hn b hsb with z| z
  ·exact SA (by rw[z];simp)
  ·omega
 ·by_cases htb:sB t=some b
  ·have:=(hnt b htb).1;omega
  ·have Sd:some b≠sB s:=fun z=>hsb z.symm
   have htb':some b≠sB t:=fun z=>htb z.symm
   simp only[RV.bl,XD,Yr,Zf,XC,X9,Yt,Y7]at hb;simp only[XC,X9,Yt,Y7]at SA
   grind):A:=e
def Ip{A:Prop} (e:A:=by
 rw[hkp i (by simp only[Xs]at hi ⊢;omega) (fun b0 o n e he z=>hne (by rw[he,z];rfl))];exact(show Ext (B++g) _ from Xx).get hi):A:=e
def z12{A:Prop} (e:A:=by
 by_cases hex:∃ (x:Nat) (ox:bJ),l[x]? =some ox∧listed.getD x false=true∧ox.dst=some t
 ·obtain⟨x,ox,hx,hxl,TF⟩:=hex;obtain⟨oo,SR,TW⟩:=Rr x ox t hx TF;have hxi:x < i:=by
   by_cases e1:x=i
   ·subst e1;rw[Ro]at hxl;cases hxl
   ·by_cases e2:x < i
    ·exact e2
    ·have e3:=(cL hsl (show i < x by omega) ho SR).2 t TW ht;have e4:=hcl x i hxl hin e3;rw[Ro]at e4;cases e4
  rw[QC (x+1) i t (by omega) (by omega) (fun k o' a2 a3 a4 a5=>by have:=huniq x k ox o' t hx a4 TF a5;omega)];exact h2 t x ox hx hxl TF
 ·rw[QC 0 i t (by omega) (by omega) (fun k o' e2 e3 e4 e5=>by
   obtain⟨oo,SR,QU⟩:=Rr k o' t e4 e5;have h6:=((cL hsl e3 SR ho).1 t QU).2 ht;exact hex ⟨k,o',e4,hahead k (XM.1 SR).1 h6,e5⟩)]
  exact h1 t fun j oj hj hl QU=>hex ⟨j,oj,hj,hl,QU⟩):A:=e
def PE{A:Prop} (e:A:=by
 repeat (first| simp (config:={ maxSteps:=1000000 }) only[aV,bd,bD,bE,Nat.reduceAdd,Nat.reduceMul,Nat.reduceLeDiff,Nat.reduceEqDiff,bF,hlen,XO,XR,t2,t3,t4,le,lr,bA,aO,aY,aF,Qu,gG,reduceCtorEq,XX,XS,fS,j1,f1,ix,l2,oJ.aP,e2,iy,lv,e3,sb,gm]| simp (config:={ maxSteps:=1000000 }) (disch:=first| (simp only[Xs,Xy,XA]<;>omega)| rfl| omega| fail) only[fM,aV,bd,bD,bE,Nat.reduceAdd,Nat.reduceMul,Nat.reduceLeDiff,Nat.reduceEqDiff,bF,hlen,XO,XR,t2,t3,t4,le,lr,bA,aO,aY,aF,Qu,gG,reduceCtorEq,XX,XS,fS,j1,f1,ix,l2,oJ.aP,e2,iy,lv,e3,sb,gm])
 rw[bB,XG (fun z=>z hct),XI h3];exact cE.fin QO (fun z=>absurd z (by decide))):A:=e
def zV{A:Prop} (e:A:=by
 exact⟨by simp[Op.equalIn,XN hu],fun l=>by simp,by simp,rfl,rfl⟩):A:=e
def PD{A:Prop} (e:A:=by
 have hlt:=(Xr.1 hx).1;have QX:t < a1.tmps.size:=by have:=hTl l.length (XH _);omega
 have ex: (T l.length).getD t aB=x:=by simp[List.getD,hx]
 have ey:a1.tmps.getD t undef=a1.tmps[t]:=by simp[Yh,Yl QX]
 refine⟨a1.tmps[t],by simp,?_⟩;rw[←ex,←ey];by_cases hw:∃ (j:Nat) (o:bJ),l[j]? =some o∧o.dst=some t
 ·obtain⟨j,o,hj,ho⟩:=hw;have SC:=(Xr.1 hj).1;rw[QC (j+1) l.length t (by omega) (XH _) (fun k o' a2 a3 a4 a5=>by have:=huniq j k o o' t hj a4 ho a5;omega)];exact h2 t j o hj (hall j (by omega)) ho
 ·rw[QC 0 l.length t (by omega) (XH _) (fun k o' _ _ h4 h5=>hw ⟨k,o',h4,h5⟩)];exact h1 t fun j o hj _ ho=>hw ⟨j,o,hj,ho⟩):A:=e
def PC{A:Prop} (e:A:=by
 cases x with
 | agg l=>cases hx
 | dJ l=>cases hx
 | bool b=>rw[VR]at h;subst h;rfl
 | int k n=>rw[VR]at h;subst h;rfl
 | vT k b=>rw[VR]at h;obtain⟨_,rfl,_⟩:=h;rfl
 | vF k x y=>rw[VR]at h;obtain⟨_,_,rfl,_⟩:=h;rfl
 | str s=>rw[VR]at h;subst h;rfl
 | ptr b o=>rw[VR]at h;obtain⟨_,_,rfl⟩:=h;rfl
 | nilPtr=>rw[VR]at h;subst h;rfl
 | slice b o n e=>rw[VR]at h;obtain⟨_,_,_,_,rfl,_⟩:=h;rfl
 | af=>rw[VR]at h;subst h;rfl
 | map r=>rw[VR]at h;obtain⟨_,_,rfl⟩:=h;rfl
 | cR=>rw[VR]at h;subst h;rfl
 | func f a c=>rw[VR]at h;obtain⟨_,_,_,rfl,_⟩:=h;rfl
 | nilFunc=>rw[VR]at h;subst h;rfl
 | pW u a=>rw[VR]at h;obtain⟨_,rfl,_⟩:=h;rfl
 | jY=>cases hx):A:=e
def PB{A:Prop} (e:A:=by
 simp only[Yj,XO,Option.map_map];congr 1;funext i;simp only[Function.comp];omega):A:=e
def Io{A:Prop} (e:A:=by
 obtain⟨h1,h2,h3⟩:=s.kl i hi;rw[g2 i h2,hk i (Ym h1 s.ln) (fun z=>h3 (by rw[←z];simp[RV.bl]))];exact s.kp i hi):A:=e
def Im{A:Prop} (e:A:=by
 simp only[RV.bl,XD,Yr,Zf,XC,X9,List.mem_nil_iff,Y7]at h ⊢
 grind):A:=e
def z20{A:Prop} (e:A:=by
 have hX:Ext X (X++ [.b V.row]++ [.b x.row]++ [.b km]):=Xx;have ho:cG B.length (X++ [.b V.row]++ [.b x.row]++ [.b km]) V:=o.az fun i hi=>hX.get (o.dN hi).2
 refine⟨⟨ho,hx.len,by simp,fun hi=>by have:=(o.dN hi).2;omega⟩,hx.trans hX,XH _,fun _ _=>rfl,fun i hi=>?_⟩;simp only[Xs,Xy,XA];rcases hi with⟨h1,h2⟩| h1| h1
 ·exact⟨by omega,by omega,h2⟩
 ·exact⟨by omega,by omega,fun z=>by have:=(o.dN z).2;omega⟩
 ·exact⟨by omega,by omega,fun z=>by have:=(o.dN z).2;omega⟩):A:=e
def z21{A:Prop} (e:A:=by
 split at hk
 case isFalse=>cases hk
 rename_i hg;cases QT:flat P 20 t with
 | none=>simp[QT]at hk
 | some ks=>
  simp[QT]at hk;subst hk;have hb':yu ks (ρ x) (ρ y)=some b:=hb;unfold yu at hb';split at hb'
  case h_2=>cases hb'
  rename_i xs ys hxa RX;rw[hxa]at hx;rw[RX]at hy;obtain⟨lx,rfl,Tj⟩:=hx;obtain⟨ly,rfl,Ti⟩:=hy;split at hb'
  case isFalse=>cases hb'
  rename_i hlen;refine fin (vC hg) ?_ rfl rfl;exact AU 20 t ks QT 10000 (by omega) _ hu xs ys lx ly b hlen.1 hlen.2 Tj Ti hb' w):A:=e
def Af{A:Prop} (e:A:=by
 simp only[compile]at hc
 (repeat' split at hc)
 all_goals cases hc):A:=e
def LR{A:Prop} (e:A:=by
 have:∀n,qt (Array.replicate ops.size false) n≤n:=by
  intro n
  induction n with
  | zero=>exact XH _
  | succ n ihn=>simp only[qt];split<;>omega
 exact this _):A:=e
def z24{A:Prop} (e:A:=by
 cases hk;exact eE.mZ hr (Fm (w:=w) (ox:=x) (oy:=y) hk0 hx hy hs) (fun cv h=>by simp only[execOp,ho];rw[XP,h];rfl)):A:=e
def Mo{A:Prop} (e:A:=by
 rcases hs.Nt with⟨rfl,rfl⟩| hq
 ·refine Ws @Bs ?_;exact .nil
 ·refine Ws @hq ?_;refine WR.pX (N:=h.length) bf (XH _) (hs.ext (by repeat first| exact Ext.refl _| refine Ext.app _ ?_)) (by omega) fun s' g hf=>?_
  refine Wn ?_;exact hf):A:=e
def Mn{A:Prop} (e:A:=by
 obtain⟨xi,a1,a2⟩:=Rr i oi d hi h1;obtain⟨xj,b1,b2⟩:=Rr j oj d hj h2;by_cases hlt:i < j
 ·exact absurd b2 ((cL hsl hlt a1 b1).1 d a2).1
 ·by_cases Ty:j < i
  ·exact absurd a2 ((cL hsl Ty b1 a1).1 d b2).1
  ·omega):A:=e
def Mm{A:Prop} (e:A:=by
 show 0+0+nc * i.size≤(vo++vn).length+rest.length;rw[Xs,Rk,Q9,Wx,RW];have e1:nc * i.size= (n+k) * i.size+ (nc - (n+k)) * i.size:=by rw[←ZO];congr 1;omega
 rw[ZO]at e1;simp;omega):A:=e
def z28{A:Prop} (e:A:=by
 rw[e]at hb;by_cases hsb:sB s=some b
 ·rcases hn b hsb with z| z
  ·exact SA (by rw[z];simp)
  ·omega
 ·rcases uQ hb with z| z| z
  ·exact SA (iK (.inl z))
  ·exact hsb z.symm
  ·exact SA (iK (.inr z))):A:=e
def Ml{A:Prop} (e:A:=by
 have hlt:j < ops.size:=by have:=(Xr.1 hj).1;omega
 have ho:ops[j]? =some ops[j]:=Yl hlt;obtain⟨io',h1,h2⟩:=Qw j ops[j] (by simp);rw[hj]at h1;cases h1;exact⟨_,ho,h2⟩):A:=e
def PA{A:Prop} (e:A:=by
 have hsh:U.ar.ak=V.ar.ak.map (ka a z):=by
  refine List.ext_getElem (by simp[RV.ar,Sr]) fun i h1 h2=>?_
  have hi:i < U.ak.length:=by simpa [RV.ar]using h1
  have:=hU i hi (by omega);rw[XI (by omega)]at this
  simpa [RV.ar]using this
 have heq:∀A C:gJ,{ A with ak:=C.ak } =C→A={ C with ak:=A.ak }:=by
  intro A C h;cases A;cases C;simp_all
 have:=heq _ _ hreg;rw[this,hsh,dq,ha,hz]):A:=e
def z31{A:Prop} (e:A:=by
 refine⟨(fn.aC fun j hj=>kp j (ln j hj).2 fun e=>?_).low (by simp only[Xs];omega),(fv.aC fun j hj=>kp j (lv j hj).2 fun e=>?_).low (by simp only[Xs];omega),fun j hj e=>?_,fun j hj e=>?_⟩
 ·have h1:=(ln j hj).1;have h2:=hout j e;omega
 ·have h1:=(lv j hj).1;have h2:=hout j e;omega
 ·have h1:=(ln j hj).2;have h2:=SS j e;omega
 ·have h1:=(lv j hj).2;have h2:=SS j e;omega):A:=e
def Pz{A:Prop} (e:A:=by
 by_cases hxy:x≤y
 ·have:=Td x (y - x) (by omega) (fun j o h1 h2 h3=>by
   cases hk:cD o.k with
   | true=>rfl
   | false=>have:=hno j o h3 hk;omega)
  rw[show x+ (y - x)=y from by omega]at this;exact this.symm
 ·have:=Td y (x - y) (by omega) (fun j o h1 h2 h3=>by
   cases hk:cD o.k with
   | true=>rfl
   | false=>have:=hno j o h3 hk;omega)
  rw[show y+ (x - y)=x from by omega]at this;exact this):A:=e
def Mk{A:Prop} (e:A:=by
 subst e;by_cases hsi:sB s=some i
 ·exact n2 hsi
 ·have:=(hin i (by rw[hd];simp only[XC,X9,Yt,Y7]at hy ⊢;have hsi':some i≠sB s:=fun z=>hsi z.symm;grind)).2;omega):A:=e
def LP{A:Prop} (e:A:=by
 obtain⟨e,he,hb,hor⟩:=(nR hed ho).2 x hx ha;have hle:=Vh e he hb;rcases hor with rfl| hor
 ·exact hle
 ·exact hcl e.on x hle hx hor):A:=e
def Py{A:Prop} (e:A:=by
 simp only[Qp]at hc;split at hc
 case h_2=>cases hc
 rename_i kt e x' i' y' hu Qt hi' hy';simp only[XQ]at hc;obtain⟨kk,hkk,rfl⟩:=hc;obtain⟨w',h1,rfl,h2,h3⟩:=Gr (w:=w) hu hkk hr (hρ x (by simp[Qp,Op.operands]) x' Qt) (hρ i (by simp[Qp,Op.operands]) i' hi') (hρ y (by simp[Qp,Op.operands]) y' hy') hs;exact⟨undef,w',m,.inr ⟨by simp[execOp,Qp,h1],rfl⟩,jG m,h2,h3⟩):A:=e
def Mj{A:Prop} (e:A:=by
 rw[hp,XG (by decide),XU]at QJ;refine Ws (A6 @t1 @t5 @t8 @t9 @t10 (wrapN (show k+1 < 2^63 by omega))) ?_;refine⟨_,?_,k+1,out,by omega,rfl,by rw[QJ];exact(hfr.app _).app _,rfl,rfl⟩;omega):A:=e
def z37{A:Prop} (e:A:=by
 have h1:=Ri.bN hi;refine⟨h1.1,fun e=>?_⟩;cases e;have:=h1.2;simp only[Xs,Xy,XA]at this;omega):A:=e
def Px{A:Prop} (e:A:=by
 rcases QB b1 e1 h1 with⟨rfl,rfl⟩| ⟨Vc,R4⟩
 ·rcases QB b2 e2 h2 with⟨rfl,rfl⟩| ⟨hl2,UK⟩
  ·exact absurd rfl hne
  ·exact absurd hcb.symm (hout b2 e2 UK)
 ·rcases QB b2 e2 h2 with⟨rfl,rfl⟩| ⟨hl2,UK⟩
  ·exact absurd hcb (hout b1 e1 R4)
  ·rw[Xv Vc]at hk1;rw[Xv hl2]at Qq;exact hr.sep b1 b2 e1 e2 k1 k2 hne R4 UK hk1 Qq hcb):A:=e
def LO{A:Prop} (e:A:=by
 rw[cZ (by omega)]at hj ⊢;split
 ·rfl
 ·split at hj
  ·rename_i hji;subst hji;exact hahead x hx ha
  ·exact hcl j x hj hx ha):A:=e
def z40{A:Prop} (e:A:=by
 exact cE.fin QO (fun z=>absurd z (by decide))):A:=e
def Mi{A:Prop} (e:A:=by
 have e3:¬ (k:Int)< L.length:=by omega
 have e4:k=L.length:=by omega
 refine Ws (A7 @t1 @t5 @t8 @t9 @t10 @e3 @XX) ?_;rw[e4,X8]at hm;exact⟨L',hm,hfr,hin,Ra⟩):A:=e
def LN{A:Prop} (e:A:=by
 rw[hkp i (by simp only[Xs];omega) (fun b0 o n e he z=>hne (by rw[he,z];rfl))];exact Xv hi):A:=e
def Mh{A:Prop} (e:A:=by
 exact(show Ext (B++g) _ from Xx).get hi):A:=e
def F3{A:Prop} (e:A:=by
 exact⟨_,by omega,k+1,_,by omega,rfl,hff,rfl,rfl⟩):A:=e
def Mg{A:Prop} (e:A:=by
 cases Qo;rw[hv]at h1;have h1':=h1;obtain⟨f',a',c',h2,h3,_⟩:=h1;simp only[zT]at h3;subst h3;exact eE.same hr h1' (by simp[execOp,Qp,h2])):A:=e
def z46{A:Prop} (e:A:=by
 simp only[Xs,Xy,XA]at this ⊢;omega):A:=e
def Pv{A:Prop} (e:A:=by
 simp only[Qp,XQ]at hc;obtain⟨x',Qt,rfl⟩:=hc;have Qo:dt (.aI x') ρ h=some (v,h'):=hs;simp only[dt,X1,ZQ]at Qo;obtain⟨rfl,rfl⟩:=Qo;exact eE.same hr (hρ x (by simp[Qp,Op.operands]) x' Qt) (by simp[execOp,Qp])):A:=e
def Pu{A:Prop} (e:A:=by
 have:=ub (T:=T) (t:=t) (a:=x) (y - x) (fun j h1 h2=>by
  have hj:l[j]? =some (l[j]'(by omega)):=Xw (by omega);obtain⟨v,hv⟩:=RU j _ hj;exact⟨_,v,hv,hno j _ h1 (by omega) hj⟩)
 rwa [show x+ (y - x)=y from by omega]at this):A:=e
def z49{A:Prop} (e:A:=by
 rename_i hm;cases h;rw[X4,X4]at hm;obtain⟨f,hf⟩:=Option.isSome_iff_exists.1 hm.1.2;have h1:=Z0 hf;rw[X4]at h1;exact .inr (.inr ⟨l3,rfl,hq.2,⟨l,hl⟩,2,WZ,.inr ⟨f,h1.1,h1.2⟩,hm.2⟩)):A:=e
def Pt{A:Prop} (e:A:=by
 refine⟨_,w',m',room Ul hlen Sx (by simp only[Uo];rw[gA];exact h0),⟨_,_,cap,h1,rfl,Ul,fun _=>?_,?_⟩,h2,h3⟩
 ·rw[Uo];simp only[Addr.mk.injEq,Z5,and_true];omega
 ·show 0+ (en.d+o)+cap * i.size≤en.sz;omega):A:=e
def z51{A:Prop} (e:A:=by
 have Qo:S j=true:=by unfold mark at hs;rwa [XG hji]at hs
 rw[dy (huniq j o d hji hj ho)];refine VR.mono ?_ _ _ (M.xW d j o hj Qo ho);intro b e hb;unfold bY.dB at hb ⊢;split at hb
 ·rename_i hlt;rw[XI hlt];exact SN _ _ hb
 ·cases hb):A:=e
def Ps{A:Prop} (e:A:=by
 have e2: (#[]++ (⟨[.string ⟨⟨s⟩⟩,.int .u8 (c.toNat:Int)]⟩:Array Value)++#[])=#[]++#[.string ⟨⟨s⟩⟩,.int .u8 (c.toNat:Int)]++#[]:=rfl;simp only[e2,e',Result.andThen];exact⟨_,m,rfl,rfl,hr,Grow.refl m h w hr.cI⟩):A:=e
def z53{A:Prop} (e:A:=by
 cases hx:m h.length with
 | none=>rfl
 | some y=>exact absurd (hr.cI _ _ hx) (by omega)):A:=e
def Mf{A:Prop} (e:A:=by
 rw[QJ,YQ];simp only[Zh,Zz,hd,XR,XD,Yr,Zf]):A:=e
def Pr{A:Prop} (e:A:=by
 rw[a5 i hi (by omega),hU i (by omega) hi'];by_cases Sh:i=k
 ·subst Sh;rw[XI rfl,XG (by omega),XI (by omega)]
 ·rw[XG Sh];by_cases hil:i < k
  ·rw[XI hil,XI (by omega)]
  ·rw[XG hil,XG (by omega)]):A:=e
def Il{A:Prop} (e:A:=by
 subst z;rcases hb' i hi with z| z
 ·exact QD z
 ·omega):A:=e
def Pq{A:Prop} (e:A:=by
 have hj:l[x+k]? =some (l[x+k]'(by omega)):=Xw (by omega);rw[show x+ (k+1)=x+k+1 from by omega,Tc _ _ hj (hno _ _ (by omega) (by omega) hj)];exact ih (by omega) fun j o h1 h2 h3=>hno j o h1 (by omega) h3):A:=e
def Ik{A:Prop} (e:A:=by
 subst z;rcases hn i hi with z| z
 ·exact QD z
 ·omega):A:=e
def z59{A:Prop} (e:A:=by
 obtain⟨v,hv⟩:=RU j _ (Xw (show j < l.length by omega));rw[hv,mG];exact ih (by omega)):A:=e
def Pp{A:Prop} (e:A:=by
 split at hk
 case isFalse=>cases hk
 simp only[XQ]at hk;obtain⟨ks,_,rfl⟩:=hk;exact eE.mZ hr (Fm (w:=w) (ox:=x) (oy:=y) hk0 hx hy hs) (fun cv h=>by simp only[execOp,ho];rw[XP,h];rfl)):A:=e
def Po{A:Prop} (e:A:=by
 refine⟨e,ts,h'++ [aq.dead]++g',fun r hr=>?_,done e h' g' hl RT⟩;have:r=none:=hr;subst this;have:=Ev.eA (h:=h) (ps:=ps) (asg:=asg) (body:=body) hA hg hs (mJ hl) bS;rw[qR hl]at this;exact this):A:=e
def Pn{A:Prop} (e:A:=by
 refine yt hg Qt ?_ (fun t Sv=>ht t ?_)
 ·rw[Zx]at Xd;exact Xd x hx
 ·subst Sv;exact List.mem_append_left _ (List.mem_filterMap.2 ⟨.tmp t,by simpa using hx,rfl⟩)):A:=e
def Me{A:Prop} (e:A:=by
 rw[Ye,Xw hlt,YQ];congr 1;cases hp:p L[k]<;>simp[hp]):A:=e
def Pm{A:Prop} (e:A:=by
 rw[Ye,Xw Rn]at hy';rcases XC.1 hy' with hy'| hy'
 ·exact hsf y' hy'
 ·simp only[Option.toList_some,XT]at hy';rw[hy',←hy];exact h4):A:=e
def Pk{A:Prop} (e:A:=by
 refine Rs (A2 @t0 @o1) ?_;refine WF.res T.c177 (r177 T (hx.ext Xx) (by simp;omega)) ?_;rintro s' g1 hf;have o2:=hf.a8.one;refine Rs (A3 @t0 @o1 @o2) ?_;exact⟨s',rfl,(Fr.swap hf (by simp)).low (by simp)⟩):A:=e
def LM{A:Prop} (e:A:=by
 rw[XG Q4]at Qq;exact hr.sep b1 b2 e1 e2 k1 k2 hne RH Qy hk1 Qq hcb):A:=e
def Pj{A:Prop} (e:A:=by
 refine⟨_,by omega,k+1,out,by omega,rfl,?_,rfl,rfl⟩;rw[QJ,YQ];simp only[Zh,Zz,hd,Yj,XO,XU];exact hfr.app _):A:=e
def Ph{A:Prop} (e:A:=by
 rw[bB]at hc;split at hc
 case isTrue hb=>exact absurd hc hb
 case isFalse hb=>
  unfold jE at hb;split at hb
  ·exact absurd (by decide) hb
  split at hb
  ·exact absurd (by decide) hb
  omega):A:=e
def Md{A:Prop} (e:A:=by
 obtain⟨h3,h4,h5⟩:=w.md x hx;exact⟨h3,h4,fun t ht=>by rw[em];exact gg (h5 t ht)⟩):A:=e
def z70{A:Prop} (e:A:=by
 rw[Yh,Array.getElem?_replicate];split<;>rfl):A:=e
def Mc{A:Prop} (e:A:=by
 obtain⟨o,h1,h2⟩:=Up j io hj;exact⟨o,h1,by rw[← (dm h2).1];exact hd⟩):A:=e
def z72{A:Prop} (e:A:=by
 have hi':i < x.ev.names.length:=by omega
 have:aN x.ev i=x.ev.names[i]:=by rw[aN,Yc,Xw hi'];rfl
 rw[this];exact ox.n.kO hi' rfl e):A:=e
def LL{A:Prop} (e:A:=by
 by_cases e1:j=i
 ·subst e1;exact hlt
 ·rw[hne j e1];exact hl):A:=e
def Mb{A:Prop} (e:A:=by
 rw[XE (by simp;omega),XE (by simp;omega)];simp):A:=e
def z75{A:Prop} (e:A:=by
 have e3:=gq hlt;have e4:k=V.ak.length:=by omega
 refine Rs (A8 @t1 @t2 @t5 @t6 @lr @eJ o.i2.aP @e3) ?_;rw[e4,X8]at hfr;exact⟨QP.trans he,hfr.a8⟩):A:=e
def z76{A:Prop} (e:A:=by
 have:=Ai (listed:=listed) (by omega) Ro ops.size hin;omega):A:=e
def Pg{A:Prop} (e:A:=by
 refine⟨fun h1=>?_,fun h1=>⟨l.length - (k+1),by omega,k+1,by omega,rfl,?_,rfl⟩⟩
 ·rw[hf,hd,aX,XG h1]
 ·rw[hf,hd,aX,XI (by omega)]):A:=e
def Fa{A:Prop} (e:A:=by
 exact Rs (A3 @t0 @t1 @t2) trivial):A:=e
def Ma{A:Prop} (e:A:=by
 rw[Ye,Xw (by rw[hRl];exact hlt),hy];simp[RV.ar]):A:=e
def z80{A:Prop} (e:A:=by
 rename_i cs;cases hl:cs.toList.mapM (lT n)with
 | none=>simp[hl]at h
 | some r=>simp[hl]at h;subst h;exact⟨cs.toList,rfl,uR m n (qj m n) _ _ hl⟩):A:=e
def L9{A:Prop} (e:A:=by
 have h1:=(s.bk.o.dN (b:=i) (by rw[←e];simp[RV.bl])).2;have:=(htb i hi).1;omega):A:=e
def Pf{A:Prop} (e:A:=by
 unfold bY.add at RJ;by_cases hx:b=h.length
 ·rw[XI hx]at RJ;cases RJ;exact .inl ⟨hx,rfl⟩
 ·rw[XG hx]at RJ;exact .inr ⟨hr.cI _ _ RJ,RJ⟩):A:=e
def Pe{A:Prop} (e:A:=by
 simp only[EF,EE,ED,HZ,H3,EI,EH,EG,Lj,Li,Y8,YL,ne_eq,X1,and_true];omega):A:=e
def Pd{A:Prop} (e:A:=by
 refine Rs (IC @t4 @t6 @t20 @t21 @t22 @e3 @ix @ld @e5 @l2 @l3 @bT @iY @lk @hb @mp @a4) ?_;exact⟨_,by omega,k+1,_,by omega,rfl,rfl,hnew,rfl⟩):A:=e
def z85{A:Prop} (e:A:=by
 show(R.aE++ [_]).length≤32;rw[Xs,XV];omega):A:=e
def L8{A:Prop} (e:A:=by
 rcases hn i z with z| z
 ·exact h3 (by rw[←z];simp[RV.bl])
 ·have:=s.ln;omega):A:=e
def z87{A:Prop} (e:A:=by
 exact cE.fin QK (fun z=>absurd z (by decide))):A:=e
def Pc{A:Prop} (e:A:=by
 rw[an (e.some hg0)];have:bI x.ev 1=1∨bI x.ev 1=2∨bI x.ev 1=3∨bI x.ev 1=4:=by omega
 rcases this with z| z| z| z<;>rw[z]<;>rfl):A:=e
def LJ{A:Prop} (e:A:=by
 simp only[XT,X1]at z;omega):A:=e
def Pb{A:Prop} (e:A:=by
 rw[Ye,Xw hlt,sI];simp only[Option.toList_some,cU,Yk,Yq];rw[Zm (by omega)]):A:=e
def z91{A:Prop} (e:A:=by
 exact cE.fin sY (fun z=>absurd z (by decide))):A:=e
def Pa{A:Prop} (e:A:=by
 cases hk:cD oj.k with
 | true=>exact .inl rfl
 | false=>
  cases Qq:kf oj with
  | true=>exact .inr rfl
  | false=>have:=hHh j oj h3 hk Qq;omega):A:=e
def z93{A:Prop} (e:A:=by
 have hne:io.dst≠some d:=hd i io hio (by simp[mark]);rw[dy hne];refine M.xX d fun j o hj hs=>hd j o hj ?_
 unfold mark;split
 ·rfl
 ·exact hs):A:=e
def O9{A:Prop} (e:A:=by
 have d1:decide (n < 10)=true:=Xz h10;refine Ws (A4 @d0 @d1 @tZ @yy) ?_;rw[j9,Lib.decDigits,dif_pos (by omega),yv h0 h10]):A:=e
def O8{A:Prop} (e:A:=by
 have e3:=ja hmo (show i < j by omega) hio hj VH (hrp hk) TI (hld hk) (.inl ⟨RN,hk⟩);have e4:=hcl j i Sg hin e3;rw[Ro]at e4;cases e4):A:=e
def O7{A:Prop} (e:A:=by
 rw[VR]at ha hv ⊢;obtain⟨e,he,_⟩:=ha;obtain⟨e',Rj,hv⟩:=hv;exact⟨e',by unfold bY.dB;rw[XI (hd _ _ he)];exact Rj,hv⟩):A:=e
def L7{A:Prop} (e:A:=by
 exact h3 (by rw[←z];simp[RV.bl])):A:=e
def O6{A:Prop} (e:A:=by
 have:=(Fr.push (N:=0) (es:=3) (h:=W4) (X3 _) [z] (fun x hx=>by rw[XT]at hx;rw[hx,hz];rfl)).a8
 simpa using this):A:=e
def O5{A:Prop} (e:A:=by
 simp only[aV,bd,bD,bE,Nat.reduceAdd,Nat.reduceMul,Nat.reduceLeDiff,Nat.reduceEqDiff,bF,hlen,XO,XR,t0,an hg.1]):A:=e
def Jx{A:Prop} (e:A:=by
 have hl:=(Xr.1 this).1;rw[Xw hl]at this;rw[←Yu this];exact List.set_getElem_self hl):A:=e
def Jw{A:Prop} (e:A:=by
 split at hn
 case isFalse=>cases hn
 rename_i SB;subst SB;cases hn;obtain⟨e,rfl⟩:=hd;simp[Builtin.len_,Sy,XN hu,goInt]):A:=e
def Jv{A:Prop} (e:A:=by
 by_cases hab:a=b
 ·simp[dA,dh,hab,zJ]
 ·have: (a==b)=false:=by simp[hab]
  simp[dA,dh,hab,zJ,this]):A:=e
def yO{A:Prop} (e:A:=by
 subst z;have:=(hnt i hi).1;omega):A:=e
def Ga{A:Prop} (e:A:=by
 rw[ei];refine Rs (A5 @t0 @t1 @ix @ld @on) ?_;exact⟨x,RS,sp,rfl⟩):A:=e
def z105{A:Prop} (e:A:=by
 have:jE V.ar x.ev=3:=by rw[jE,XG (by rw[h1];decide),←jx.e,XI h2]
 rw[bB,XI (by rw[this];decide),this]):A:=e
def Ag{A:Prop} (e:A:=by
 simp only[RV.ar,YC];rfl):A:=e
def z107{A:Prop} (e:A:=by
 simp only[Yh,Yl (show i < listed.size by omega),ZJ]at hl ⊢;exact hl):A:=e
def Ju{A:Prop} (e:A:=by
 obtain⟨h1,h2,h3⟩:=s.kl i hi;rw[hk i (Ym h1 s.ln) (fun z=>h3 (by rw[←z];simp[RV.bl]))];exact s.kp i hi):A:=e
def z109{A:Prop} (e:A:=by
 obtain⟨y,hy,rfl⟩:=X2.1 hx;have:=tz w.n2 (XZ (f:=jh.name) (YI.1 hy).1);omega):A:=e
def Jt{A:Prop} (e:A:=by
 have Ud: (ps.map fun(i,x)=>(i,σ x)).toList=ps.toList.map fun p=>(p.1,σ p.2):=by simp
 rw[Ud,Rz];simp[newRow]):A:=e
def Js{A:Prop} (e:A:=by
 by_cases hlt:j < i
 ·have:=RQ (j+1) i (by omega) (by omega);omega
 ·have:=RQ (i+1) j (by omega) (by omega);omega):A:=e
def Jr{A:Prop} (e:A:=by
 have e3:V.cO.length=V.bS.cO.length:=by simp[HV.bS]
 have e4:V.bS.de.length=V.de.length:=by simp[HV.bS]
 omega):A:=e
def Jq{A:Prop} (e:A:=by
 split at h
 ·rename_i h1 h2 h3 h4;simp only at h1 h2 h3 h4;subst h1;subst h2;subst h3;subst h4;cases h;rfl
 ·cases h):A:=e
def yN{A:Prop} (e:A:=by
 exact Ws (A2 @hld @RE) trivial):A:=e
def Jp{A:Prop} (e:A:=by
 rw[VR]at ha hv ⊢;obtain⟨l1,_,h1⟩:=ha;obtain⟨l2,hv,h2⟩:=hv;exact⟨l2,hv,cH.cut hd l _ _ h1 h2⟩):A:=e
def z116{A:Prop} (e:A:=by
 rcases XC.1 hx with hx| hx
 ·exact w.ev x hx
 ·rw[XT]at hx;subst hx;exact⟨d,we⟩):A:=e
def z117{A:Prop} (e:A:=by
 show 0+ (dI k z.cells).length≤row.size;rw[jj,hrs,hzl,Yk];exact Yz _ hkn):A:=e
def Jo{A:Prop} (e:A:=by
 have e1:decide (jE V.ar x.ev≠0)=true:=Xz hb;refine Rs (A3 @t0 @t1 @e1) ?_;rw[bB,XI hb]):A:=e
def z119{A:Prop} (e:A:=by
 rw[ei];exact Rs (A4 @t0 @t1 @ix @ld) trivial):A:=e
def F9{A:Prop} (e:A:=by
 rw[←QU]at hx;exact e1 (huniq j i oj io d hj hio S2 hx)):A:=e
def Jn{A:Prop} (e:A:=by
 refine WF.ce T.c254 (Z.atoi QU.2 (by simp) (by omega)) fun g2=>?_
 refine Rs @t0 ?_;unfold kI;rw[e1];rfl):A:=e
def Jm{A:Prop} (e:A:=by
 obtain⟨ma,va,h1,h2⟩:=h;exact⟨ma,va,fun b e hb=>Ym (h1 b e hb) hnk,h2⟩):A:=e
def F8{A:Prop} (e:A:=by
 exact propext ⟨fun z=>by omega,fun z=>by omega⟩):A:=e
def z124{A:Prop} (e:A:=by
 simp only[RV.ar,YC];rfl):A:=e
def Jl{A:Prop} (e:A:=by
 have hne:=hb' b 0 _ _ rfl;rw[←Yp _ _ hN,XK (YP hne)]):A:=e
def Jk{A:Prop} (e:A:=by
 have:jE V.ar x.ev=23:=by rw[jE,XI h1]
 rw[bB,XI (by rw[this];decide),this]):A:=e
def z127{A:Prop} (e:A:=by
 rw[hr]at h1;simp only[Yq]at h1;omega):A:=e
def F7{A:Prop} (e:A:=by
 rename_i hu;cases hf;exact⟨_,hu,fun _=>rfl⟩):A:=e
def Jj{A:Prop} (e:A:=by
 refine hall ?_;cases hy:eQ s[k]with
 | false=>rfl
 | true=>have:=j8.1 hy;omega):A:=e
def z130{A:Prop} (e:A:=by
 have a1:=hdom b e Rm;have a2:=fu hlen (i:=θ) (j:=j) (by omega) (by omega);omega):A:=e
def z131{A:Prop} (e:A:=by
 have:=st.ts.length;simpa using this):A:=e
def Ji{A:Prop} (e:A:=by
 subst he;rw[XI rfl]at q4;simp only[XS,XR];exact⟨h5,g5,rfl,h6,q4⟩):A:=e
def Jh{A:Prop} (e:A:=by
 simp only[dW,qv,X1,AV.bool.injEq];by_cases hab:x=y<;>simp[hab]):A:=e
def Jg{A:Prop} (e:A:=by
 rw[XE (by omega),ZN,Nat.add_sub_cancel' (by omega)]):A:=e
def Cz{A:Prop} (e:A:=by
 exact fin (j6 h2 h3) h1 h4 h5):A:=e
def Jf{A:Prop} (e:A:=by
 simp only[stepT,mM,oQ];cases val ts x with
 | func f a c=>cases f<;>rfl
 | _=>rfl):A:=e
def F6{A:Prop} (e:A:=by
 cases k2<;>first| trivial| exact absurd rfl hl):A:=e
def z138{A:Prop} (e:A:=by
 simp only[RV.bl,XC,X2];exact .inl (.inl (.inr ⟨x,hx,hb⟩))):A:=e
def z139{A:Prop} (e:A:=by
 rcases XC.1 hx with hx| hx
 ·exact hs.a8.rows x hx
 ·exact hy.rows x hx):A:=e
def F5{A:Prop} (e:A:=by
 have:=hTl l.length (XH _);simp;omega):A:=e
def z141{A:Prop} (e:A:=by
 exact cE.fin R0 (fun z=>absurd z (by decide))):A:=e
def Je{A:Prop} (e:A:=by
 cases hs with
 | nil=>exact .nil
 | mk hN hb he=>exact .mk hN ((hk _ rfl).trans hb) he):A:=e
def z143{A:Prop} (e:A:=by
 rw[←hS,Y9];rintro⟨y,hy,hy2⟩;rw[hsf y hy]at hy2;cases hy2):A:=e
def Jd{A:Prop} (e:A:=by
 rw[Xt,XE (XH _),Yy];rfl):A:=e
def z145{A:Prop} (e:A:=by
 exact cE.fin s (fun z=>absurd z (by decide))):A:=e
def z146{A:Prop} (e:A:=by
 rw[Yp _ _ (XH _),Yy,Xt];rfl):A:=e
def Jc{A:Prop} (e:A:=by
 simp only[RV.bl,XC,X2];exact .inl (.inr ⟨x,hx,hb⟩)):A:=e
def z148{A:Prop} (e:A:=by
 simp only[XQ]at hc;obtain⟨f,_,rfl⟩:=hc;exact hs.elim):A:=e
def Jb{A:Prop} (e:A:=by
 rw[fx,←jx.e,Yc,Xw hsl];rfl):A:=e
def Ja{A:Prop} (e:A:=by
 rw[fx,←TV,Yc,Xw hlt];rfl):A:=e
def I9{A:Prop} (e:A:=by
 rw[Ye,Xw hlt,fO,List.foldl_append];rfl):A:=e
def z152{A:Prop} (e:A:=by
 rw[XE hN,XL (by simp at hbl;omega)]):A:=e
def I8{A:Prop} (e:A:=by
 rw[hh]at hi;refine Rs (A5 @t2 @t3 @t5 @t6 @hi) ?_;exact⟨UC.trans Xx,rfl⟩):A:=e
def z154{A:Prop} (e:A:=by
 rw[em];exact w.n3.add (gn 0 (by decide)) f0):A:=e
def I7{A:Prop} (e:A:=by
 rw[Xt (h++ [aq.bn (k8 ds vf)]) g];exact K _ _ (s.put g1 hc)):A:=e
def z156{A:Prop} (e:A:=by
 cases Sf:o.k<;>rw[Sf]at hk<;>first| (cases hk;done)| simp[l9,Sf]):A:=e
def z157{A:Prop} (e:A:=by
 rw[TV];unfold jE at hb;split at hb
 ·cases hb
 split at hb
 ·cases hb
 omega):A:=e
def I6{A:Prop} (e:A:=by
 rw[Yg];exact propext ⟨fun z=>by omega,fun z=>by omega⟩):A:=e
def z159{A:Prop} (e:A:=by
 cases ok
 ·exact TG
 ·exact⟨_,rfl,_,_,rfl,TG,_,_,rfl,rfl,rfl⟩):A:=e
def z160{A:Prop} (e:A:=by
 exact⟨hone,v,by rw[VK _ (by omega)];exact hv,VR.mono SW _ _ Qr⟩):A:=e
def I5{A:Prop} (e:A:=by
 refine WF.ce T.c15 (ha _ Xx) fun g2=>?_
 refine Rs @t0 ?_;exact⟨Xx,rfl⟩):A:=e
def z162{A:Prop} (e:A:=by
 rw[←nC];exact hF.aC fun j hj=>ne j (by have:=hlo j hj;omega)):A:=e
def I4{A:Prop} (e:A:=by
 simp only[RV.bl,XC,X2];exact .inr ⟨x,hx,hb⟩):A:=e
def z164{A:Prop} (e:A:=by
 rw[Xs,YB,YB];omega):A:=e
def Cy{A:Prop} (e:A:=by
 rw[XG hbb]at ht;exact ht):A:=e
def I3{A:Prop} (e:A:=by
 subst hn;exact .of hmix hA (H (aT A.nt [a0,a1,a2]) hl rfl rfl rfl)):A:=e
def z167{A:Prop} (e:A:=by
 simp only[Xs,Xy,XA];omega):A:=e
def z168{A:Prop} (e:A:=by
 rw[XB];exact Yi (Ya _ _) w.l2):A:=e
def I0{A:Prop} (e:A:=by
 obtain⟨cv',m',rfl,h1,h2,h3⟩:=he;exact hn cv' m' w'' h1 h2 h3):A:=e
def IZ{A:Prop} (e:A:=by
 exact⟨s.length - (k+1),by omega,k+1,by omega,rfl,rfl,rfl⟩):A:=e
def z171{A:Prop} (e:A:=by
 exact dl (by omega) (by omega)):A:=e
def IY{A:Prop} (e:A:=by
 simp only[FQ,E7,Ex.leaves,Z5];cases cN rs ts h<;>simp):A:=e
def z173{A:Prop} (e:A:=by
 rw[this];exact List.set_getElem_self _):A:=e
def IX{A:Prop} (e:A:=by
 rename_i hu;rw[hu]at TL;cases TL;cases hf;exact hone rfl rfl hu):A:=e
def z175{A:Prop} (e:A:=by
 rw[RF];exact cE.fin s5 (fun _=>by simp only[dq,sp,hp];rfl)):A:=e
def IW{A:Prop} (e:A:=by
 refine⟨_,by omega,k+1,by omega,rfl,UY.trans Xx,hu,rfl⟩):A:=e
def IV{A:Prop} (e:A:=by
 refine⟨_,by omega,k+1,by omega,rfl,Sv.trans Xx,hu,rfl⟩):A:=e
def IU{A:Prop} (e:A:=by
 have:=hlate j oj hj hk hjf (by omega);rw[Sg]at this;cases this):A:=e
def IT{A:Prop} (e:A:=by
 simp only[WR,ia.app,Yj,false_implies,Z5]):A:=e
def IS{A:Prop} (e:A:=by
 refine⟨_,by omega,k+1,by omega,rfl,hx.trans Xx,hu,rfl⟩):A:=e
def F4{A:Prop} (e:A:=by
 subst e1;rw[Ro]at Sg;cases Sg):A:=e
def z182{A:Prop} (e:A:=by
 rw[beq_eq_false_iff_ne];rintro rfl;exact absurd hc.1 (by decide)):A:=e
def z183{A:Prop} (e:A:=by
 refine Rs (A3 @t0 @t1 @eM) ?_;exact⟨g',V',rfl,h1,h2⟩):A:=e
def IQ{A:Prop} (e:A:=by
 exact⟨_,by omega,k+1,by omega,rfl,hx.trans Xx,hi,rfl⟩):A:=e
def IP{A:Prop} (e:A:=by
 simp only[stepT,mM];cases dW op (val ts x) (val ts y)<;>rfl):A:=e
def IN{A:Prop} (e:A:=by
 simp only[RV.bl,l1,l2,e2,Xt,YL]):A:=e
def IM{A:Prop} (e:A:=by
 subst hn;exact .of hmix hA (H (aT A.nt [a0,a1]) hl rfl rfl)):A:=e
def IL{A:Prop} (e:A:=by
 subst h3;exact⟨cv,w,m,h1,h2,hr,Grow.refl m _ w hr.cI⟩):A:=e
def IK{A:Prop} (e:A:=by
 refine .run hw (by rw[hk];trivial) ?_;rw[hk];exact ni hs):A:=e
def IJ{A:Prop} (e:A:=by
 exact⟨_,_,rfl,.inr ⟨HD hlt (by omega),by omega⟩⟩):A:=e
def II{A:Prop} (e:A:=by
 exact⟨_,[],rfl,⟨.nil,fun x hx=>by cases hx⟩,rfl⟩):A:=e
def IH{A:Prop} (e:A:=by
 simp only[eX,RV.ar,ZA,Za];rfl):A:=e
def z193{A:Prop} (e:A:=by
 exact(bad (by rw[Rw];rfl) Xx).2):A:=e
def z194{A:Prop} (e:A:=by
 simp only[ZL,Yj,XO];omega):A:=e
def IG{A:Prop} (e:A:=by
 exact kW (by rw[hTl];exact M.size) (VR.mono h1 _ _ hv)):A:=e
def z196{A:Prop} (e:A:=by
 rw[XG Sh];simp only[ZV (YP Sh)]):A:=e
def IF{A:Prop} (e:A:=by
 cases k<;>first| exact H| exact absurd ⟨_,_,rfl⟩ hc):A:=e
def z198{A:Prop} (e:A:=by
 simp only[Xs,XV];omega):A:=e
def IE{A:Prop} (e:A:=by
 rw[bC]at hl;subst hl;cases hf;exact⟨cx,rfl,hx⟩):A:=e
def ID{A:Prop} (e:A:=by
 have:c= []:=Yw.1 h;subst this;rfl):A:=e
end Go.Abs
