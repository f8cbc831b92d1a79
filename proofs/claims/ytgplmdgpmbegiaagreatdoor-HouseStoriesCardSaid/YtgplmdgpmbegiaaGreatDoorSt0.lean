/- Ends of proofs that stand in more than one place. No condition. -/
import Derived.Tactics
set_option linter.all false
namespace Go.Abs
def X1:=@List.getElem?_eq_some_iff
def X2:=@List.length_append
def X3:=@decide_eq_false
def X4:=@List.append_assoc
def X5:=@List.getElem?_append_left
def X6:=@List.getElem?_eq_getElem
def X7:=@decide_eq_true
def X8:=@List.length_cons
def X9:=@List.length_nil
def Ya:=@List.length_map
def Yb:=@List.mem_append
def Yc:=@List.map_append
def Yd:=@if_neg
def Ye:=@List.getElem?_append_right
def Yf:=@Result.andThen_ok
def Yg:=@Nat.le_refl
def Yh:=@if_pos
def Yi:=@List.getElem_mem
def Yj:=@List.getElem?_set_ne
def Yk:=@decide_true
def Yl:=@List.getElem?_set_self
def Ym:=@Array.getElem?_eq_some_iff
def Yn:=@run_underlying
def Yo:=@if_false
def Yp:=@decide_false
def Yq:=@Sem.run_bind
def Yr:=@Option.map_eq_some_iff
def Ys:=@if_true
def Yt:=@List.mem_singleton
def Yu:=@List.append_nil
def Yv:=@List.length_singleton
def Yw:=@Bool.not_true
def Yx:=@List.mem_map_of_mem
def Yy:=@Option.some.injEq
def Yz:=@Bool.not_false
def YA:=@List.mem_map
def YB:=@Nat.zero_le
def YC:=@congrArg
def YD:=@Bool.and_eq_true
def YE:=@List.all_eq_true
def YF:=@List.take_length
def YG:=@Sem.run_pure
def YH:=@List.mem_cons
def YI:=@List.mem_cons_of_mem
def YJ:=@List.getD_eq_getElem?_getD
def YK:=@List.length_filter_le
def YL:=@List.length_set
def YM:=@List.take_add_one
def YN:=@List.take_of_length_le
def YO:=@decide_eq_true_eq
def YP:=@Array.getD_eq_getD_getElem?
def YQ:=@Nat.le_trans
def YR:=@Nat.zero_add
def YS:=@Bool.false_eq_true
def YT:=@Array.getElem?_eq_getElem
def YU:=@Nat.lt_of_lt_of_le
def YV:=@List.mem_cons_self
def YW:=@List.mem_of_getElem?
def YX:=@List.set_append_right
def YY:=@List.map_cons
def YZ:=@List.drop_length
def Y5:=@List.length_take
def Y6:=@Option.some.inj
def Y7:=@List.not_mem_nil
def Y8:=@List.pairwise_cons
def Y9:=@List.length_eq_zero_iff
def Za:=@Option.bind_eq_some_iff
def Zb:=@Nat.sub_self
def Zc:=@Nat.mul_le_mul_right
def Zd:=@List.mem_of_mem_take
def Ze:=@List.length_replicate
def Zf:=@List.getElem_map
def Zg:=@List.getElem?_cons_zero
def Zh:=@List.mem_range
def Zi:=@List.flatten_cons
def Zj:=@List.cons_append
def Zk:=@List.mem_filter
def Zl:=@List.pairwise_append
def Zm:=@Array.getElem?_setIfInBounds_self_of_lt
def Zo:=@Nat.succ_mul
def Zp:=@List.getElem?_map
def Zq:=@of_decide_eq_true
def Zr:=@List.getElem?_cons_succ
def Zt:=@Bool.not_eq_true'
def Zu:=@List.drop_zero
def Zv:=@Ne.symm
def Zw:=@List.filter_append
def Zx:=@List.take_append_drop
def Zy:=@Array.getElem?_toList
def Zz:=@List.getElem?_toArray
def ZA:=@Bool.true_and
def ZB:=@eq_false
def ZC:=@Array.getElem?_eq_none
def ZD:=@List.drop_drop
def ZE:=@List.any_eq_true
def ZF:=@List.all_cons
def ZG:=@List.replicate_succ
def ZH:=@List.pairwise_singleton
def ZI:=@or_false
def ZJ:=@List.nil_append
def ZK:=@List.map_map
def ZL:=@Array.getElem?_setIfInBounds_ne
def ZM:=@List.flatten_append
def ZN:=@Decidable.not_not
def ZO:=@List.mem_or_eq_of_mem_set
def ZP:=@List.getLastD_eq_getLast?
def ZQ:=@Bool.or_eq_true
def ZR:=@List.filter_cons
def ZS:=@decide_eq_decide
def ZT:=@decide_eq_false_iff_not
def ZU:=@List.append_cancel_left
def ZV:=@List.map_nil
def ZW:=@Nat.min_eq_left
def ZX:=@List.take_succ_cons
def ZY:=@Option.map_some
def ZZ:=@List.length_reverse
def Z0:=@List.length_pos_iff
def Z1:=@List.getElem?_eq_none
def Z2:=@List.getElem_set_self
def Z3:=@Bool.false_ne_true
def Z4:=@List.drop_eq_getElem_cons
def Z5:=@Array.all_eq_true_iff_forall_mem
def Z6:=@List.flatten_replicate_singleton
def Z7:=@List.filter_nil
def Z8:=@List.getElem?_take_of_lt
def Z9:=@List.foldl_cons
def aaa:=@List.filter_map
def aab:=@Nat.zero_mul
def aac:=@List.map_set
def aad:=@List.getElem_of_mem
def aae:=@Option.bind_eq_bind
def aaf:=@Nat.mul_one
def aag:=@Array.length_toList
def aah:=@Bool.false_or
def aai:=@List.any_cons
def aaj:=@Option.getD_some
def aak:=@List.length_drop
def aal:=@Bool.false_and
def aam:=@List.findIdx?_cons
def aan:=@List.getElem?_drop
def aao:=@Nat.add_mul
def aap:=@Option.map_none
def aaq:=@Prod.mk.injEq
def aar:=@List.ext_getElem?
def aas:=@Function.comp_def
def aat:=@List.mapM_cons
def aau:=@List.getElem_set_ne
def aav:=@List.replicate_zero
def aaw:=@Array.ext'
def aax:=@Nat.le_of_lt
def aay:=@Nat.add_zero
def aaz:=@List.find?_some
def aaA:=@Option.pure_def
def aaB:=@List.nodup_cons
def aaC:=@Nat.le_succ
def aaD:=@true_and
def aaE:=@Eq.trans
def aaF:=@eq_true
abbrev By:=List UInt8
def Tv:True:=trivial
def Om{A:Prop}(e:A:=by omega):A:=e
def De{A:Prop}(e:A:=by decide):A:=e
def Si{A:Prop}(e:A:=by simp):A:=e
def z1{A:Prop} (e:A:=by
 refine Ws hs.aL ?_;refine WL.inv T.mix (fun n ts h'=>∃k:Nat,k≤L.length∧n=L.length - k∧Ext h h'∧L.findIdx? p= ((L.drop k).findIdx? p).map (· +k)∧ts.length=19∧slot ts 0=s∧slot ts 1=f∧slot ts 7= .i L.length∧slot ts 8= .i k) L.length
  ⟨0,by omega,rfl,Ext.refl h,by simp,rfl,rfl,rfl,rfl,rfl⟩ ?_
 rintro _ ts _ ⟨k,hk,rfl,⟨g,rfl⟩,hi,hlen,t0,t1,t7,t8⟩;rw[kT ts 19 hlen];by_cases hlt:k < L.length
 ·have hd:L.drop k=L[k]::L.drop (k+1):=by simp
  have e3: (k:Int)< L.length:=by omega
  simp only[aW,bd,bC,bD,Nat.reduceAdd,Nat.reduceMul,Nat.reduceLeDiff,Nat.reduceEqDiff,t0,t1,t7,t8,e3,Yk,hs.dI hlt,hs.kR hlt];refine WF.val (hf L[k] (by simp) _ ⟨g,rfl⟩) ?_;rintro _ g1 rfl;cases hp:p L[k]with
  | true=>
   refine Ws @t8 ?_;rw[cU,hi,hd,aam,hp];simp
  | false=>
   refine Ws (A2 @t8 (wrapN (show k+1 < 2^63 by omega))) ?_;refine⟨_,?_,k+1,by omega,rfl,?_,rfl⟩
   ·omega
   ·rw[hi,hd,aam,hp];simp only[YS,Yo,Option.map_map];congr 1;funext i;simp only[Function.comp];omega
 ·have e3:¬ (k:Int)< L.length:=by omega
  have e4:k=L.length:=by omega
  refine Ws (A6 @t0 @t1 @t7 @t8 @e3 @Yp) ?_;rw[cU,hi,e4,YZ];rfl):A:=e
def z2{A:Prop} (e:A:=by
 rw[hrow]at hff;rw[hrow];refine Ws (A6 @t1 @t5 @t8 @t9 @t10 (wrapN (show k+1 < 2^63 by omega))) ?_;have hout:∀b,sB out=some b→b < (h++g).length:=fun b hb=>(hfr.bM hb).2
 have hnew:∀b,sB s' =some b→(h++g).length≤b∧b < (h++g).length+ (1+g1.length):=fun b hb=>by
  have:=XP.bM hb;simp only[X2,X8,X9]at this ⊢;omega
 have hold:∀x∈L',∀b,sB x.2=some b→b < (h++g).length∧sB out≠some b:=fun x hx b hb=>by
  refine⟨((hin x hx).bM hb).2,fun e=>?_⟩;exact(Y8.1 RM).1 _ (Yx hx) b e hb
 refine⟨_,?_,k+1,_,L'++ [(L[k].1,s')],by omega,rfl,?_,hff,?_,?_,rfl,rfl⟩
 ·omega
 ·rw[Yc,hm,YM,X6 hlt,Yc];rfl
 ·intro x hx;rcases Yb.1 hx with hx| hx
  ·refine((((hin x hx).app _).app _).app _).aB fun b hb=>hkp b ?_ fun b0 o n e hso=>?_
   ·have:=(hold x hx b hb).1;simp only[X2]at this ⊢;omega
   ·intro e;subst e;exact(hold x hx b hb).2 (by rw[hso];rfl)
  ·rw[Yt]at hx;subst hx;refine Fr.low (N:=(h++g++ [ak.cells [] true true]).length) ?_ (by simp only[X2];omega);refine Fr.aB (h:=_) ((XP.app _).low ?_) fun b hb=>hkp b ?_ fun b0 o n e hso=>?_
   ·simp
   ·have:=hnew b hb;simp only[X2,X8,X9]at this ⊢;omega
   ·intro e;subst e;have h1:=hout b (by rw[hso];rfl);have h2:=(hnew b hb).1;omega
 ·have em: (L'++ [(L[k].1,s')]).map (fun x=>sB x.2)= (L'.map fun x=>sB x.2)++ [sB s']:=by rw[Yc];rfl
  rw[em];refine Y8.2 ⟨?_,Zl.2 ⟨(Y8.1 RM).2,ZH _ _,?_⟩⟩
  ·intro y hy b hb TR;cases hb;rcases Yb.1 hy with hy| hy
   ·obtain⟨x,hx,rfl⟩:=YA.1 hy;have:=(hold x hx _ TR).1;simp only[X2]at this;omega
   ·rw[Yt]at hy;rw[hy]at TR;have:=(hnew _ TR).2;simp only[X2,X8,X9]at this;omega
  ·intro y hy z hz b hb hzb;obtain⟨x,hx,rfl⟩:=YA.1 hy;rw[Yt]at hz;rw[hz]at hzb;have h1:=(hold x hx _ hb).1;have h2:=(hnew _ hzb).1;omega):A:=e
def z3{A:Prop} (e:A:=by
 obtain⟨V2,rfl,sb,K1⟩:=fin hv;refine Rs (A4 @t3 @t4 @t7 @sb) ?_;refine K1 _ ?_ ?_ ?_ ?_ ?_
 ·simp only[bE,hlen]
 ·exact Zs @t3 trivial
 ·exact Zs @t4 trivial
 ·exact Zs @t7 trivial
 ·exact Zn trivial):A:=e
def z4{A:Prop} (e:A:=by
 refine WF.val (hvk _ (by repeat first| exact Ext.refl _| refine Ext.app _ ?_)) ?_;rintro _ g1 rfl;refine Wn ?_;refine WR.fL (h0:=h) (cs:=((L.take k).map F).map ao) (ys:=[ao (F L[k])]) ((((hfr.app _).app _).app _)) (Fr.push (N:=0) (YB _) [ao (F L[k])] (by simp[ao])).aX (by decide) (by simp) (by simp;omega) (by simp only[sC]) ?_;intro g' Q7 hff hkp;have hrow: ((L.take k).map F).map ao++ [ao (F L[k])]= ((L.take (k+1)).map F).map ao:=by rw[YM,X6 hlt,Yc,Yc];rfl
 rw[hrow]at hff;rw[hrow];refine Ws (A6 @t1 @t5 @t8 @t9 @t10 (wrapN (show k+1 < 2^63 by omega))) ?_;refine⟨_,?_,k+1,_,by omega,rfl,hff,rfl,rfl⟩;omega):A:=e
def z5{A:Prop} (e:A:=by
 have hab:cE n x.ev=false:=by rw[cE,To];rfl
 refine kE (FN @t1 @t5 @t9 @t10 oK.sl.aL @e3 @ik @lx @sx @a8 @aM @Q0 @eO @Yp @Yk @e5) ?_;exact⟨_,by omega,k+1,out,L',by omega,rfl,xK.trans ⟨_,rfl⟩,hfr.app _,hL',no hab,by omega,rfl,rfl⟩):A:=e
def z6{A:Prop} (e:A:=by
 refine WR.pC (B:=W) (cs:=L'.map EV.row) (hfr.ext eZ) rfl (xK.trans eZ) (by decide) (by rw[Ya];omega) ?_;intro W5 s' x5 hff hn5 q5 l5 hk5;obtain⟨a1,a2,a3,a4⟩:=yes hab W5 s' x5 hff;refine Rs (A5 @t1 @t5 @t9 @t10 @e5) ?_;exact⟨_,by omega,k+1,s',_,by omega,rfl,x5,a1,a2,a3,a4,rfl,rfl⟩):A:=e
def z7{A:Prop} (e:A:=by
 have e3:¬ (k:Int)< L.length:=by omega
 have e4:k=L.length:=by omega
 refine Ws (A7 @t1 @t5 @t8 @t9 @t10 @e3 @Yp) ?_;rw[e4,YF]at hfr;exact hfr):A:=e
def z8{A:Prop} (e:A:=by
 rw[hrow]at hff;rw[hrow];refine Ws (A6 @t1 @t5 @t8 @t9 @t10 (wrapN (show k+1 < 2^63 by omega))) ?_;refine⟨_,?_,k+1,_,by omega,rfl,hff,rfl,rfl⟩;omega):A:=e
def z9{A:Prop} (e:A:=by
 have Su:some i∈V.bl:=by rw[hd];exact iN hi
 refine hk i (hin i Su).2 (fun e=>?_) (fun e=>r.ne (e▸Su));obtain⟨h1,h2,h3⟩:=Zl.1 RM;rcases hi with hi| hi
 ·exact h3 _ hi _ (by simp) i rfl e
 ·exact(Y8.1 h2).1 _ hi i e rfl):A:=e
def Qg{A:Prop} (e:A:=by
 have hrow:V.aD.map aV++ [aV (y,t)]= (V.aD++ [(y,t)]).map aV:=by rw[Yc];rfl
 rw[hrow]at hff;rw[hrow];have hbl:=r.lt;have Rb:sB V.s3≠some b:=fun e=>r.ne (by rw[←e];simp[RV.bl])
 have hk1:∀i,i < (B++g).length→sB V.s3≠some i→(B++g')[i]? = (B++g)[i]? :=fun i hi hne=>by
  rw[hkp i (by simp only[X2]at hi ⊢;omega) (fun b0 o n e he z=>hne (by rw[he,z];rfl))];exact(show Ext (B++g) _ from Xx).get hi
 have mB: (B++g')[b]? =some (.b V.row):=(hk1 b hbl Rb).trans r.m;have TZ:=fun(b' o n e:Nat)=>hO (i:=4) (v:=.slice b' o n e) mB rfl (by decide)
 refine Rs (A4 @t0 @t1 @TZ @eS) ?_;refine Gi r hff ?_ (fun i hi=>by cases hi;exact .inr (by simp only[X2];omega)) hk1 ?_ ?_
 ·refine Fr.low (N:=(B++g).length) ((show Fr (B++g).length _ t 1 _ from RW.app _).aB fun i hi=>hkp i ?_ (fun b0 o n e he z=>?_)) (by simp)
  ·have:=(RW.bM hi).2;simp only[X2]at this ⊢;omega
  ·have h1:=(RW.bM hi).1;have h2:=(r.o.i3.bM (show sB V.s3=some i by rw[he,z];rfl)).2;omega
 ·intro i hi;have h1:=RW.bM hi;refine⟨h1.1,fun e=>?_⟩;cases e;have:=h1.2;simp only[X2,X8,X9]at this;omega
 ·rw[hy];simp[RV.an,dq]):A:=e
def I0{A:Prop} (e:A:=by
 rcases hn i hi with hn| hn
 ·exact .inl hn
 ·refine .inr ⟨fun y hy e=>?_,fun y hy e=>?_⟩
  ·subst e;have:=(hin i (by rw[hd];exact iN (.inl hy))).2;omega
  ·subst e;have:=(hin i (by rw[hd];exact iN (.inr hy))).2;omega):A:=e
def z12{A:Prop} (e:A:=by
 refine⟨own,r.hN,hm,fun hb=>?_⟩;have hbl:=r.lt;have Td:=r.ne;rw[hd]at Td;by_cases hsb:sB s=some b
 ·rcases hn b hsb with z| z
  ·exact Td (by rw[z];simp)
  ·omega
 ·by_cases htb:sB t=some b
  ·have:=(hnt b htb).1;omega
  ·have SP:some b≠sB s:=fun z=>hsb z.symm
   have htb':some b≠sB t:=fun z=>htb z.symm
   simp only[RV.bl,Yc,YY,ZV,Yb,YH,Y7,ZI]at hb;simp only[Yb,YH,Y7,ZI]at Td
   grind):A:=e
def IZ{A:Prop} (e:A:=by
 rw[hkp i (by simp only[X2]at hi ⊢;omega) (fun b0 o n e he z=>hne (by rw[he,z];rfl))];exact(show Ext (B++g) _ from Xx).get hi):A:=e
def Qf{A:Prop} (e:A:=by
 by_cases hex:∃ (x:Nat) (ox:bJ),l[x]? =some ox∧listed.getD x false=true∧ox.dst=some t
 ·obtain⟨x,ox,hx,hxl,Uh⟩:=hex;obtain⟨oo,Tx,Uw⟩:=R5 x ox t hx Uh;have hxi:x < i:=by
   by_cases e1:x=i
   ·subst e1;rw[R2]at hxl;cases hxl
   ·by_cases e2:x < i
    ·exact e2
    ·have e3:=(cL hsl (show i < x by omega) ho Tx).2 t Uw ht;have e4:=hcl x i hxl hin e3;rw[R2]at e4;cases e4
  rw[Ra (x+1) i t (by omega) (by omega) (fun k o' a2 a3 a4 a5=>by have:=huniq x k ox o' t hx a4 Uh a5;omega)];exact h2 t x ox hx hxl Uh
 ·rw[Ra 0 i t (by omega) (by omega) (fun k o' e2 e3 e4 e5=>by
   obtain⟨oo,Tx,Rr⟩:=R5 k o' t e4 e5;have h6:=((cL hsl e3 Tx ho).1 t Rr).2 ht;exact hex ⟨k,o',e4,hahead k (Ym.1 Tx).1 h6,e5⟩)]
  exact h1 t fun j oj hj hl Rr=>hex ⟨j,oj,hj,hl,Rr⟩):A:=e
def Qe{A:Prop} (e:A:=by
 repeat (first| simp (config:={ maxSteps:=1000000 }) only[aW,bd,bC,bD,Nat.reduceAdd,Nat.reduceMul,Nat.reduceLeDiff,Nat.reduceEqDiff,bE,hlen,Yo,Ys,t2,t3,t4,le,lr,a8,aM,aY,aG,Q0,eO,reduceCtorEq,Yp,Yk,fZ,j1,f1,ix,l2,oJ.aL,e2,iy,lv,e3,sb,gm]| simp (config:={ maxSteps:=1000000 }) (disch:=first| (simp only[X2,X8,X9]<;>omega)| rfl| omega| fail) only[fU,aW,bd,bC,bD,Nat.reduceAdd,Nat.reduceMul,Nat.reduceLeDiff,Nat.reduceEqDiff,bE,hlen,Yo,Ys,t2,t3,t4,le,lr,a8,aM,aY,aG,Q0,eO,reduceCtorEq,Yp,Yk,fZ,j1,f1,ix,l2,oJ.aL,e2,iy,lv,e3,sb,gm])
 rw[bA,Yd (fun z=>z hct),Yh h3];exact cD.fin Rn (fun z=>absurd z (by decide))):A:=e
def AG{A:Prop} (e:A:=by
 exact⟨by simp[Op.equalIn,Yn hu],fun l=>by simp,by simp,rfl,rfl⟩):A:=e
def Qd{A:Prop} (e:A:=by
 have hlt:=(X1.1 hx).1;have Rm:t < a1.tmps.size:=by have:=hTl l.length (Yg _);omega
 have ex: (T l.length).getD t aA=x:=by simp[List.getD,hx]
 have ey:a1.tmps.getD t undef=a1.tmps[t]:=by simp[YP,YT Rm]
 refine⟨a1.tmps[t],by simp,?_⟩;rw[←ex,←ey];by_cases hw:∃ (j:Nat) (o:bJ),l[j]? =some o∧o.dst=some t
 ·obtain⟨j,o,hj,ho⟩:=hw;have Tg:=(X1.1 hj).1;rw[Ra (j+1) l.length t (by omega) (Yg _) (fun k o' a2 a3 a4 a5=>by have:=huniq j k o o' t hj a4 ho a5;omega)];exact h2 t j o hj (hall j (by omega)) ho
 ·rw[Ra 0 l.length t (by omega) (Yg _) (fun k o' _ _ h4 h5=>hw ⟨k,o',h4,h5⟩)];exact h1 t fun j o hj _ ho=>hw ⟨j,o,hj,ho⟩):A:=e
def Qc{A:Prop} (e:A:=by
 cases x with
 | agg l=>cases hx
 | dL l=>cases hx
 | bool b=>rw[VR]at h;subst h;rfl
 | int k n=>rw[VR]at h;subst h;rfl
 | wG k b=>rw[VR]at h;obtain⟨_,rfl,_⟩:=h;rfl
 | wk k x y=>rw[VR]at h;obtain⟨_,_,rfl,_⟩:=h;rfl
 | str s=>rw[VR]at h;subst h;rfl
 | ptr b o=>rw[VR]at h;obtain⟨_,_,rfl⟩:=h;rfl
 | nilPtr=>rw[VR]at h;subst h;rfl
 | slice b o n e=>rw[VR]at h;obtain⟨_,_,_,_,rfl,_⟩:=h;rfl
 | af=>rw[VR]at h;subst h;rfl
 | map r=>rw[VR]at h;obtain⟨_,_,rfl⟩:=h;rfl
 | cQ=>rw[VR]at h;subst h;rfl
 | func f a c=>rw[VR]at h;obtain⟨_,_,_,rfl,_⟩:=h;rfl
 | nilFunc=>rw[VR]at h;subst h;rfl
 | qh u a=>rw[VR]at h;obtain⟨_,rfl,_⟩:=h;rfl
 | kf=>cases hx):A:=e
def Qb{A:Prop} (e:A:=by
 simp only[YS,Yo,Option.map_map];congr 1;funext i;simp only[Function.comp];omega):A:=e
def z20{A:Prop} (e:A:=by
 obtain⟨h1,h2,h3⟩:=s.kl i hi;rw[g2 i h2,hk i (YU h1 s.ln) (fun z=>h3 (by rw[←z];simp[RV.bl]))];exact s.kp i hi):A:=e
def z21{A:Prop} (e:A:=by
 simp only[RV.bl,Yc,YY,ZV,Yb,YH,List.mem_nil_iff,ZI]at h ⊢
 grind):A:=e
def Qa{A:Prop} (e:A:=by
 have hX:Ext X (X++ [.b V.row]++ [.b x.row]++ [.b kH]):=Xx;have ho:cG B.length (X++ [.b V.row]++ [.b x.row]++ [.b kH]) V:=o.au fun i hi=>hX.get (o.dP hi).2
 refine⟨⟨ho,hx.len,by simp,fun hi=>by have:=(o.dP hi).2;omega⟩,hx.trans hX,Yg _,fun _ _=>rfl,fun i hi=>?_⟩;simp only[X2,X8,X9];rcases hi with⟨h1,h2⟩| h1| h1
 ·exact⟨by omega,by omega,h2⟩
 ·exact⟨by omega,by omega,fun z=>by have:=(o.dP z).2;omega⟩
 ·exact⟨by omega,by omega,fun z=>by have:=(o.dP z).2;omega⟩):A:=e
def P9{A:Prop} (e:A:=by
 have e5:=wrapN (n:=k) (by omega);by_cases hp:L[k]=M[k]
 ·have q:decide (L[k]≠M[k])=false:=X3 (fun z=>z hp);refine Rs (nw @t0 @t1 @t5 @e3 hs.aL @ix @ld @iy @ly @q @e5) ?_;refine⟨_,by omega,k+1,by omega,rfl,?_,rfl⟩;rw[YM,YM,hi,X6 hlt,X6 Rm,hp]
 ·have q:decide (L[k]≠M[k])=true:=X7 hp;refine Rs (nv @t0 @t1 @t5 @e3 hs.aL @ix @ld @iy @ly @q) ?_;exact YC AV.bool (X3 (fun(e:L=M)=>hp (by simp only[e]))).symm):A:=e
def z24{A:Prop} (e:A:=by
 split at hk
 case isFalse=>cases hk
 rename_i hg;cases Ru:flat P 20 t with
 | none=>simp[Ru]at hk
 | some ks=>
  simp[Ru]at hk;subst hk;have hb':y8 ks (ρ x) (ρ y)=some b:=hb;unfold y8 at hb';split at hb'
  case h_2=>cases hb'
  rename_i xs ys hxa Sy;rw[hxa]at hx;rw[Sy]at hy;obtain⟨lx,rfl,TV⟩:=hx;obtain⟨ly,rfl,TU⟩:=hy;split at hb'
  case isFalse=>cases hb'
  rename_i hlen;refine fin (wh hg) ?_ rfl rfl;exact BD 20 t ks Ru 10000 (by omega) _ hu xs ys lx ly b hlen.1 hlen.2 TV TU hb' w):A:=e
def AP{A:Prop} (e:A:=by
 simp only[compile]at hc
 (repeat' split at hc)
 all_goals cases hc):A:=e
def Mw{A:Prop} (e:A:=by
 have:∀n,qG (Array.replicate ops.size false) n≤n:=by
  intro n
  induction n with
  | zero=>exact Yg _
  | succ n ihn=>simp only[qG];split<;>omega
 exact this _):A:=e
def Ji{A:Prop} (e:A:=by
 cases hk;exact eP.nB hr (F2 (w:=w) (ox:=x) (oy:=y) hk0 hx hy hs) (fun cv h=>by simp only[execOp,ho];rw[Yq,h];rfl)):A:=e
def z28{A:Prop} (e:A:=by
 rcases hs.N2 with⟨rfl,rfl⟩| hq
 ·refine Ws @B3 ?_;exact .nil
 ·refine Ws @hq ?_;refine WR.pA (N:=h.length) ba (Yg _) (hs.ext (by repeat first| exact Ext.refl _| refine Ext.app _ ?_)) (by omega) fun s' g hf=>?_
  refine Wn ?_;exact hf):A:=e
def MV{A:Prop} (e:A:=by
 obtain⟨xi,a1,a2⟩:=R5 i oi d hi h1;obtain⟨xj,b1,b2⟩:=R5 j oj d hj h2;by_cases hlt:i < j
 ·exact absurd b2 ((cL hsl hlt a1 b1).1 d a2).1
 ·by_cases Ua:j < i
  ·exact absurd a2 ((cL hsl Ua b1 a1).1 d b2).1
  ·omega):A:=e
def MU{A:Prop} (e:A:=by
 show 0+0+nc * i.size≤(vo++vn).length+rest.length;rw[X2,RY,RL,Xs,SO];have e1:nc * i.size= (n+k) * i.size+ (nc - (n+k)) * i.size:=by rw[←aao];congr 1;omega
 rw[aao]at e1;simp;omega):A:=e
def z31{A:Prop} (e:A:=by
 rw[e]at hb;by_cases hsb:sB s=some b
 ·rcases hn b hsb with z| z
  ·exact Td (by rw[z];simp)
  ·omega
 ·rcases vC hb with z| z| z
  ·exact Td (iN (.inl z))
  ·exact hsb z.symm
  ·exact Td (iN (.inr z))):A:=e
def MT{A:Prop} (e:A:=by
 have hlt:j < ops.size:=by have:=(X1.1 hj).1;omega
 have ho:ops[j]? =some ops[j]:=YT hlt;obtain⟨io',h1,h2⟩:=Q4 j ops[j] (by simp);rw[hj]at h1;cases h1;exact⟨_,ho,h2⟩):A:=e
def P8{A:Prop} (e:A:=by
 have hsh:U.an.aj=V.an.aj.map (ku a z):=by
  refine List.ext_getElem (by simp[RV.an,S2]) fun i h1 h2=>?_
  have hi:i < U.aj.length:=by simpa [RV.an]using h1
  have:=hU i hi (by omega);rw[Yh (by omega)]at this
  simpa [RV.an]using this
 have heq:∀A C:eX,{ A with aj:=C.aj } =C→A={ C with aj:=A.aj }:=by
  intro A C h;cases A;cases C;simp_all
 have:=heq _ _ hreg;rw[this,hsh,dq,ha,hz]):A:=e
def P7{A:Prop} (e:A:=by
 refine⟨(fn.aB fun j hj=>kp j (ln j hj).2 fun e=>?_).low (by simp only[X2];omega),(fv.aB fun j hj=>kp j (lv j hj).2 fun e=>?_).low (by simp only[X2];omega),fun j hj e=>?_,fun j hj e=>?_⟩
 ·have h1:=(ln j hj).1;have h2:=hout j e;omega
 ·have h1:=(lv j hj).1;have h2:=hout j e;omega
 ·have h1:=(ln j hj).2;have h2:=Ty j e;omega
 ·have h1:=(lv j hj).2;have h2:=Ty j e;omega):A:=e
def P6{A:Prop} (e:A:=by
 by_cases hxy:x≤y
 ·have:=TO x (y - x) (by omega) (fun j o h1 h2 h3=>by
   cases hk:cC o.k with
   | true=>rfl
   | false=>have:=hno j o h3 hk;omega)
  rw[show x+ (y - x)=y from by omega]at this;exact this.symm
 ·have:=TO y (x - y) (by omega) (fun j o h1 h2 h3=>by
   cases hk:cC o.k with
   | true=>rfl
   | false=>have:=hno j o h3 hk;omega)
  rw[show y+ (x - y)=x from by omega]at this;exact this):A:=e
def MS{A:Prop} (e:A:=by
 subst e;by_cases hsi:sB s=some i
 ·exact n2 hsi
 ·have:=(hin i (by rw[hd];simp only[Yb,YH,Y7,ZI]at hy ⊢;have hsi':some i≠sB s:=fun z=>hsi z.symm;grind)).2;omega):A:=e
def z37{A:Prop} (e:A:=by
 obtain⟨e,he,hb,hor⟩:=(n8 hed ho).2 x hx ha;have hle:=VQ e he hb;rcases hor with rfl| hor
 ·exact hle
 ·exact hcl e.on x hle hx hor):A:=e
def P5{A:Prop} (e:A:=by
 simp only[QX]at hc;split at hc
 case h_2=>cases hc
 rename_i kt e x' i' y' hu Q2 hi' hy';simp only[Yr]at hc;obtain⟨kk,hkk,rfl⟩:=hc;obtain⟨w',h1,rfl,h2,h3⟩:=G6 (w:=w) hu hkk hr (hρ x (by simp[QX,Op.operands]) x' Q2) (hρ i (by simp[QX,Op.operands]) i' hi') (hρ y (by simp[QX,Op.operands]) y' hy') hs;exact⟨undef,w',m,.inr ⟨by simp[execOp,QX,h1],rfl⟩,jK m,h2,h3⟩):A:=e
def MR{A:Prop} (e:A:=by
 rw[hp,Yd (by decide),Yu]at Rh;refine Ws (A6 @t1 @t5 @t8 @t9 @t10 (wrapN (show k+1 < 2^63 by omega))) ?_;refine⟨_,?_,k+1,out,by omega,rfl,by rw[Rh];exact(hfr.app _).app _,rfl,rfl⟩;omega):A:=e
def z40{A:Prop} (e:A:=by
 have h1:=RW.bM hi;refine⟨h1.1,fun e=>?_⟩;cases e;have:=h1.2;simp only[X2,X8,X9]at this;omega):A:=e
def P4{A:Prop} (e:A:=by
 rcases Q9 b1 e1 h1 with⟨rfl,rfl⟩| ⟨VK,SF⟩
 ·rcases Q9 b2 e2 h2 with⟨rfl,rfl⟩| ⟨hl2,Vm⟩
  ·exact absurd rfl hne
  ·exact absurd hcb.symm (hout b2 e2 Vm)
 ·rcases Q9 b2 e2 h2 with⟨rfl,rfl⟩| ⟨hl2,Vm⟩
  ·exact absurd hcb (hout b1 e1 SF)
  ·rw[X5 VK]at hk1;rw[X5 hl2]at QY;exact hr.sep b1 b2 e1 e2 k1 k2 hne SF Vm hk1 QY hcb):A:=e
def Mv{A:Prop} (e:A:=by
 rw[cZ (by omega)]at hj ⊢;split
 ·rfl
 ·split at hj
  ·rename_i hji;subst hji;exact hahead x hx ha
  ·exact hcl j x hj hx ha):A:=e
def Df{A:Prop} (e:A:=by
 exact cD.fin Rn (fun z=>absurd z (by decide))):A:=e
def MQ{A:Prop} (e:A:=by
 have e3:¬ (k:Int)< L.length:=by omega
 have e4:k=L.length:=by omega
 refine Ws (A7 @t1 @t5 @t8 @t9 @t10 @e3 @Yp) ?_;rw[e4,YF]at hm;exact⟨L',hm,hfr,hin,RM⟩):A:=e
def Mu{A:Prop} (e:A:=by
 rw[hkp i (by simp only[X2];omega) (fun b0 o n e he z=>hne (by rw[he,z];rfl))];exact X5 hi):A:=e
def z46{A:Prop} (e:A:=by
 exact(show Ext (B++g) _ from Xx).get hi):A:=e
def MP{A:Prop} (e:A:=by
 cases QW;rw[hv]at h1;have h1':=h1;obtain⟨f',a',c',h2,h3,_⟩:=h1;simp only[AE]at h3;subst h3;exact eP.same hr h1' (by simp[execOp,QX,h2])):A:=e
def P3{A:Prop} (e:A:=by
 simp only[X2,X8,X9]at this ⊢;omega):A:=e
def z49{A:Prop} (e:A:=by
 simp only[QX,Yr]at hc;obtain⟨x',Q2,rfl⟩:=hc;have QW:dt (.aF x') ρ h=some (v,h'):=hs;simp only[dt,Yy,aaq]at QW;obtain⟨rfl,rfl⟩:=QW;exact eP.same hr (hρ x (by simp[QX,Op.operands]) x' Q2) (by simp[execOp,QX])):A:=e
def P2{A:Prop} (e:A:=by
 have:=uF (T:=T) (t:=t) (a:=x) (y - x) (fun j h1 h2=>by
  have hj:l[j]? =some (l[j]'(by omega)):=X6 (by omega);obtain⟨v,hv⟩:=Sx j _ hj;exact⟨_,v,hv,hno j _ h1 (by omega) hj⟩)
 rwa [show x+ (y - x)=y from by omega]at this):A:=e
def z51{A:Prop} (e:A:=by
 exact⟨_,by omega,k+1,_,by omega,rfl,hff,rfl,rfl⟩):A:=e
def P1{A:Prop} (e:A:=by
 rename_i hm;cases h;rw[YD,YD]at hm;obtain⟨f,hf⟩:=Option.isSome_iff_exists.1 hm.1.2;have h1:=aaz hf;rw[YD]at h1;exact .inr (.inr ⟨l3,rfl,hq.2,⟨l,hl⟩,2,XH,.inr ⟨f,h1.1,h1.2⟩,hm.2⟩)):A:=e
def z53{A:Prop} (e:A:=by
 refine⟨_,w',m',room UW hlen Ta (by simp only[UZ];rw[gD];exact h0),⟨_,_,cap,h1,rfl,UW,fun _=>?_,?_⟩,h2,h3⟩
 ·rw[UZ];simp only[Addr.mk.injEq,aaD,and_true];omega
 ·show 0+ (en.d+o)+cap * i.size≤en.sz;omega):A:=e
def P0{A:Prop} (e:A:=by
 have QW:S j=true:=by unfold mark at hs;rwa [Yd hji]at hs
 rw[dy (huniq j o d hji hj ho)];refine VR.mono ?_ _ _ (M.yF d j o hj QW ho);intro b e hb;unfold bY.dC at hb ⊢;split at hb
 ·rename_i hlt;rw[Yh hlt];exact Ts _ _ hb
 ·cases hb):A:=e
def PZ{A:Prop} (e:A:=by
 have e2: (#[]++ (⟨[.string ⟨⟨s⟩⟩,.int .u8 (c.toNat:Int)]⟩:Array Value)++#[])=#[]++#[.string ⟨⟨s⟩⟩,.int .u8 (c.toNat:Int)]++#[]:=rfl;simp only[e2,e',Result.andThen];exact⟨_,m,rfl,rfl,hr,Grow.refl m h w hr.cI⟩):A:=e
def Mt{A:Prop} (e:A:=by
 cases hx:m h.length with
 | none=>rfl
 | some y=>exact absurd (hr.cI _ _ hx) (by omega)):A:=e
def MO{A:Prop} (e:A:=by
 rw[Rh,Zw];simp only[ZR,Z7,hd,Ys,Yc,YY,ZV]):A:=e
def PY{A:Prop} (e:A:=by
 rw[a5 i hi (by omega),hU i (by omega) hi'];by_cases SU:i=k
 ·subst SU;rw[Yh rfl,Yd (by omega),Yh (by omega)]
 ·rw[Yd SU];by_cases hil:i < k
  ·rw[Yh hil,Yh (by omega)]
  ·rw[Yd hil,Yd (by omega)]):A:=e
def z59{A:Prop} (e:A:=by
 subst z;rcases hb' i hi with z| z
 ·exact Rb z
 ·omega):A:=e
def PX{A:Prop} (e:A:=by
 have hj:l[x+k]? =some (l[x+k]'(by omega)):=X6 (by omega);rw[show x+ (k+1)=x+k+1 from by omega,TN _ _ hj (hno _ _ (by omega) (by omega) hj)];exact ih (by omega) fun j o h1 h2 h3=>hno j o h1 (by omega) h3):A:=e
def IY{A:Prop} (e:A:=by
 subst z;rcases hn i hi with z| z
 ·exact Rb z
 ·omega):A:=e
def MN{A:Prop} (e:A:=by
 obtain⟨v,hv⟩:=Sx j _ (X6 (show j < l.length by omega));rw[hv,mR];exact ih (by omega)):A:=e
def PW{A:Prop} (e:A:=by
 split at hk
 case isFalse=>cases hk
 simp only[Yr]at hk;obtain⟨ks,_,rfl⟩:=hk;exact eP.nB hr (F2 (w:=w) (ox:=x) (oy:=y) hk0 hx hy hs) (fun cv h=>by simp only[execOp,ho];rw[Yq,h];rfl)):A:=e
def PV{A:Prop} (e:A:=by
 refine⟨e,ts,h'++ [ak.dead]++g',fun r hr=>?_,done e h' g' hl Sv⟩;have:r=none:=hr;subst this;have:=Ev.eJ (h:=h) (ps:=ps) (asg:=asg) (body:=body) hA hg hs (mU hl) bS;rw[rp hl]at this;exact this):A:=e
def PU{A:Prop} (e:A:=by
 refine y7 hg Q2 ?_ (fun t S9=>ht t ?_)
 ·rw[Z5]at XM;exact XM x hx
 ·subst S9;exact List.mem_append_left _ (List.mem_filterMap.2 ⟨.tmp t,by simpa using hx,rfl⟩)):A:=e
def MM{A:Prop} (e:A:=by
 rw[YM,X6 hlt,Zw];congr 1;cases hp:p L[k]<;>simp[hp]):A:=e
def PT{A:Prop} (e:A:=by
 rw[YM,X6 R1]at hy';rcases Yb.1 hy' with hy'| hy'
 ·exact hsf y' hy'
 ·simp only[Option.toList_some,Yt]at hy';rw[hy',←hy];exact h4):A:=e
def PS{A:Prop} (e:A:=by
 refine Rs (A2 @t0 @o1) ?_;refine WF.res T.c177 (r177 T (hx.ext Xx) (by simp;omega)) ?_;rintro s' g1 hf;have o2:=hf.aX.one;refine Rs (A3 @t0 @o1 @o2) ?_;exact⟨s',rfl,(Fr.swap hf (by simp)).low (by simp)⟩):A:=e
def Ms{A:Prop} (e:A:=by
 rw[Yd RG]at QY;exact hr.sep b1 b2 e1 e2 k1 k2 hne Sj Q6 hk1 QY hcb):A:=e
def z70{A:Prop} (e:A:=by
 have q:decide ((L.length:Int)≠M.length)=true:=X7 (by omega);refine Rs (A5 @t0 @t1 hs.aL ht.aL @q) ?_;exact YC AV.bool (X3 (fun(e:L=M)=>h1 (by rw[e]))).symm):A:=e
def PR{A:Prop} (e:A:=by
 refine⟨_,by omega,k+1,out,by omega,rfl,?_,rfl,rfl⟩;rw[Rh,Zw];simp only[ZR,Z7,hd,YS,Yo,Yu];exact hfr.app _):A:=e
def z72{A:Prop} (e:A:=by
 rw[bA]at hc;split at hc
 case isTrue hb=>exact absurd hc hb
 case isFalse hb=>
  unfold jF at hb;split at hb
  ·exact absurd (by decide) hb
  split at hb
  ·exact absurd (by decide) hb
  omega):A:=e
def ML{A:Prop} (e:A:=by
 obtain⟨h3,h4,h5⟩:=w.md x hx;exact⟨h3,h4,fun t ht=>by rw[em];exact gq (h5 t ht)⟩):A:=e
def Mr{A:Prop} (e:A:=by
 rw[YP,Array.getElem?_replicate];split<;>rfl):A:=e
def z75{A:Prop} (e:A:=by
 have e3:=fQ hlt;have e4:k=L.length:=by omega
 refine Rs (A5 @t0 @t1 @t5 @e3 hs.aL) ?_;rw[e4,YF,h1,YF]at hi;exact YC AV.bool (X7 hi).symm):A:=e
def z76{A:Prop} (e:A:=by
 obtain⟨o,h1,h2⟩:=U0 j io hj;exact⟨o,h1,by rw[← (dm h2).1];exact hd⟩):A:=e
def PQ{A:Prop} (e:A:=by
 have hi':i < x.ev.names.length:=by omega
 have:aO x.ev i=x.ev.names[i]:=by rw[aO,YJ,X6 hi'];rfl
 rw[this];exact ox.n.ki hi' rfl e):A:=e
def Mq{A:Prop} (e:A:=by
 by_cases e1:j=i
 ·subst e1;exact hlt
 ·rw[hne j e1];exact hl):A:=e
def MK{A:Prop} (e:A:=by
 rw[Ye (by simp;omega),Ye (by simp;omega)];simp):A:=e
def z80{A:Prop} (e:A:=by
 have:=AR (listed:=listed) (by omega) R2 ops.size hin;omega):A:=e
def PO{A:Prop} (e:A:=by
 refine⟨fun h1=>?_,fun h1=>⟨l.length - (k+1),by omega,k+1,by omega,rfl,?_,rfl⟩⟩
 ·rw[hf,hd,bf,Yd h1]
 ·rw[hf,hd,bf,Yh (by omega)]):A:=e
def FO{A:Prop} (e:A:=by
 exact Rs (A3 @t0 @t1 @t2) trivial):A:=e
def MJ{A:Prop} (e:A:=by
 rw[YM,X6 (by rw[hRl];exact hlt),hy];simp[RV.an]):A:=e
def PN{A:Prop} (e:A:=by
 rename_i cs;cases hl:cs.toList.mapM (mw n)with
 | none=>simp[hl]at h
 | some r=>simp[hl]at h;subst h;exact⟨cs.toList,rfl,vD m n (qx m n) _ _ hl⟩):A:=e
def z85{A:Prop} (e:A:=by
 have h1:=(s.bk.o.dP (b:=i) (by rw[←e];simp[RV.bl])).2;have:=(htb i hi).1;omega):A:=e
def PM{A:Prop} (e:A:=by
 unfold bY.add at Sl;by_cases hx:b=h.length
 ·rw[Yh hx]at Sl;cases Sl;exact .inl ⟨hx,rfl⟩
 ·rw[Yd hx]at Sl;exact .inr ⟨hr.cI _ _ Sl,Sl⟩):A:=e
def z87{A:Prop} (e:A:=by
 simp only[Fi,Fh,Fg,IG,IH,Fl,Fk,Fj,LX,LW,ZJ,Zj,ne_eq,Yy,and_true];omega):A:=e
def PL{A:Prop} (e:A:=by
 refine Rs (Jg @t4 @t6 @t20 @t21 @t22 @e3 @ix @ld @e5 @l2 @l3 @bT @jc @lk @hb @mp @a4) ?_;exact⟨_,by omega,k+1,_,by omega,rfl,rfl,hnew,rfl⟩):A:=e
def MI{A:Prop} (e:A:=by
 show(R.aD++ [_]).length≤32;rw[X2,Yv];omega):A:=e
def MH{A:Prop} (e:A:=by
 rcases hn i z with z| z
 ·exact h3 (by rw[←z];simp[RV.bl])
 ·have:=s.ln;omega):A:=e
def z91{A:Prop} (e:A:=by
 exact cD.fin Ri (fun z=>absurd z (by decide))):A:=e
def PK{A:Prop} (e:A:=by
 rw[az (e.some hg0)];have:bG x.ev 1=1∨bG x.ev 1=2∨bG x.ev 1=3∨bG x.ev 1=4:=by omega
 rcases this with z| z| z| z<;>rw[z]<;>rfl):A:=e
def z93{A:Prop} (e:A:=by
 simp only[Yt,Yy]at z;omega):A:=e
def PJ{A:Prop} (e:A:=by
 rw[YM,X6 hlt,ti];simp only[Option.toList_some,cS,YR,Y5];rw[ZW (by omega)]):A:=e
def Jh{A:Prop} (e:A:=by
 exact cD.fin sY (fun z=>absurd z (by decide))):A:=e
def PI{A:Prop} (e:A:=by
 cases hk:cC oj.k with
 | true=>exact .inl rfl
 | false=>
  cases QY:kB oj with
  | true=>exact .inr rfl
  | false=>have:=hHh j oj h3 hk QY;omega):A:=e
def PH{A:Prop} (e:A:=by
 have hne:io.dst≠some d:=hd i io hio (by simp[mark]);rw[dy hne];refine M.yG d fun j o hj hs=>hd j o hj ?_
 unfold mark;split
 ·rfl
 ·exact hs):A:=e
def PG{A:Prop} (e:A:=by
 have d1:decide (n < 10)=true:=X7 h10;refine Ws (A4 @d0 @d1 @uD @zd) ?_;rw[kr,Lib.decDigits,dif_pos (by omega),y9 h0 h10]):A:=e
def PF{A:Prop} (e:A:=by
 have e3:=je hmo (show i < j by omega) hio hj Wl (hrp hk) Uk (hld hk) (.inl ⟨Sp,hk⟩);have e4:=hcl j i SS hin e3;rw[R2]at e4;cases e4):A:=e
def J6{A:Prop} (e:A:=by
 rw[VR]at ha hv ⊢;obtain⟨e,he,_⟩:=ha;obtain⟨e',RX,hv⟩:=hv;exact⟨e',by unfold bY.dC;rw[Yh (hd _ _ he)];exact RX,hv⟩):A:=e
def GQ{A:Prop} (e:A:=by
 exact h3 (by rw[←z];simp[RV.bl])):A:=e
def J5{A:Prop} (e:A:=by
 have:=(Fr.push (N:=0) (es:=3) (h:=W4) (YB _) [z] (fun x hx=>by rw[Yt]at hx;rw[hx,hz];rfl)).aX
 simpa using this):A:=e
def J4{A:Prop} (e:A:=by
 simp only[aW,bd,bC,bD,Nat.reduceAdd,Nat.reduceMul,Nat.reduceLeDiff,Nat.reduceEqDiff,bE,hlen,Yo,Ys,t0,az hg.1]):A:=e
def J3{A:Prop} (e:A:=by
 have hl:=(X1.1 this).1;rw[X6 hl]at this;rw[←Y6 this];exact List.set_getElem_self hl):A:=e
def z105{A:Prop} (e:A:=by
 refine WF.ce T.c15 (ha _ Xx) fun g2=>?_
 refine Rs @t0 ?_;exact⟨Xx,rfl⟩):A:=e
def J2{A:Prop} (e:A:=by
 split at hn
 case isFalse=>cases hn
 rename_i Tf;subst Tf;cases hn;obtain⟨e,rfl⟩:=hd;simp[Builtin.len_,Tb,Yn hu,goInt]):A:=e
def z107{A:Prop} (e:A:=by
 by_cases hab:a=b
 ·simp[dA,de,hab,At]
 ·have: (a==b)=false:=by simp[hab]
  simp[dA,de,hab,At,this]):A:=e
def zx{A:Prop} (e:A:=by
 subst z;have:=(hnt i hi).1;omega):A:=e
def z109{A:Prop} (e:A:=by
 rw[ei];refine Rs (A5 @t0 @t1 @ix @ld @on) ?_;exact⟨x,Su,sp,rfl⟩):A:=e
def J1{A:Prop} (e:A:=by
 have:jF V.an x.ev=3:=by rw[jF,Yd (by rw[h1];decide),←jx.e,Yh h2]
 rw[bA,Yh (by rw[this];decide),this]):A:=e
def J0{A:Prop} (e:A:=by
 simp only[YP,YT (show i < listed.size by omega),aaj]at hl ⊢;exact hl):A:=e
def JZ{A:Prop} (e:A:=by
 obtain⟨h1,h2,h3⟩:=s.kl i hi;rw[hk i (YU h1 s.ln) (fun z=>h3 (by rw[←z];simp[RV.bl]))];exact s.kp i hi):A:=e
def JY{A:Prop} (e:A:=by
 obtain⟨y,hy,rfl⟩:=YA.1 hx;have:=tX w.n2 (Yx (f:=jI.name) (Zk.1 hy).1);omega):A:=e
def JX{A:Prop} (e:A:=by
 have UN: (ps.map fun(i,x)=>(i,σ x)).toList=ps.toList.map fun p=>(p.1,σ p.2):=by simp
 rw[UN,Sb];simp[newRow]):A:=e
def JW{A:Prop} (e:A:=by
 by_cases hlt:j < i
 ·have:=Ss (j+1) i (by omega) (by omega);omega
 ·have:=Ss (i+1) j (by omega) (by omega);omega):A:=e
def z116{A:Prop} (e:A:=by
 have e3:V.cM.length=V.bS.cM.length:=by simp[HV.bS]
 have e4:V.bS.db.length=V.db.length:=by simp[HV.bS]
 omega):A:=e
def z117{A:Prop} (e:A:=by
 split at h
 ·rename_i h1 h2 h3 h4;simp only at h1 h2 h3 h4;subst h1;subst h2;subst h3;subst h4;cases h;rfl
 ·cases h):A:=e
def zw{A:Prop} (e:A:=by
 exact Ws (A2 @hld @Sf) trivial):A:=e
def z119{A:Prop} (e:A:=by
 rw[VR]at ha hv ⊢;obtain⟨l1,_,h1⟩:=ha;obtain⟨l2,hv,h2⟩:=hv;exact⟨l2,hv,cH.cut hd l _ _ h1 h2⟩):A:=e
def JV{A:Prop} (e:A:=by
 rcases Yb.1 hx with hx| hx
 ·exact w.ev x hx
 ·rw[Yt]at hx;subst hx;exact⟨d,we⟩):A:=e
def JU{A:Prop} (e:A:=by
 show 0+ (dK k z.cells).length≤row.size;rw[jl,hrs,hzl,YR];exact Zc _ hkn):A:=e
def JT{A:Prop} (e:A:=by
 have e1:decide (jF V.an x.ev≠0)=true:=X7 hb;refine Rs (A3 @t0 @t1 @e1) ?_;rw[bA,Yh hb]):A:=e
def Dl{A:Prop} (e:A:=by
 rw[ei];exact Rs (A4 @t0 @t1 @ix @ld) trivial):A:=e
def z124{A:Prop} (e:A:=by
 rw[←Rr]at hx;exact e1 (huniq j i oj io d hj hio TH hx)):A:=e
def JS{A:Prop} (e:A:=by
 refine WF.ce T.c254 (Z.atoi Rr.2 (by simp) (by omega)) fun g2=>?_
 refine Rs @t0 ?_;unfold kS;rw[e1];rfl):A:=e
def Dk{A:Prop} (e:A:=by
 simp only[RV.an,Zf];rfl):A:=e
def z127{A:Prop} (e:A:=by
 obtain⟨ma,va,h1,h2⟩:=h;exact⟨ma,va,fun b e hb=>YU (h1 b e hb) hnk,h2⟩):A:=e
def GP{A:Prop} (e:A:=by
 exact propext ⟨fun z=>by omega,fun z=>by omega⟩):A:=e
def Dj{A:Prop} (e:A:=by
 simp only[RV.an,Zf];rfl):A:=e
def z130{A:Prop} (e:A:=by
 have hne:=hb' b 0 _ _ rfl;rw[←YX _ _ hN,Yj (Zv hne)]):A:=e
def z131{A:Prop} (e:A:=by
 have:jF V.an x.ev=23:=by rw[jF,Yh h1]
 rw[bA,Yh (by rw[this];decide),this]):A:=e
def GO{A:Prop} (e:A:=by
 rw[hr]at h1;simp only[Y5]at h1;omega):A:=e
def GN{A:Prop} (e:A:=by
 rename_i hu;cases hf;exact⟨_,hu,fun _=>rfl⟩):A:=e
def JR{A:Prop} (e:A:=by
 refine hall ?_;cases hy:fc s[k]with
 | false=>rfl
 | true=>have:=ko.1 hy;omega):A:=e
def JQ{A:Prop} (e:A:=by
 have a1:=hdom b e R0;have a2:=fB hlen (i:=θ) (j:=j) (by omega) (by omega);omega):A:=e
def Di{A:Prop} (e:A:=by
 have:=st.ts.length;simpa using this):A:=e
def JP{A:Prop} (e:A:=by
 subst he;rw[Yh rfl]at q4;simp only[Yk,Ys];exact⟨h5,g5,rfl,h6,q4⟩):A:=e
def z138{A:Prop} (e:A:=by
 simp only[dY,qK,Yy,AV.bool.injEq];by_cases hab:x=y<;>simp[hab]):A:=e
def z139{A:Prop} (e:A:=by
 rw[Ye (by omega),aan,Nat.add_sub_cancel' (by omega)]):A:=e
def Dh{A:Prop} (e:A:=by
 exact fin (kj h2 h3) h1 h4 h5):A:=e
def z141{A:Prop} (e:A:=by
 simp only[stepT,mZ,pg];cases val ts x with
 | func f a c=>cases f<;>rfl
 | _=>rfl):A:=e
def GM{A:Prop} (e:A:=by
 cases k2<;>first| trivial| exact absurd rfl hl):A:=e
def z143{A:Prop} (e:A:=by
 simp only[RV.bl,Yb,YA];exact .inl (.inl (.inr ⟨x,hx,hb⟩))):A:=e
def JO{A:Prop} (e:A:=by
 rcases Yb.1 hx with hx| hx
 ·exact hs.aX.rows x hx
 ·exact hy.rows x hx):A:=e
def z145{A:Prop} (e:A:=by
 have:=hTl l.length (Yg _);simp;omega):A:=e
def z146{A:Prop} (e:A:=by
 exact cD.fin SB (fun z=>absurd z (by decide))):A:=e
def JN{A:Prop} (e:A:=by
 cases hs with
 | nil=>exact .nil
 | mk hN hb he=>exact .mk hN ((hk _ rfl).trans hb) he):A:=e
def z148{A:Prop} (e:A:=by
 rw[←hS,ZE];rintro⟨y,hy,hy2⟩;rw[hsf y hy]at hy2;cases hy2):A:=e
def JM{A:Prop} (e:A:=by
 rw[X4,Ye (Yg _),Zb];rfl):A:=e
def GL{A:Prop} (e:A:=by
 exact cD.fin s (fun z=>absurd z (by decide))):A:=e
def JL{A:Prop} (e:A:=by
 rw[YX _ _ (Yg _),Zb,X4];rfl):A:=e
def z152{A:Prop} (e:A:=by
 simp only[RV.bl,Yb,YA];exact .inl (.inr ⟨x,hx,hb⟩)):A:=e
def JK{A:Prop} (e:A:=by
 simp only[Yr]at hc;obtain⟨f,_,rfl⟩:=hc;exact hs.elim):A:=e
def z154{A:Prop} (e:A:=by
 rw[fE,←jx.e,YJ,X6 hsl];rfl):A:=e
def JJ{A:Prop} (e:A:=by
 rw[fE,←Uv,YJ,X6 hlt];rfl):A:=e
def z156{A:Prop} (e:A:=by
 rw[YM,X6 hlt,fC,List.foldl_append];rfl):A:=e
def z157{A:Prop} (e:A:=by
 rw[Ye hN,Yl (by simp at hbl;omega)]):A:=e
def JI{A:Prop} (e:A:=by
 rw[hh]at hi;refine Rs (A5 @t2 @t3 @t5 @t6 @hi) ?_;exact⟨Ve.trans Xx,rfl⟩):A:=e
def z159{A:Prop} (e:A:=by
 rw[em];exact w.n3.add (gn 0 (by decide)) f0):A:=e
def z160{A:Prop} (e:A:=by
 rw[X4 (h++ [ak.bn (lH ds vf)]) g];exact K _ _ (s.put g1 hc)):A:=e
def JH{A:Prop} (e:A:=by
 cases SR:o.k<;>rw[SR]at hk<;>first| (cases hk;done)| simp[mD,SR]):A:=e
def z162{A:Prop} (e:A:=by
 rw[Uv];unfold jF at hb;split at hb
 ·cases hb
 split at hb
 ·cases hb
 omega):A:=e
def JG{A:Prop} (e:A:=by
 rw[YO];exact propext ⟨fun z=>by omega,fun z=>by omega⟩):A:=e
def z164{A:Prop} (e:A:=by
 cases ok
 ·exact Ui
 ·exact⟨_,rfl,_,_,rfl,Ui,_,_,rfl,rfl,rfl⟩):A:=e
def JF{A:Prop} (e:A:=by
 exact⟨hone,v,by rw[Wp _ (by omega)];exact hv,VR.mono TC _ _ QZ⟩):A:=e
def JE{A:Prop} (e:A:=by
 rw[←nO];exact hF.aB fun j hj=>ne j (by have:=hlo j hj;omega)):A:=e
def z167{A:Prop} (e:A:=by
 simp only[RV.bl,Yb,YA];exact .inr ⟨x,hx,hb⟩):A:=e
def z168{A:Prop} (e:A:=by
 rw[X2,Ze,Ze];omega):A:=e
def Dg{A:Prop} (e:A:=by
 rw[Yd hbb]at ht;exact ht):A:=e
def JD{A:Prop} (e:A:=by
 subst hn;exact .of hmix hA (H (aU A.nt [a0,a1,a2]) hl rfl rfl rfl)):A:=e
def z171{A:Prop} (e:A:=by
 simp only[X2,X8,X9];omega):A:=e
def JC{A:Prop} (e:A:=by
 rw[Ya];exact YQ (YK _ _) w.l2):A:=e
def z173{A:Prop} (e:A:=by
 obtain⟨cv',m',rfl,h1,h2,h3⟩:=he;exact hn cv' m' w'' h1 h2 h3):A:=e
def JB{A:Prop} (e:A:=by
 exact⟨s.length - (k+1),by omega,k+1,by omega,rfl,rfl,rfl⟩):A:=e
def z175{A:Prop} (e:A:=by
 exact dl (by omega) (by omega)):A:=e
def JA{A:Prop} (e:A:=by
 simp only[FQ,FK,Ex.leaves,aaD];cases cO rs ts h<;>simp):A:=e
def GK{A:Prop} (e:A:=by
 rw[this];exact List.set_getElem_self _):A:=e
def Jz{A:Prop} (e:A:=by
 rename_i hu;rw[hu]at Un;cases Un;cases hf;exact hone rfl rfl hu):A:=e
def Jy{A:Prop} (e:A:=by
 rw[Sg];exact cD.fin s5 (fun _=>by simp only[dq,sp,hp];rfl)):A:=e
def Jx{A:Prop} (e:A:=by
 refine⟨_,by omega,k+1,by omega,rfl,Vx.trans Xx,hu,rfl⟩):A:=e
def Jw{A:Prop} (e:A:=by
 refine⟨_,by omega,k+1,by omega,rfl,S9.trans Xx,hu,rfl⟩):A:=e
def z182{A:Prop} (e:A:=by
 have:=hlate j oj hj hk hjf (by omega);rw[SS]at this;cases this):A:=e
def z183{A:Prop} (e:A:=by
 simp only[WR,iA.app,YS,false_implies,aaD]):A:=e
def Jv{A:Prop} (e:A:=by
 refine⟨_,by omega,k+1,by omega,rfl,hx.trans Xx,hu,rfl⟩):A:=e
def GJ{A:Prop} (e:A:=by
 subst e1;rw[R2]at SS;cases SS):A:=e
def Ju{A:Prop} (e:A:=by
 rw[beq_eq_false_iff_ne];rintro rfl;exact absurd hc.1 (by decide)):A:=e
def Jt{A:Prop} (e:A:=by
 refine Rs (A3 @t0 @t1 @eS) ?_;exact⟨g',V',rfl,h1,h2⟩):A:=e
def Js{A:Prop} (e:A:=by
 exact⟨_,by omega,k+1,by omega,rfl,hx.trans Xx,hi,rfl⟩):A:=e
def Jr{A:Prop} (e:A:=by
 simp only[stepT,mZ];cases dY op (val ts x) (val ts y)<;>rfl):A:=e
def Jq{A:Prop} (e:A:=by
 simp only[RV.bl,l1,l2,e2,X4,Zj]):A:=e
def Jp{A:Prop} (e:A:=by
 subst hn;exact .of hmix hA (H (aU A.nt [a0,a1]) hl rfl rfl)):A:=e
def Jo{A:Prop} (e:A:=by
 subst h3;exact⟨cv,w,m,h1,h2,hr,Grow.refl m _ w hr.cI⟩):A:=e
def z193{A:Prop} (e:A:=by
 refine .run hw (by rw[hk];trivial) ?_;rw[hk];exact nG hs):A:=e
def z194{A:Prop} (e:A:=by
 exact⟨_,_,rfl,.inr ⟨Im hlt (by omega),by omega⟩⟩):A:=e
def Jn{A:Prop} (e:A:=by
 exact⟨_,[],rfl,⟨.nil,fun x hx=>by cases hx⟩,rfl⟩):A:=e
def z196{A:Prop} (e:A:=by
 exact(bad (by rw[R8];rfl) Xx).2):A:=e
def Jm{A:Prop} (e:A:=by
 simp only[aal,YS,Yo];omega):A:=e
def z198{A:Prop} (e:A:=by
 exact lu (by rw[hTl];exact M.size) (VR.mono h1 _ _ hv)):A:=e
def Jl{A:Prop} (e:A:=by
 rw[Yd SU];simp only[aau (Zv SU)]):A:=e
def Jk{A:Prop} (e:A:=by
 cases k<;>first| exact H| exact absurd ⟨_,_,rfl⟩ hc):A:=e
def z201{A:Prop} (e:A:=by
 simp only[X2,Yv];omega):A:=e
def Jj{A:Prop} (e:A:=by
 rw[bB]at hl;subst hl;cases hf;exact⟨cx,rfl,hx⟩):A:=e
def z203{A:Prop} (e:A:=by
 have:c= []:=Y9.1 h;subst this;rfl):A:=e
end Go.Abs
