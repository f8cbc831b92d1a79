/- Calls by their contracts in the interpreter: strings.Join, strconv.Itoa, math.Floor. No condition. · The greater format; numbers that are none; made whole downwards; without the sign. No condition. · Contracts: samples checked, as numbers, out of numbers. No condition. · Contracts: samples checked by the program and by the reference; samples as numbers, and back. No condition. · Contracts: names. No condition. · Contracts: maps over lists. No condition. · Contracts: lists of samples checked, copied, as numbers, and back. No condition. · Traces and shots, and their errors: plain. No condition. · Contracts: a trace checked. No condition. · Contracts: lists of numbers made samples by the program and by the reference; samples and numbers compared. No condition. · Contracts: lists of numbers, of samples compared; what is heard. No condition. · Contracts: ghosts: the program's and the reference's. No condition. · Contracts: a ghost by the program; notches. No condition. · Contracts: a ghost taken off, by the program and by the reference. No condition. · Contracts: quotients to the nearest; multiples by the program and by the reference. No condition. · Contracts: multiples by the program and by the reference. No condition. · Contracts: taps checked by the program and by the reference. No condition. · Contracts: taps applied by the program and by the reference. No condition. · Contracts: taps applied by the program. No condition. · Contracts: taps applied, with their checks. No condition. · Contracts: taps undone by the reference. No condition. · Contracts: taps undone by the program. No condition. · Contracts: taps undone by the program, with the checks. No condition. · Contracts: pairs of integers as complex numbers. No condition. · Contracts: the powers of the imaginary unit, by the program and by the reference. No condition. · Contracts: a pair turned by the program's table of powers. No condition. · Contracts: a response at one frequency, by the reference. No condition. · Contracts: the responses by the program. No condition. · Contracts: lists visited, gathered and sorted. No condition. · Contracts: traces that are no holes, the width, a shot checked: the program. No condition. · Contracts: the width of a shot, a shot checked: the program. No condition. · Contracts: a shot checked, short shots, shots that are alike: the reference. No condition. · Sums over the places of lists; taps applied, and their adjoint: plain. No condition. · The prediction with the least error: plain. No condition. · A list less a multiple; quotients compared: plain. No condition. · Contracts: inner products by the program and by the reference. No condition. · Contracts: fitting lists checked; their sums by the reference. No condition. · Contracts: the sums of a fitting list by the program. No condition. · Contracts: predictions by the program. No condition. · Contracts: predictions checked, and the least error, by the program. No condition. · Contracts: predictions by the reference. No condition. · Taps undone, and applied again; ghosts taken off, and put on again: plain. No condition. · Contracts: quiet lists, a number in a list; what is heard when all fits. No condition. · Samples added; lists made cell by cell; copies of one's own. No condition. · Contracts: shots copied from one form into the other: lists of traces that grow in a box. No condition. · Contracts: shots copied from one form into the other, and owned. No condition. · Contracts: pairs of two lists, visited and gathered, and mapped. No condition. · Contracts: a list less a multiple, and the share removed, by the program. No condition. · Contracts: each trace of a shot changed: taps, tides. No condition. · Contracts: a shot changed trace by trace, the program and the reference. No condition. -/
import Derived.Laws.Externs
import Derived.Test.YtjipbemoklhnaaaGreatDoorAc3
import Derived.Test.YtjipbemoklhnaaaGreatDoorAc5
import Derived.Test.YtjipbemoklhnaaaGreatDoorAc4
set_option maxHeartbeats 4000000
set_option linter.all false
namespace Go.Abs
open Go.RowKit in
open Go.RowKit in
section
variable {P:Program}
end
end Go.Abs
namespace Go.Abs
open Ieee
def flt_cases(k:FloatKind)(b:Nat):(∃v,Num k b v)\/(∃t,k.format.read b=.infinity t)\/∃s t,k.format.read b=.nan s t:=by
 cases h:k.format.read b with
 |number s m e=>exact .inl ⟨_,s,m,e,h,by have:=(read_fin h).2;have:=least_ge k;omega,rfl⟩
 |infinity t=>exact .inr (.inl ⟨t,rfl⟩)
 |nan s t=>exact .inr (.inr ⟨s,t,rfl⟩)
end Go.Abs
namespace Go.Abs
open Ieee
def num_f2i{k b v}(h:Num k b v)(h1:-2^63<=v.tdiv UU)(h2:v.tdiv UU<2^63){G:Nat->Option ABlk}{N:Nat}:convT (.f2i .i64) (.flt k b) G N=some (.int .i64 (v.tdiv UU),.keep):=by
 unfold convT;simp only[num_toInt h];rw[if_pos ⟨num_nan h,by show(-2^63:Int)<=_;omega,by show _<=(2^63-1:Int);omega⟩]
noncomputable def fval(b:Nat):Int:=vl (FloatKind.f32.format.read b)
noncomputable def gridN(b:Nat):Int:=16*fval b / UU
noncomputable def finB(b:Nat):Bool:=@decide (∃v,Num .f32 b v) (Classical.propDecidable _)
def finB_t{b v}(h:Num .f32 b v):finB b=true:=@decide_eq_true _ (Classical.propDecidable _) ⟨v,h⟩
def finB_i{b t}(h:FloatKind.f32.format.read b=.infinity t):finB b=false:=@decide_eq_false _ (Classical.propDecidable _) λ⟨v,s,m,e,h1,_⟩=>by rw[h]at h1;cases h1
def finB_n{b s t}(h:FloatKind.f32.format.read b=.nan s t):finB b=false:=@decide_eq_false _ (Classical.propDecidable _) λ⟨v,s,m,e,h1,_⟩=>by rw[h]at h1;cases h1
def finB_x{b}(h:finB b=true):∃v,Num .f32 b v:=@of_decide_eq_true _ (Classical.propDecidable _) h
noncomputable def gOkB(b:Nat):Bool:=finB b&&(decide (-1024*UU<=fval b)&&(decide (fval b<=1024*UU)&&decide (gridN b*UU=16*fval b)))
noncomputable def gridE(b:Nat):Int:=firstS [whenS (!finB b) 1,whenS (!gOkB b) 3]
def num_fval{b v}(h:Num .f32 b v):v=fval b:=by
 obtain⟨s,m,e,h1,_,rfl⟩:=h;unfold fval;rw[h1]
def grid_num{b}(h:gridE b=0):Num .f32 b (fval b)/\gridN b*UU=16*fval b/\-16384<=gridN b/\gridN b<=16384:=by
 obtain⟨_,h⟩:=first2 h;have h:gOkB b=true:=by
  cases hb:gOkB b with
  |true=>rfl
  |false=>rw[hb]at h;cases h
 unfold gOkB at h;simp only[Bool.and_eq_true,decide_eq_true_eq]at h;obtain⟨hn,g1,g2,g3⟩:=h;obtain⟨v,hv⟩:=finB_x hn;have e:=num_fval hv;subst e;have hU:=UU_pos;refine⟨hv,g3,?_,?_⟩
 ·have:-16384*UU<=gridN b*UU:=by rw[g3];omega
  exact Int.le_of_mul_le_mul_right this hU
 ·have:gridN b*UU<=16384*UU:=by rw[g3];omega
  exact Int.le_of_mul_le_mul_right this hU
def grid_z{b}(h1:finB b=true)(h2:gOkB b=true):gridE b=0:=by rw[gridE,h1,h2];rfl
def bd_abs{v:Int}(h1:-1024*UU<=v)(h2:v<=1024*UU):v.natAbs<=2^10*UU.natAbs:=by
 have hU:=UU_pos;omega
def neg1024:unK .neg (.flt .f32 (FloatKind.f32.nearest 1024))=some (.flt .f32 (FloatKind.f32.nearest (-1024))):=by
 show some (AV.flt .f32 (Op.negFloat .f32 (FloatKind.f32.nearest 1024)))=_;rw[show Op.negFloat .f32 (FloatKind.f32.nearest 1024)=FloatKind.f32.nearest (-1024) by decide]
def ord_bin{op:BinOp}{k:FloatKind}{a b:Nat}{c:Bool}(h:fltBin op k a b=some (.bool c)):binK op (.flt k a) (.flt k b)=some (.bool c):=by simp only[binK,if_true,h]
def eql_00:binK .eql (.flt .f32 0) (.flt .f32 0)=some (.bool true):=ord_bin (by
 show some (AV.bool (FloatKind.f32.format.order 0 0==some .eq))=_;rw[show FloatKind.f32.format.order 0 0=some .eq by decide];rfl)
def eql_n0:binK .eql (.flt .f32 (qnan .f32)) (.flt .f32 0)=some (.bool false):=ord_bin (by
 show some (AV.bool (FloatKind.f32.format.order (qnan .f32) 0==some .eq))=_;rw[show FloatKind.f32.format.order (qnan .f32) 0=none by decide];rfl)
def num_n1024{k:FloatKind}:Num k (k.nearest (-1024)) (-1024*UU):=num_int (by cases k<;>decide)
def num_1024{k:FloatKind}:Num k (k.nearest 1024) (1024*UU):=num_int (by cases k<;>decide)
def tdiv_grid{v:Int}:decide (v.tdiv UU*UU=v)=decide (v / UU*UU=v):=by
 have hU:=UU_pos;refine decide_eq_decide.2 ⟨λh=>?_,λh=>?_⟩
 ·rw[<-h,Int.mul_ediv_cancel _ (by omega)]
 ·rw[<-h,Int.mul_tdiv_cancel _ (by omega)]
def nan_bin{k a b}(h:nanB k a=true\/nanB k b=true):k.format.order a b=none:=nan_ord (nan_or h)
def read_nan{k:FloatKind}{b:Nat}{s:Bool}{t:Nat}(h:k.format.read b=.nan s t):nanB k b=true:=by rw[nanB_isNaN,h];rfl
set_option maxRecDepth 10000
attribute [local irreducible] WP WC WE WB WR WF WL WG WRg WQ
section
variable {P:Program}(T:Tbl P) {h:AHeap}
include T
def r101(c:Bool)(e:Int):RCall P 101 [.bool c,.int .i64 e] h (λv _=>v=.int .i64 (whenS c e)):=by
 refine .of T.mix T.c101 ?_;unfold fn101;simp only[uset];cases c<;>simp only[wset]<;>rfl
def r264(b:Nat):RCall P 264 [.flt .f32 b] h (λv _=>v=.bool (finB b)):=by
 refine .st1 7 T.mix T.c264 ?_;intro ts hlen t0;unfold fn264;rcases flt_cases .f32 b with⟨v,hv⟩|⟨t,ht⟩|⟨s,t,ht⟩
 ·have f1:=sub_self hv;have f2:=eql_00;refine Rs (A3 @t0 @f1 @f2) ?_;rw[finB_t hv]
 ·have f1:binK .sub (.flt .f32 b) (.flt .f32 b)=some (.flt .f32 (qnan .f32)):=by
   have:FloatKind.f32.format.sub b b=none:=by
    unfold Format.sub;rw[ht];cases t<;>rfl
   simp only[binK,if_true,fltBin,this,fltRes]
  have f2:=eql_n0;refine Rs (A3 @t0 @f1 @f2) ?_;rw[finB_i ht]
 ·have f1:binK .sub (.flt .f32 b) (.flt .f32 b)=some (.flt .f32 (qnan .f32)):=by
   have:FloatKind.f32.format.sub b b=none:=by
    unfold Format.sub;rw[ht];rfl
   simp only[binK,if_true,fltBin,this,fltRes]
  have f2:=eql_n0;refine Rs (A3 @t0 @f1 @f2) ?_;rw[finB_n ht]
def r265(b:Nat):RCall P 265 [.flt .f32 b,.int .i64 1024] h (λv _=>v=.bool (gOkB b)):=by
 refine .st2 25 T.mix T.c265 ?_;intro ts hlen t0 t1;unfold fn265;have c1:∀{n:Int}{G:Nat->Option ABlk}{N:Nat},convT (.i2f .f32) (.int .i64 n) G N=some (.flt .f32 (FloatKind.f32.nearest n),.keep):=λ{_ _ _}=>rfl
 have c2:=neg1024;rcases flt_cases .f32 b with⟨v,hv⟩|⟨t,ht⟩|⟨s,t,ht⟩
 ·have hfv:=num_fval hv;have hf:=finB_t hv;have l1:=num_leq num_n1024 hv;have l2:=num_leq hv num_1024;by_cases q1:-1024*UU<=v
  case neg=>
   have d1:decide (-1024*UU<=v)=false:=decide_eq_false q1;have e:gOkB b=false:=by rw[gOkB,<-hfv,d1];simp
   refine Rs (A6 @t0 @t1 @c1 @c2 @l1 @d1) ?_;rw[e]
  have d1:decide (-1024*UU<=v)=true:=decide_eq_true q1;by_cases q2:v<=1024*UU
  case neg=>
   have d2:decide (v<=1024*UU)=false:=decide_eq_false q2;have e:gOkB b=false:=by rw[gOkB,<-hfv,d2];simp
   refine Rs (A8 @t0 @t1 @c1 @c2 @l1 @d1 @l2 @d2) ?_;rw[e]
  have d2:decide (v<=1024*UU)=true:=decide_eq_true q2;obtain⟨p,m1,m2,hp⟩:=mul16 hv (bd_abs q1 q2);have hU:=UU_pos;have b1:(16*v).tdiv UU<=16384:=by
   have:=Int.tdiv_le_tdiv hU (show 16*v<=16384*UU by omega)
   rwa [Int.mul_tdiv_cancel _ (by omega)]at this
  have b2:-16384<=(16*v).tdiv UU:=by
   have:=Int.tdiv_le_tdiv hU (show -16384*UU<=16*v by omega)
   rwa [Int.mul_tdiv_cancel _ (by omega)]at this
  have c3:=@num_f2i _ _ _ hp (by omega) (by omega);have hi:Num .f32 (FloatKind.f32.nearest ((16*v).tdiv UU)) ((16*v).tdiv UU*UU):=num_int (by show _<2^24;omega);have l3:=num_eql hi hp;have e:gOkB b=decide ((16*v).tdiv UU*UU=16*v):=by
   rw[tdiv_grid,gOkB,gridN,<-hfv,hf,d1,d2];simp
  have m1:binK .mul (.flt .f32 b) (.flt .f32 1098907648)=some (.flt .f32 p):=m1;refine Rs (A11 @t0 @t1 @c1 @c2 @l1 @d1 @l2 @d2 @m1 @c3 @l3) ?_;rw[e]
 ·have e:gOkB b=false:=by rw[gOkB,finB_i ht];rfl
  rw[e];cases t with
  |false=>
   have o1:FloatKind.f32.format.order (FloatKind.f32.nearest (-1024)) b=some .lt:=by
    unfold Format.order;rw[ht,show FloatKind.f32.format.read (FloatKind.f32.nearest (-1024))=.number true 8388608 (-13) by decide];rfl
   have o2:FloatKind.f32.format.order b (FloatKind.f32.nearest 1024)=some .gt:=by
    unfold Format.order;rw[ht,show FloatKind.f32.format.read (FloatKind.f32.nearest 1024)=.number false 8388608 (-13) by decide];rfl
   have l1:binK .leq (.flt .f32 (FloatKind.f32.nearest (-1024))) (.flt .f32 b)=some (.bool true):=ord_bin (by simp only[fltBin,o1];rfl);have l2:binK .leq (.flt .f32 b) (.flt .f32 (FloatKind.f32.nearest 1024))=some (.bool false):=ord_bin (by simp only[fltBin,o2];rfl);exact Rs (A6 @t0 @t1 @c1 @c2 @l1 @l2) trivial
  |true=>
   have o1:FloatKind.f32.format.order (FloatKind.f32.nearest (-1024)) b=some .gt:=by
    unfold Format.order;rw[ht,show FloatKind.f32.format.read (FloatKind.f32.nearest (-1024))=.number true 8388608 (-13) by decide];rfl
   have l1:binK .leq (.flt .f32 (FloatKind.f32.nearest (-1024))) (.flt .f32 b)=some (.bool false):=ord_bin (by simp only[fltBin,o1];rfl);exact Rs (A5 @t0 @t1 @c1 @c2 @l1) trivial
 ·have e:gOkB b=false:=by rw[gOkB,finB_n ht];rfl
  rw[e];have o1:=nan_bin (k:=.f32) (a:=FloatKind.f32.nearest (-1024)) (.inr (read_nan ht));have l1:binK .leq (.flt .f32 (FloatKind.f32.nearest (-1024))) (.flt .f32 b)=some (.bool false):=ord_bin (by simp only[fltBin,o1];rfl);exact Rs (A5 @t0 @t1 @c1 @c2 @l1) trivial
end
end Go.Abs
namespace Go.Abs
open Ieee
noncomputable def smpl(n:Int):Nat:=(FloatKind.f32.format.div (FloatKind.f32.nearest n) 1098907648).getD 0
def smpl_ok{n:Int}(h1:-16384<=n)(h2:n<=16384):binK .quo (.flt .f32 (FloatKind.f32.nearest n)) (.flt .f32 1098907648)=some (.flt .f32 (smpl n))/\gridE (smpl n)=0/\gridN (smpl n)=n:=by
 have hi:Num .f32 (FloatKind.f32.nearest n) (n*UU):=num_int (by show _<2^24;omega);have hU:=UU_pos;obtain⟨q,w,e1,e2,e3⟩:=quo16 hi (by
  by_cases hn:n=0
  ·exact .inl (by rw[hn,Int.zero_mul])
  ·refine .inr ?_;rw[Int.natAbs_mul];exact Nat.le_mul_of_pos_left _ (by omega))
 have e1:binK .quo (.flt .f32 (FloatKind.f32.nearest n)) (.flt .f32 1098907648)=some (.flt .f32 q):=e1;have e4:binK .quo (.flt .f32 (FloatKind.f32.nearest n)) (.flt .f32 1098907648)=some (fltRes .f32 (FloatKind.f32.format.div (FloatKind.f32.nearest n) 1098907648)):=by simp only[binK,if_true,fltBin]
 have hq:smpl n=q:=by
  unfold smpl;rw[e4]at e1;cases hd:FloatKind.f32.format.div (FloatKind.f32.nearest n) 1098907648 with
  |some r=>rw[hd]at e1;cases e1;rfl
  |none=>
   rw[hd]at e1;cases e1;have:=num_nan e2;rw[qnan_nan]at this;cases this
 rw[hq];have hw:=num_fval e2;have hg:gridN q=n:=by
  unfold gridN;rw[<-hw,e3,Int.mul_ediv_cancel _ (by omega)]
 have b1:-16384*UU<=n*UU:=Int.mul_le_mul_of_nonneg_right h1 (by omega);have b2:n*UU<=16384*UU:=Int.mul_le_mul_of_nonneg_right h2 (by omega);refine⟨e1,grid_z (finB_t e2) ?_,hg⟩;unfold gOkB;rw[hg,<-hw,e3,finB_t e2,decide_eq_true (show -1024*UU<=w by omega),decide_eq_true (show w<=1024*UU by omega)];simp
def grid_bd{b}(h:gridE b=0):-1024*UU<=fval b/\fval b<=1024*UU:=by
 obtain⟨_,h2,h3,h4⟩:=grid_num h;have hU:=UU_pos;have b1:-16384*UU<=gridN b*UU:=Int.mul_le_mul_of_nonneg_right h3 (by omega);have b2:gridN b*UU<=16384*UU:=Int.mul_le_mul_of_nonneg_right h4 (by omega);omega
def grid_neq{a b:Nat}(ha:gridE a=0)(hb:gridE b=0):binK .neq (.flt .f32 a) (.flt .f32 b)=some (.bool (decide (gridN a≠gridN b))):=by
 obtain⟨h1,h2,_⟩:=grid_num ha;obtain⟨h3,h4,_⟩:=grid_num hb;rw[num_neq h1 h3];congr 2;have hU:=UU_pos;refine decide_eq_decide.2 (not_congr ⟨λh=>?_,λh=>?_⟩)
 ·unfold gridN;rw[h]
 ·rw[h,h4]at h2;omega
set_option maxRecDepth 10000
attribute [local irreducible] WP WC WE WB WR WF WL WG WRg WQ
section
variable {P:Program}(T:Tbl P) {h:AHeap}
include T
def r100{s:AV}{l:List Int}(hs:IsSl h s 1 (l.map intRow))(hl:l.length<2^63):RCall P 100 [s] h (λv _=>v=.int .i64 (firstS l)):=by
 refine .of T.mix T.c100 ?_;unfold fn100;simp only[uset];have e1:(l.map intRow).length=l.length:=by simp
 simp only[wset,hs.lenG,e1];refine WL.inv T.mix (λn ts h'=>∃k:Nat,k<=l.length/\n=l.length-k/\h' =h/\firstS l=firstS (l.drop k)/\ts.length=15/\slot ts 5=s/\slot ts 6=.int .i64 l.length/\slot ts 7=.int .i64 k) l.length
  ⟨0,by omega,rfl,rfl,rfl,rfl,rfl,rfl,rfl⟩ ?_
 rintro _ ts _ ⟨k,hk,rfl,rfl,hf,hlen,h5,h6,h7⟩;rw[expl ts 15 hlen];by_cases hlt:k<l.length
 ·have hd:l.drop k=l[k]::l.drop (k+1):=by simp
  have e2:(l.map intRow)[k]'(by omega)=[AV.int .i64 l[k]]:=by simp
  have e3:(k:Int)<l.length:=by omega
  simp+contextual (disch:=omega) only[wset,wsplit,h5,h6,h7,e3,decide_true,hs.iadr,Int.toNat_natCast,hs.load1 _ e2,wrap_in];refine⟨λh1=>?_,λh1=>⟨l.length-(k+1),by omega,k+1,by omega,rfl,?_,rfl⟩⟩
  ·rw[hf,hd,firstS,if_neg h1]
  ·rw[hf,hd,firstS,if_pos (by omega)]
 ·have e3:¬(k:Int)<l.length:=by omega
  have e4:k=l.length:=by omega
  simp+contextual (disch:=omega) only[wset,h5,h6,h7,e3,decide_false,if_true];rw[hf,e4,List.drop_length];rfl
def r245(b:Nat):RCall P 245 [.flt .f32 b] h (λv _=>v=.int .i64 (gridE b)):=by
 refine .st1 13 T.mix T.c245 ?_;intro ts hlen t0;unfold fn245;refine Rs @t0 ?_;refine WF.ce T.c264 (r264 T _) λg1=>?_
 refine Rs @t0 ?_;refine WF.ce T.c101 (r101 T _ _) λg2=>?_
 refine Rs @t0 ?_;refine WF.ce T.c265 (r265 T _) λg3=>?_
 refine Rs @t0 ?_;refine WF.ce T.c101 (r101 T _ _) λg4=>?_
 refine Rs @t0 ?_;refine WF.ce T.c100 (r100 T (isSl_ints [_,_]) (by simp)) λg5=>?_
 refine Rs @t0 ?_;rfl
def r64{b:Nat}(hb:gridE b=0):RCall P 64 [.flt .f32 b] h (λv _=>v=.int .i64 (gridN b)):=by
 refine .st1 6 T.mix T.c64 ?_;intro ts hlen t0;unfold fn64;obtain⟨hv,hg,g1,g2⟩:=grid_num hb;obtain⟨hg3,hg4⟩:=grid_bd hb;obtain⟨p,m1,m2,hp⟩:=mul16 hv (bd_abs hg3 hg4);have m2:binK .mul (.flt .f32 1098907648) (.flt .f32 b)=some (.flt .f32 p):=m2;have hU:=UU_pos;have ht:(16*fval b).tdiv UU=gridN b:=by rw[<-hg,Int.mul_tdiv_cancel _ (by omega)]
 have c3:=@num_f2i _ _ _ hp (by omega) (by omega);rw[ht]at c3;exact Rs (A3 @t0 @m2 @c3) trivial
def r114{n:Int}(h1:-16384<=n)(h2:n<=16384):RCall P 114 [.int .i64 n] h (λv _=>v=.flt .f32 (smpl n)):=by
 refine .st1 6 T.mix T.c114 ?_;intro ts hlen t0;unfold fn114;have c1:∀{G:Nat->Option ABlk}{N:Nat},convT (.i2f .f32) (.int .i64 n) G N=some (.flt .f32 (FloatKind.f32.nearest n),.keep):=λ{_ _}=>rfl
 have q1:=(smpl_ok h1 h2).1;exact Rs (A3 @t0 @c1 @q1) trivial
end
end Go.Abs
namespace Go.Abs
def goodS:List UInt8->Bool
 |[]=>true
 |c::r=>letterS c&&r.all restS
def name_good(s:List UInt8):nameS s=(decide (s≠[])&&decide (s.length<=24)&&goodS s):=by
 cases s with
 |nil=>rfl
 |cons c r=>
  have:(r.length<24)=((c::r).length<=24):=by simp;omega
  simp only[nameS,goodS,this];simp[Bool.and_assoc]
def good_step{s:List UInt8}{k:Nat}(hk:k<s.length):goodS (s.take (k+1))=(goodS (s.take k)&&(if k=0 then letterS s[k]else restS s[k])):=by
 cases s with
 |nil=>simp at hk
 |cons c r=>
  cases k with
  |zero=>simp[goodS]
  |succ k=>
   have hk':k<r.length:=by simpa using hk
   simp only[List.take_succ_cons,goodS,List.getElem_cons_succ];rw[List.take_add_one,List.getElem?_eq_getElem hk',Option.toList_some];rw[List.all_append,List.all_cons,List.all_nil,Bool.and_true,Bool.and_assoc,if_neg (by omega)]
def good_take{s k}(h:goodS (s.take k)=false):goodS s=false:=by
 cases s with
 |nil=>simp[goodS]at h
 |cons c r=>
  cases k with
  |zero=>simp[goodS]at h
  |succ k=>
   simp only[List.take_succ_cons,goodS,Bool.and_eq_false_iff]at h ⊢;rcases h with h|h
   ·exact .inl h
   ·right
    rw[List.all_eq_false]at h ⊢;obtain⟨x,hx,hr⟩:=h;exact⟨x,List.mem_of_mem_take hx,hr⟩
def dec_lt{s i}(hi:i<s.length)(h:s[i].toNat<128):Utf8.decode ⟨⟨s⟩⟩ i=(s[i].toNat,1):=by
 have hg:(ByteArray.get! ⟨⟨s⟩⟩ i).toNat=s[i].toNat:=by
  simp[ByteArray.get!,hi]
 simp only[Utf8.decode,Nat.add_zero,hg,if_pos h]
def dec_ge{s i}(hi:i<s.length)(h:128<=s[i].toNat):128<=(Utf8.decode ⟨⟨s⟩⟩ i).1:=by
 have hg:(ByteArray.get! ⟨⟨s⟩⟩ i).toNat=s[i].toNat:=by
  simp[ByteArray.get!,hi]
 simp only[Utf8.decode,Nat.add_zero,hg];rw[if_neg (by omega)];simp only[Utf8.runeError]
 repeat' split
 all_goals first
  |(simp only;omega)
  |(simp only[Bool.and_eq_true,decide_eq_true_eq]at *;omega)
section
variable {P:Program}(T:Tbl P) {h:AHeap}
include T
def r183(n lo hi:Int):RCall P 183 [.int .i64 n,.int .i64 lo,.int .i64 hi] h (λv _=>v=.int .i64 (rangeS n lo hi)):=by
 refine .of T.mix T.c183 ?_;unfold fn183;simp only[uset];simp+contextual only[wset,wsplit,decide_true,decide_false];refine⟨λh1=>?_,λh1=>?_⟩<;>
 ·refine WF.res T.c101 (r101 T _ _) ?_;rintro _ g rfl;simp only[wset];simp[whenS,rangeS,h1]
def r68(s:List UInt8):RCall P 68 [.str s] h (λv _=>v=.bool (nameS s)):=by
 refine .of T.mix T.c68 ?_;unfold fn68;simp only[uset];simp only[wset,hset];refine WL.inv T.mix (λn ts h'=>∃k:Nat,k<=s.length/\n=s.length-k/\h' =h++[.iter s k]/\goodS (s.take k)=true/\ts.length=54/\slot ts 0=.str s/\slot ts 8=.ptr h.length 0) s.length
  ⟨0,by omega,rfl,rfl,rfl,rfl,rfl,rfl⟩ ?_
 rintro _ ts _ ⟨k,hk,rfl,rfl,hf,hlen,h0,h8⟩;rw[expl ts 54 hlen];by_cases hlt:k<s.length
 ·have hstep:=good_step hlt;rw[hf,Bool.true_and]at hstep;obtain⟨c,w,hdec,hcw⟩:∃c w,Utf8.decode ⟨⟨s⟩⟩ k=(c,w)/\(c=s[k].toNat/\w=1\/128<=c/\128<=s[k].toNat):=by
   by_cases hc:s[k].toNat<128
   ·exact⟨_,_,dec_lt hlt hc,.inl ⟨rfl,rfl⟩⟩
   ·exact⟨_,_,rfl,.inr ⟨dec_ge hlt (by omega),by omega⟩⟩
  have hbad:(if k=0 then letterS s[k]else restS s[k])=false->AV.bool false=AV.bool (nameS s):=λhb=>by
   rw[hb]at hstep;rw[name_good,good_take hstep,Bool.and_false]
  have hgood:∀w',c=s[k].toNat/\w' =1->(if k=0 then letterS s[k]else restS s[k])=true->∃m,m<s.length-k/\∃k_1,k_1<=s.length/\m=s.length-k_1/\h++[ABlk.iter s (k+w')]=h++[ABlk.iter s k_1]/\goodS (List.take k_1 s)=true/\True:=λw' hw hb=>by
   rw[hb]at hstep;exact⟨_,by omega,k+1,by omega,rfl,by rw[hw.2],hstep,trivial⟩
  have hl:letterS s[k]=(decide (65<=s[k].toNat)&&decide (s[k].toNat<=90)||decide (97<=s[k].toNat)&&decide (s[k].toNat<=122)):=rfl;have hr:restS s[k]=(letterS s[k]||(decide (48<=s[k].toNat)&&decide (s[k].toNat<=57))||s[k].toNat==95):=rfl;have h0':((k:Int)=0)=(k=0):=by simp
  by_cases a1:(65:Int)<=c<;>by_cases a2:(c:Int)<=90<;>by_cases a3:(97:Int)<=c<;>by_cases a4:(c:Int)<=122<;>first|(exfalso;omega)|skip
  all_goals by_cases a5:(48:Int)<=c<;>by_cases a6:(c:Int)<=57<;>by_cases a7:(c:Int)=95<;>first|(exfalso;omega)|skip
  all_goals first|have b7:=eq_false a7|have b7:=eq_true a7
  all_goals simp only[wset,hset,h0,h8,nextB,hlt,if_true,hdec,a1,a2,a3,a4,a5,a6,b7,decide_true,decide_false,Bool.not_true,Bool.not_false]
  all_goals first
   |exact hgood _ (by omega) (by grind)
   |(by_cases hk0:(k:Int)=0<;>simp only[wset,hset,hk0,decide_true,decide_false,Bool.not_true,Bool.not_false]<;>first
     |exact hbad (by grind)
     |exact hgood _ (by omega) (by grind))
   |exact hbad (by grind)
 ·simp only[wset,hset,h0,h8,nextB,hlt,if_false,if_true];have e4:k=s.length:=by omega
  rw[e4,List.take_length]at hf;by_cases he:s=[]<;>simp only[wset,he,decide_true,decide_false,ne_eq,not_true_eq_false,not_false_eq_true]
  ·rfl
  ·rw[name_good,hf];simp[he];omega
end
end Go.Abs
namespace Go.Abs
def strRow(x:List UInt8):List AV:=[.str x]
def fltR(b:Nat):List AV:=[.flt .f32 b]
set_option maxRecDepth 10000
attribute [local irreducible] WP WC WE WB WR WF WL WG WRg WQ
section
variable {P:Program}(T:Tbl P) {h:AHeap}
include T
def q63{s:AV}{l:List (Nat)}(hs:IsSl h s 1 (l.map fltR))(hl:l.length<2^40){f:FuncId}{AF:AFunc}(hA:compileFn P f=some AF){g:Nat->Int}(hf:∀x∈l,∀k,RCall P f [.flt .f32 x] k (λv _=>v=.int .i64 (g x))):RCall P 63 [s,.func (.func f) [] []] h (λv h'=>Fr h.length h' v 1 ((l.map g).map intRow)):=by
 refine .st2 22 T.mix T.c63 ?_;intro ts hlen t0 t1;unfold fn63;refine Rs (A3 @t0 @t1 hs.lenm) ?_;refine WL.inv T.mix (λn ts K=>∃(k:Nat) (t:AV),k<=l.length/\n=l.length-k/\Ext h K/\Fr h.length K t 1 (((l.take k).map g).map intRow)/\ts.length=22/\slot ts 1=.func (.func f) [] []/\slot ts 5=t/\slot ts 8=s/\slot ts 9=.int .i64 l.length/\slot ts 10=.int .i64 k) l.length
  ⟨0,.nilSlice,by omega,rfl,.refl _,.nil,Sn,(Sq @t1),Sw,Sw,Sw,Swr⟩ ?_
 clear hlen t0 t1;rintro _ ts K ⟨k,t,hk,rfl,eK,hfr,hlen,t1,t5,t8,t9,t10⟩;have hsK:=hs.ext eK;by_cases hlt:k<l.length
 case neg=>
  have e3:=dltF hlt;have e4:k=l.length:=by omega
  rw[e4,List.take_length]at hfr;refine Rs (A6 @t1 @t5 @t8 @t9 @t10 @e3) ?_;exact⟨eK,hfr⟩
 have e3:=dltT hlt;have e5:=wrapN (n:=k) (by omega);have ix:=hsK.ixm (kk:=.i64) hlt;obtain⟨x,hx⟩:∃x,x=l[k]:=⟨_,rfl⟩;have ld:∀{kk:AHeap},Ext K kk->loadF none (elp s 1 k) (λb=>kk[b]?)=some (.flt .f32 x,.keep):=λ{kk} e=>by rw[hx];exact hsK.l1m hlt rfl e
 have hmem:x∈l:=by rw[hx];exact List.getElem_mem _
 have ot:=hfr.isSl.one;have htk:l.take (k+1)=l.take k++[x]:=by rw[hx];exact List.take_succ_eq_append_getElem hlt
 refine Rs (A9 @t1 @t5 @t8 @t9 @t10 @e3 @ix @ld @ot) ?_;refine WF.ce hA (hf x hmem _) λg1=>?_
 have bs:∀{N:Nat},bslF 1 1 (fillA [.int .i64 0] [(0,1,.int .i64 (g x))]) N=some (.slice N 0 1 1,.push (.cells [.int .i64 (g x)] true true)):=λ{N}=>rfl
 refine Rs (A7 @t1 @t5 @t8 @t9 @t10 @ot @bs) ?_;refine WR.appRf (B:=h) (cs:=((l.take k).map g).map intRow) (z:=intRow (g x)) (hfr.app _) rfl (eK.trans ⟨_,rfl⟩) (by decide) (by rw[List.length_map,List.length_map,List.length_take];omega) ?_;intro W5 s' x5 hff q5;have hrow:((l.take k).map g).map intRow++[intRow (g x)]=((l.take (k+1)).map g).map intRow:=by rw[htk,List.map_append,List.map_append];rfl
 rw[hrow]at hff;refine Rs (A7 @t1 @t5 @t8 @t9 @t10 @q5 @e5) ?_;exact⟨l.length-(k+1),by omega,k+1,s',by omega,rfl,x5,hff,rfl,rfl⟩
def r63{s:AV}{l:List (Nat)}(hs:IsSl h s 1 (l.map fltR))(hl:l.length<2^40){f:FuncId}{AF:AFunc}(hA:compileFn P f=some AF){g:Nat->Int}(hf:∀x∈l,∀k,RCall P f [.flt .f32 x] k (λv _=>v=.int .i64 (g x))):RCall P 63 [s,.func (.func f) [] []] h (λv h'=>IsSl h' v 1 ((l.map g).map intRow)):=by
 obtain⟨v,k,h1,h2⟩:=q63 T hs hl hA hf;exact⟨v,k,h1,h2.isSl⟩
def q113{s:AV}{l:List (Int)}(hs:IsSl h s 1 (l.map intRow))(hl:l.length<2^40){f:FuncId}{AF:AFunc}(hA:compileFn P f=some AF){g:Int->Nat}(hf:∀x∈l,∀k,RCall P f [.int .i64 x] k (λv _=>v=.flt .f32 (g x))):RCall P 113 [s,.func (.func f) [] []] h (λv h'=>Fr h.length h' v 1 ((l.map g).map fltR)):=by
 refine .st2 22 T.mix T.c113 ?_;intro ts hlen t0 t1;unfold fn113;refine Rs (A3 @t0 @t1 hs.lenm) ?_;refine WL.inv T.mix (λn ts K=>∃(k:Nat) (t:AV),k<=l.length/\n=l.length-k/\Ext h K/\Fr h.length K t 1 (((l.take k).map g).map fltR)/\ts.length=22/\slot ts 1=.func (.func f) [] []/\slot ts 5=t/\slot ts 8=s/\slot ts 9=.int .i64 l.length/\slot ts 10=.int .i64 k) l.length
  ⟨0,.nilSlice,by omega,rfl,.refl _,.nil,Sn,(Sq @t1),Sw,Sw,Sw,Swr⟩ ?_
 clear hlen t0 t1;rintro _ ts K ⟨k,t,hk,rfl,eK,hfr,hlen,t1,t5,t8,t9,t10⟩;have hsK:=hs.ext eK;by_cases hlt:k<l.length
 case neg=>
  have e3:=dltF hlt;have e4:k=l.length:=by omega
  rw[e4,List.take_length]at hfr;refine Rs (A6 @t1 @t5 @t8 @t9 @t10 @e3) ?_;exact⟨eK,hfr⟩
 have e3:=dltT hlt;have e5:=wrapN (n:=k) (by omega);have ix:=hsK.ixm (kk:=.i64) hlt;obtain⟨x,hx⟩:∃x,x=l[k]:=⟨_,rfl⟩;have ld:∀{kk:AHeap},Ext K kk->loadF none (elp s 1 k) (λb=>kk[b]?)=some (.int .i64 x,.keep):=λ{kk} e=>by rw[hx];exact hsK.l1m hlt rfl e
 have hmem:x∈l:=by rw[hx];exact List.getElem_mem _
 have ot:=hfr.isSl.one;have htk:l.take (k+1)=l.take k++[x]:=by rw[hx];exact List.take_succ_eq_append_getElem hlt
 refine Rs (A9 @t1 @t5 @t8 @t9 @t10 @e3 @ix @ld @ot) ?_;refine WF.ce hA (hf x hmem _) λg1=>?_
 have bs:∀{N:Nat},bslF 1 1 (fillA [.flt .f32 0] [(0,1,.flt .f32 (g x))]) N=some (.slice N 0 1 1,.push (.cells [.flt .f32 (g x)] true true)):=λ{N}=>rfl
 refine Rs (A7 @t1 @t5 @t8 @t9 @t10 @ot @bs) ?_;refine WR.appRf (B:=h) (cs:=((l.take k).map g).map fltR) (z:=fltR (g x)) (hfr.app _) rfl (eK.trans ⟨_,rfl⟩) (by decide) (by rw[List.length_map,List.length_map,List.length_take];omega) ?_;intro W5 s' x5 hff q5;have hrow:((l.take k).map g).map fltR++[fltR (g x)]=((l.take (k+1)).map g).map fltR:=by rw[htk,List.map_append,List.map_append];rfl
 rw[hrow]at hff;refine Rs (A7 @t1 @t5 @t8 @t9 @t10 @q5 @e5) ?_;exact⟨l.length-(k+1),by omega,k+1,s',by omega,rfl,x5,hff,rfl,rfl⟩
def q107{s:AV}{l:List (Int)}(hs:IsSl h s 1 (l.map intRow))(hl:l.length<2^40){f:FuncId}{AF:AFunc}(hA:compileFn P f=some AF){g:Int->Int}(hf:∀x∈l,∀k,RCall P f [.int .i64 x] k (λv _=>v=.int .i64 (g x))):RCall P 107 [s,.func (.func f) [] []] h (λv h'=>Fr h.length h' v 1 ((l.map g).map intRow)):=by
 refine .st2 22 T.mix T.c107 ?_;intro ts hlen t0 t1;unfold fn107;refine Rs (A3 @t0 @t1 hs.lenm) ?_;refine WL.inv T.mix (λn ts K=>∃(k:Nat) (t:AV),k<=l.length/\n=l.length-k/\Ext h K/\Fr h.length K t 1 (((l.take k).map g).map intRow)/\ts.length=22/\slot ts 1=.func (.func f) [] []/\slot ts 5=t/\slot ts 8=s/\slot ts 9=.int .i64 l.length/\slot ts 10=.int .i64 k) l.length
  ⟨0,.nilSlice,by omega,rfl,.refl _,.nil,Sn,(Sq @t1),Sw,Sw,Sw,Swr⟩ ?_
 clear hlen t0 t1;rintro _ ts K ⟨k,t,hk,rfl,eK,hfr,hlen,t1,t5,t8,t9,t10⟩;have hsK:=hs.ext eK;by_cases hlt:k<l.length
 case neg=>
  have e3:=dltF hlt;have e4:k=l.length:=by omega
  rw[e4,List.take_length]at hfr;refine Rs (A6 @t1 @t5 @t8 @t9 @t10 @e3) ?_;exact⟨eK,hfr⟩
 have e3:=dltT hlt;have e5:=wrapN (n:=k) (by omega);have ix:=hsK.ixm (kk:=.i64) hlt;obtain⟨x,hx⟩:∃x,x=l[k]:=⟨_,rfl⟩;have ld:∀{kk:AHeap},Ext K kk->loadF none (elp s 1 k) (λb=>kk[b]?)=some (.int .i64 x,.keep):=λ{kk} e=>by rw[hx];exact hsK.l1m hlt rfl e
 have hmem:x∈l:=by rw[hx];exact List.getElem_mem _
 have ot:=hfr.isSl.one;have htk:l.take (k+1)=l.take k++[x]:=by rw[hx];exact List.take_succ_eq_append_getElem hlt
 refine Rs (A9 @t1 @t5 @t8 @t9 @t10 @e3 @ix @ld @ot) ?_;refine WF.ce hA (hf x hmem _) λg1=>?_
 have bs:∀{N:Nat},bslF 1 1 (fillA [.int .i64 0] [(0,1,.int .i64 (g x))]) N=some (.slice N 0 1 1,.push (.cells [.int .i64 (g x)] true true)):=λ{N}=>rfl
 refine Rs (A7 @t1 @t5 @t8 @t9 @t10 @ot @bs) ?_;refine WR.appRf (B:=h) (cs:=((l.take k).map g).map intRow) (z:=intRow (g x)) (hfr.app _) rfl (eK.trans ⟨_,rfl⟩) (by decide) (by rw[List.length_map,List.length_map,List.length_take];omega) ?_;intro W5 s' x5 hff q5;have hrow:((l.take k).map g).map intRow++[intRow (g x)]=((l.take (k+1)).map g).map intRow:=by rw[htk,List.map_append,List.map_append];rfl
 rw[hrow]at hff;refine Rs (A7 @t1 @t5 @t8 @t9 @t10 @q5 @e5) ?_;exact⟨l.length-(k+1),by omega,k+1,s',by omega,rfl,x5,hff,rfl,rfl⟩
def r107{s:AV}{l:List (Int)}(hs:IsSl h s 1 (l.map intRow))(hl:l.length<2^40){f:FuncId}{AF:AFunc}(hA:compileFn P f=some AF){g:Int->Int}(hf:∀x∈l,∀k,RCall P f [.int .i64 x] k (λv _=>v=.int .i64 (g x))):RCall P 107 [s,.func (.func f) [] []] h (λv h'=>IsSl h' v 1 ((l.map g).map intRow)):=by
 obtain⟨v,k,h1,h2⟩:=q107 T hs hl hA hf;exact⟨v,k,h1,h2.isSl⟩
end
end Go.Abs
namespace Go.Abs
noncomputable def chkL(l:List Nat):Int:=if 1024<l.length then 5 else firstS (l.map gridE)
theorem firstS_z:∀{l:List Int},firstS l=0->∀x∈l,x=0
 |[],_,x,h=>by cases h
 |y::l,h,x,hx=>by
  rw[firstS]at h;by_cases hy:y=0
  ·rw[if_pos hy]at h;rcases List.mem_cons.1 hx with rfl|hx
   ·exact hy
   ·exact firstS_z h x hx
  ·rw[if_neg hy]at h;exact absurd h hy
def chkL_z{l:List Nat}(h:chkL l=0):l.length<=1024/\∀b∈l,gridE b=0:=by
 unfold chkL at h;split at h
 ·cases h
 ·exact⟨by omega,λb hb=>firstS_z h _ (List.mem_map_of_mem hb)⟩
def fitB(n:Int):Bool:=decide (-16384<=n)&&decide (n<=16384)
def fitB_t{n:Int}(h:fitB n=true):-16384<=n/\n<=16384:=by simpa [fitB]using h
def fitsB(l:List Int):Bool:=l.all fitB
set_option maxRecDepth 10000
attribute [local irreducible] WP WC WE WB WR WF WL WG WRg WQ
section
variable {P:Program}(T:Tbl P) {h:AHeap}
include T
end
end Go.Abs
namespace Go.Abs
structure Trc where
 hd:Nat->Int
 hole:Bool
 sm:List Nat
def hdR(f:Nat->Int):List AV:=[.int .i64 (f 0),.int .i64 (f 1),.int .i64 (f 2),.int .i64 (f 3),.int .i64 (f 4),.int .i64 (f 5),.int .i64 (f 6),.int .i64 (f 7)]
def trRow(x:Trc×AV):List AV:=[.int .i64 (x.1.hd 0),.int .i64 (x.1.hd 1),.int .i64 (x.1.hd 2),.int .i64 (x.1.hd 3),.int .i64 (x.1.hd 4),.int .i64 (x.1.hd 5),.int .i64 (x.1.hd 6),.int .i64 (x.1.hd 7),.bool x.1.hole,x.2]
def hdLo(i:Nat):Int:=if i<4 then -100000 else if i=4 then 0 else -999999999
def hdHi(i:Nat):Int:=if i<4 then 100000 else if i=4 then 100000 else 999999999
def hdE(f:Nat->Int):Int:=firstS [rangeS (f 0) (-100000) 100000,rangeS (f 1) (-100000) 100000,rangeS (f 2) (-100000) 100000,rangeS (f 3) (-100000) 100000,rangeS (f 4) 0 100000,rangeS (f 5) (-999999999) 999999999,rangeS (f 6) (-999999999) 999999999,rangeS (f 7) (-999999999) 999999999]
def hdF(f:Nat->Int):Nat->Int
 | 0=>0
 |n+1=>if rangeS (f (7-n)) (hdLo (7-n)) (hdHi (7-n))=0 then hdF f n else rangeS (f (7-n)) (hdLo (7-n)) (hdHi (7-n))
def hdF_eq(f:Nat->Int):hdF f 8=hdE f:=by
 simp only[hdE,firstS,hdF,hdLo,hdHi];simp
def hdF_at{f:Nat->Int}{k:Nat}(hk:k<8):hdF f (8-k)=if rangeS (f k) (hdLo k) (hdHi k)=0 then hdF f (8-(k+1))else rangeS (f k) (hdLo k) (hdHi k):=by
 obtain⟨n,hn⟩:∃n,n=7-k:=⟨_,rfl⟩;rw[show 8-k=n+1 by omega,hdF,show 7-n=k by omega,show 8-(k+1)=n by omega]
noncomputable def chkTr(t:Trc):Int:=firstS [hdE t.hd,whenS (t.hole&&decide (0<t.sm.length)) 24,chkL t.sm]
def widN(L:List Trc):Nat:=match L.find? λt=>!t.hole with
 |some t=>t.sm.length
 |none=>0
noncomputable def chkSh(nm:List UInt8)(L:List Trc):Int:=firstS [whenS (!nameS nm) 8,whenS (decide (L.length=0)) 12,whenS (decide (64<L.length)) 5,firstS (L.map chkTr),whenS (L.any λt=>!t.hole&&decide (t.sm.length≠widN L)) 2]
structure ShOk(h:AHeap)(L:List (Trc×AV))(s:AV):Prop where
 sl:IsSl h s 10 (L.map trRow)
 all:∀x∈L,IsSl h x.2 1 (x.1.sm.map fltR)
theorem ShOk.ext{h k:AHeap}{L:List (Trc×AV)}{s:AV}(o:ShOk h L s)(e:Ext h k):ShOk k L s:=⟨o.sl.ext e,λx hx=>(o.all x hx).ext e⟩
end Go.Abs
namespace Go.Abs
def rngCells:List AV:=[.int .i64 (-100000),.int .i64 100000,.int .i64 (-100000),.int .i64 100000,.int .i64 (-100000),.int .i64 100000,.int .i64 (-100000),.int .i64 100000,.int .i64 0,.int .i64 100000,.int .i64 (-999999999),.int .i64 999999999,.int .i64 (-999999999),.int .i64 999999999,.int .i64 (-999999999),.int .i64 999999999]
def Rng(h:AHeap):Prop:=h[0]? =some (.cells rngCells false false)
def Rng.ext{h k:AHeap}(p:Rng h)(e:Ext h k):Rng k:=e.some p
def eight{n:Nat}(h:n<8):n=0\/n=1\/n=2\/n=3\/n=4\/n=5\/n=6\/n=7:=by omega
def rng_lo{h k:AHeap}(p:Rng h){i:Nat}(hi:i<8)(e:Ext h k):loadF none (.ptr 0 (i*2)) (λz=>k[z]?)=some (.int .i64 (hdLo i),.keep):=by
 rw[loadF_at (e.some p)];rcases eight hi with rfl|rfl|rfl|rfl|rfl|rfl|rfl|rfl<;>rfl
def rng_hi{h k:AHeap}(p:Rng h){i:Nat}(hi:i<8)(e:Ext h k):loadF none (.ptr 0 (i*2+1)) (λz=>k[z]?)=some (.int .i64 (hdHi i),.keep):=by
 rw[loadF_at (e.some p)];rcases eight hi with rfl|rfl|rfl|rfl|rfl|rfl|rfl|rfl<;>rfl
def ia_82{b i:Nat}(hi:i<8):iadaF 8 2 (.ptr b 0) (.int .i64 (i:Int))=some (.ptr b (i*2)):=by unfold iadaF;simp;omega
def ia_20{b o:Nat}:iadaF 2 1 (.ptr b o) (.int .i64 0)=some (.ptr b o):=rfl
def ia_21{b o:Nat}:iadaF 2 1 (.ptr b o) (.int .i64 1)=some (.ptr b (o+1)):=rfl
def ix_81{f:Nat->Int}{i:Nat}(hi:i<8):ixaF 8 1 none (.agg (hdR f)) (.int .i64 (i:Int))=some (.int .i64 (f i)):=by
 rcases eight hi with rfl|rfl|rfl|rfl|rfl|rfl|rfl|rfl<;>rfl
def lt8T{k:Nat}(h:k<8):decide ((k:Int)<8)=true:=decide_eq_true (by omega)
def lt8F{k:Nat}(h:¬k<8):decide ((k:Int)<8)=false:=decide_eq_false (by omega)
def tr_one{x:Trc×AV}(ox:x.2.one=true):(trRow x).all AV.one=true:=by
 show([.int .i64 (x.1.hd 0),.int .i64 (x.1.hd 1),.int .i64 (x.1.hd 2),.int .i64 (x.1.hd 3),.int .i64 (x.1.hd 4),.int .i64 (x.1.hd 5),.int .i64 (x.1.hd 6),.int .i64 (x.1.hd 7),.bool x.1.hole,x.2] :List AV).all AV.one=true;simp only[List.all_cons,List.all_nil,ox];rfl
def tr_box{x:Trc×AV}(ox:x.2.one=true){N:Nat}:boxF (.agg (trRow x)) N=some (.ptr N 0,.push (.cells (trRow x) true false)):=by
 unfold boxF;show(if(trRow x).all AV.one=true then _ else _)=_;rw[if_pos (tr_one ox)];rfl
def z10:List AV:=[.int .i64 0,.int .i64 0,.int .i64 0,.int .i64 0,.int .i64 0,.int .i64 0,.int .i64 0,.int .i64 0,.bool false,.nilSlice]
def z10_box{N:Nat}:boxF (.agg [.int .i64 0,.int .i64 0,.int .i64 0,.int .i64 0,.int .i64 0,.int .i64 0,.int .i64 0,.int .i64 0,.bool false,.nilSlice]) N=some (.ptr N 0,.push (.cells z10 true false)):=rfl
def st_tr{x:Trc×AV}(ox:x.2.one=true){n:Nat}:stB 10 0 (.agg (trRow x)) n (.cells z10 true false)=some (undefA,.set n (.cells (trRow x) true false)):=(stB_agg rfl (tr_one ox) (by show 0+10<=10;omega)).trans rfl
def tr_l8{x:Trc×AV}:ldB (some 8) 0 (.cells (trRow x) true false)=some (.agg (hdR x.1.hd),.keep):=rfl
def tr_l10{x:Trc×AV}:ldB (some 10) 0 (.cells (trRow x) true false)=some (.agg (trRow x),.keep):=rfl
def tr_h{x:Trc×AV}:ldB none 8 (.cells (trRow x) true false)=some (.bool x.1.hole,.keep):=rfl
def tr_s{x:Trc×AV}:ldB none 9 (.cells (trRow x) true false)=some (x.2,.keep):=rfl
def nz_dec{n:Nat}:decide ((0:Int)<(n:Int))=decide (0<n):=decide_eq_decide.2 (by omega)
set_option maxRecDepth 10000
attribute [local irreducible] WP WC WE WB WR WF WL WG WRg WQ
section
variable {P:Program}(T:Tbl P) {h:AHeap}
include T
def q244{s:AV}{l:List (Nat)}(hs:IsSl h s 1 (l.map fltR))(hl:l.length<2^40){f:FuncId}{AF:AFunc}(hA:compileFn P f=some AF){g:Nat->Int}(hf:∀x∈l,∀k,RCall P f [.flt .f32 x] k (λv _=>v=.int .i64 (g x))):RCall P 244 [s,.func (.func f) [] []] h (λv h'=>Fr h.length h' v 1 ((l.map g).map intRow)):=by
 refine .st2 22 T.mix T.c244 ?_;intro ts hlen t0 t1;unfold fn244;refine Rs (A3 @t0 @t1 hs.lenm) ?_;refine WL.inv T.mix (λn ts K=>∃(k:Nat) (t:AV),k<=l.length/\n=l.length-k/\Ext h K/\Fr h.length K t 1 (((l.take k).map g).map intRow)/\ts.length=22/\slot ts 1=.func (.func f) [] []/\slot ts 5=t/\slot ts 8=s/\slot ts 9=.int .i64 l.length/\slot ts 10=.int .i64 k) l.length
  ⟨0,.nilSlice,by omega,rfl,.refl _,.nil,Sn,(Sq @t1),Sw,Sw,Sw,Swr⟩ ?_
 clear hlen t0 t1;rintro _ ts K ⟨k,t,hk,rfl,eK,hfr,hlen,t1,t5,t8,t9,t10⟩;have hsK:=hs.ext eK;by_cases hlt:k<l.length
 case neg=>
  have e3:=dltF hlt;have e4:k=l.length:=by omega
  rw[e4,List.take_length]at hfr;refine Rs (A6 @t1 @t5 @t8 @t9 @t10 @e3) ?_;exact⟨eK,hfr⟩
 have e3:=dltT hlt;have e5:=wrapN (n:=k) (by omega);have ix:=hsK.ixm (kk:=.i64) hlt;obtain⟨x,hx⟩:∃x,x=l[k]:=⟨_,rfl⟩;have ld:∀{kk:AHeap},Ext K kk->loadF none (elp s 1 k) (λb=>kk[b]?)=some (.flt .f32 x,.keep):=λ{kk} e=>by rw[hx];exact hsK.l1m hlt rfl e
 have hmem:x∈l:=by rw[hx];exact List.getElem_mem _
 have ot:=hfr.isSl.one;have htk:l.take (k+1)=l.take k++[x]:=by rw[hx];exact List.take_succ_eq_append_getElem hlt
 refine Rs (A9 @t1 @t5 @t8 @t9 @t10 @e3 @ix @ld @ot) ?_;refine WF.ce hA (hf x hmem _) λg1=>?_
 have bs:∀{N:Nat},bslF 1 1 (fillA [.int .i64 0] [(0,1,.int .i64 (g x))]) N=some (.slice N 0 1 1,.push (.cells [.int .i64 (g x)] true true)):=λ{N}=>rfl
 refine Rs (A7 @t1 @t5 @t8 @t9 @t10 @ot @bs) ?_;refine WR.appRf (B:=h) (cs:=((l.take k).map g).map intRow) (z:=intRow (g x)) (hfr.app _) rfl (eK.trans ⟨_,rfl⟩) (by decide) (by rw[List.length_map,List.length_map,List.length_take];omega) ?_;intro W5 s' x5 hff q5;have hrow:((l.take k).map g).map intRow++[intRow (g x)]=((l.take (k+1)).map g).map intRow:=by rw[htk,List.map_append,List.map_append];rfl
 rw[hrow]at hff;refine Rs (A7 @t1 @t5 @t8 @t9 @t10 @q5 @e5) ?_;exact⟨l.length-(k+1),by omega,k+1,s',by omega,rfl,x5,hff,rfl,rfl⟩
def r244{s:AV}{l:List (Nat)}(hs:IsSl h s 1 (l.map fltR))(hl:l.length<2^40){f:FuncId}{AF:AFunc}(hA:compileFn P f=some AF){g:Nat->Int}(hf:∀x∈l,∀k,RCall P f [.flt .f32 x] k (λv _=>v=.int .i64 (g x))):RCall P 244 [s,.func (.func f) [] []] h (λv h'=>IsSl h' v 1 ((l.map g).map intRow)):=by
 obtain⟨v,k,h1,h2⟩:=q244 T hs hl hA hf;exact⟨v,k,h1,h2.isSl⟩
def r221{s:AV}{l:List Nat}(hs:IsSl h s 1 (l.map fltR))(hl:l.length<2^40):RCall P 221 [s] h (λv _=>v=.int .i64 (firstS (l.map gridE))):=by
 refine .st1 6 T.mix T.c221 ?_;intro ts hlen t0;unfold fn221;refine Rs @t0 ?_;refine WF.res T.c244 (r244 T hs hl T.c245 (λx _ k=>r245 T x)) ?_;intro s2 g1 is1;refine Rs @t0 ?_;refine WF.ce T.c100 (r100 T is1 (by rw[List.length_map];omega)) λg2=>?_
 exact Rs @t0 trivial
def r184{s:AV}{l:List Nat}(hs:IsSl h s 1 (l.map fltR))(hl:l.length<2^40):RCall P 184 [s] h (λv _=>v=.int .i64 (chkL l)):=by
 refine .st1 8 T.mix T.c184 ?_;intro ts hlen t0;unfold fn184;by_cases h1:1024<l.length
 ·have d1:decide ((1024:Int)<(l.length:Int))=true:=decide_eq_true (by omega);have e:chkL l=5:=if_pos h1;refine Rs (A3 @t0 hs.lenm @d1) ?_;rw[e]
 have d1:decide ((1024:Int)<(l.length:Int))=false:=decide_eq_false (by omega);have e:chkL l=firstS (l.map gridE):=if_neg h1;refine Rs (A3 @t0 hs.lenm @d1) ?_;refine WF.ce T.c221 (r221 T hs hl) λg2=>?_
 refine Rs @t0 ?_;rw[e]
def r103(rg:Rng h){x:Trc×AV}(hx:IsSl h x.2 1 (x.1.sm.map fltR))(hl:x.1.sm.length<2^40):RCall P 103 [.agg (trRow x)] h (λv _=>v=.int .i64 (chkTr x.1)):=by
 refine .st1 40 T.mix T.c103 ?_;intro ts hlen t0;unfold fn103;have bx:∀{N:Nat},boxF (.agg (trRow x)) N=some (.ptr N 0,.push (.cells (trRow x) true false)):=λ{N}=>tr_box hx.one
 have ld8:=@tr_l8 x;have ldh:=@tr_h x;have lds:=@tr_s x;refine Rs (A2 @t0 @bx) ?_;obtain⟨H0,hH0⟩:∃H0,H0=h++[ABlk.cells (trRow x) true false]:=⟨_,rfl⟩;have e0:Ext h H0:=by rw[hH0];exact⟨_,rfl⟩
 have m1:H0[h.length]? =some (.cells (trRow x) true false):=by rw[hH0];exact at_new
 obtain⟨b1,hb1⟩:∃b1,b1=h.length:=⟨_,rfl⟩;rw[<-hb1]at m1 ⊢;rw[<-hH0];clear hH0 hb1;have l1:=@ldx _ _ _ m1;have hE:=hdF_eq x.1.hd;refine Rs (A3 @t0 @l1 @ld8) ?_;refine WL.inv T.mix (λn ts K=>∃i:Nat,i<=8/\n=8-i/\Ext H0 K/\hdF x.1.hd 8=hdF x.1.hd (8-i)/\ts.length=40/\slot ts 1=.ptr b1 0/\slot ts 7=.agg (hdR x.1.hd)/\slot ts 8=.int .i64 i) 8
  ⟨0,by omega,rfl,.refl _,rfl,Sn,Sw,Sw,Swr⟩ ?_
 clear hlen t0;rintro _ ts K ⟨i,hi,rfl,eK,hf,hlen,t1,t7,t8⟩;have l1:=@ldx _ _ _ (eK.some m1);have hsK:=hx.ext (e0.trans eK);by_cases hi8:i<8
 case neg=>
  have e3:=lt8F hi8;have hz:hdE x.1.hd=0:=by rw[<-hE,hf,show i=8 by omega];rfl
  cases hb:x.1.hole with
  |true=>
   have dz:=@nz_dec x.1.sm.length;refine Rs (A10 @t1 @t7 @t8 @e3 @l1 @ldh @lds @hb hsK.lenm @dz) ?_;refine WF.ce T.c101 (r101 T _ _) λg1=>?_
   refine Rs (A3 @t1 @l1 @lds) ?_;refine WF.ce T.c184 (r184 T (hsK.ext Xx) hl) λg2=>?_
   refine Rs @t1 ?_;refine WF.ce T.c100 (r100 T (isSl_ints [_,_]) (by simp)) λg3=>?_
   refine Rs @t1 ?_;refine⟨e0.trans (eK.trans Xx),?_⟩;unfold chkTr;rw[hz,hb,Bool.true_and];rfl
  |false=>
   refine Rs (A8 @t1 @t7 @t8 @e3 @l1 @ldh @lds @hb) ?_;refine WF.ce T.c101 (r101 T _ _) λg1=>?_
   refine Rs (A3 @t1 @l1 @lds) ?_;refine WF.ce T.c184 (r184 T (hsK.ext Xx) hl) λg2=>?_
   refine Rs @t1 ?_;refine WF.ce T.c100 (r100 T (isSl_ints [_,_]) (by simp)) λg3=>?_
   refine Rs @t1 ?_;refine⟨e0.trans (eK.trans Xx),?_⟩;unfold chkTr;rw[hz,hb,Bool.false_and];rfl
 have e3:=lt8T hi8;have e5:=wrapN (n:=i) (by omega);have ix:=@ix_81 x.1.hd i hi8;have ia:=@ia_82 0 i hi8;have i0:=@ia_20 0 (i*2);have i1:=@ia_21 0 (i*2);have rgK:=rg.ext (e0.trans eK);have lo:∀{k:AHeap},Ext K k->loadF none (.ptr 0 (i*2)) (λz=>k[z]?)=some (.int .i64 (hdLo i),.keep):=λ{k} e=>rng_lo rgK hi8 e
 have hh:∀{k:AHeap},Ext K k->loadF none (.ptr 0 (i*2+1)) (λz=>k[z]?)=some (.int .i64 (hdHi i),.keep):=λ{k} e=>rng_hi rgK hi8 e
 have hs:=@hdF_at x.1.hd i hi8;refine Rs (A10 @t1 @t7 @t8 @e3 @ix @ia @i0 @i1 @lo @hh) ?_;refine WF.ce T.c183 (r183 T _ _ _) λg1=>?_
 obtain⟨E,hEE⟩:∃E,E=rangeS (x.1.hd i) (hdLo i) (hdHi i):=⟨_,rfl⟩;rw[<-hEE]at hs ⊢;by_cases hz:E=0
 case neg=>
  have d1:decide (E≠0)=true:=decide_eq_true hz;refine Rs (A4 @t1 @t7 @t8 @d1) ?_;rw[if_neg hz]at hs;refine⟨e0.trans (eK.trans ⟨g1,rfl⟩),?_⟩;unfold chkTr;rw[<-hE,hf,hs,firstS,if_neg hz]
 have d1:decide (E≠0)=false:=decide_eq_false λz=>z hz
 refine Rs (A5 @t1 @t7 @t8 @d1 @e5) ?_;rw[if_pos hz]at hs;exact⟨8-(i+1),by omega,i+1,by omega,rfl,eK.trans ⟨g1,rfl⟩,hf.trans hs,rfl⟩
end
end Go.Abs
namespace Go.Abs
def fitsB_drop{l:List Int}{k:Nat}(h:k<l.length):fitsB (l.drop k)=(fitB l[k]&&fitsB (l.drop (k+1))):=by
 have hd:l.drop k=l[k]::l.drop (k+1):=by simp
 rw[hd];rfl
def fits_all{l:List Int}(h:fitsB l=true):∀x∈l,-16384<=x/\x<=16384:=λx hx=>fitB_t (List.all_eq_true.1 h x hx)
set_option maxRecDepth 10000
attribute [local irreducible] WP WC WE WB WR WF WL WG WRg WQ
section
variable {P:Program}(T:Tbl P) {h:AHeap}
include T
def r112(n:Int):RCall P 112 [.int .i64 n] h (λv _=>v=.bool (fitB n)):=by
 refine .st1 9 T.mix T.c112 ?_;intro ts hlen t0;unfold fn112;by_cases h1:-16384<=n
 ·have d1:decide (-16384<=n)=true:=decide_eq_true h1;have e:fitB n=decide (n<=16384):=by rw[fitB,d1];rfl
  refine Rs (A2 @t0 @d1) ?_;rw[e]
 ·have d1:decide (-16384<=n)=false:=decide_eq_false h1;have e:fitB n=false:=by rw[fitB,d1];rfl
  refine Rs (A2 @t0 @d1) ?_;rw[e]
def r111(n:Int):RCall P 111 [.int .i64 n] h (λv _=>v=.bool (!fitB n)):=by
 refine .st1 6 T.mix T.c111 ?_;intro ts hlen t0;unfold fn111;refine Rs @t0 ?_;refine WF.ce T.c112 (r112 T n) λg1=>?_
 exact Rs @t0 trivial
def r186{s:AV}{l:List Int}(hs:IsSl h s 1 (l.map intRow))(hl:l.length<2^40):RCall P 186 [s,.func (.func 111) [] []] h (λv _=>∃n:Int,v=.int .i64 n/\-1<=n/\(0<=n↔fitsB l=false)):=by
 refine .st2 19 T.mix T.c186 ?_;intro ts hlen t0 t1;unfold fn186;refine Rs (A3 @t0 @t1 hs.lenm) ?_;refine WL.inv T.mix (λn ts K=>∃k:Nat,k<=l.length/\n=l.length-k/\Ext h K/\fitsB l=fitsB (l.drop k)/\ts.length=19/\slot ts 0=s/\slot ts 1=.func (.func 111) [] []/\slot ts 7=.int .i64 l.length/\slot ts 8=.int .i64 k) l.length
  ⟨0,by omega,rfl,.refl _,rfl,Sn,(Sq @t0),(Sq @t1),Sw,Swr⟩ ?_
 clear hlen t0 t1;rintro _ ts K ⟨k,hk,rfl,eK,hf,hlen,t0,t1,t7,t8⟩;have hsK:=hs.ext eK;by_cases hlt:k<l.length
 case neg=>
  have e3:=dltF hlt;have e4:k=l.length:=by omega
  rw[e4,List.drop_length]at hf;refine Rs (A5 @t0 @t1 @t7 @t8 @e3) ?_;exact⟨eK,-1,rfl,by omega,by rw[hf];simp[fitsB]⟩
 have e3:=dltT hlt;have e5:=wrapN (n:=k) (by omega);have ix:=hsK.ixm (kk:=.i64) hlt;rw[fitsB_drop hlt]at hf;obtain⟨x,hx⟩:∃x,x=l[k]:=⟨_,rfl⟩;have ld:∀{kk:AHeap},Ext K kk->loadF none (elp s 1 k) (λb=>kk[b]?)=some (.int .i64 x,.keep):=λ{kk} e=>by rw[hx];exact hsK.l1m hlt rfl e
 rw[<-hx]at hf;refine Rs (A7 @t0 @t1 @t7 @t8 @e3 @ix @ld) ?_;refine WF.ce T.c111 (r111 T x) λg1=>?_
 cases hfx:fitB x with
 |true=>
  rw[hfx,Bool.true_and]at hf;refine Rs (A6 @t0 @t1 @t7 @t8 @e5 @Bool.not_true) ?_;exact⟨l.length-(k+1),by omega,k+1,by omega,rfl,eK.trans ⟨g1,rfl⟩,hf,rfl⟩
 |false=>
  rw[hfx,Bool.false_and]at hf;refine Rs (A6 @t0 @t1 @t7 @t8 @e5 @Bool.not_false) ?_;exact⟨eK.trans ⟨g1,rfl⟩,k,rfl,by omega,by rw[hf];simp⟩
def r110{s:AV}{l:List Int}(hs:IsSl h s 1 (l.map intRow))(hl:l.length<2^40):RCall P 110 [s,.func (.func 111) [] []] h (λv _=>v=.bool (!fitsB l)):=by
 refine .st2 9 T.mix T.c110 ?_;intro ts hlen t0 t1;unfold fn110;refine Rs (A2 @t0 @t1) ?_;refine WF.res T.c186 (r186 T hs hl) ?_;rintro _ g1 ⟨n,rfl,h1,h2⟩;have e:decide (0<=n)= !fitsB l:=by
  cases hf:fitsB l with
  |true=>rw[hf]at h2;exact decide_eq_false λz=>by simpa using h2.1 z
  |false=>exact decide_eq_true (h2.2 hf)
 exact Rs (A3 @t0 @t1 @e) trivial
end
end Go.Abs
namespace Go.Abs
def drop_eq{α:Type}[DecidableEq α]{a b:List α}{k:Nat}(ha:k<a.length)(hb:k<b.length):decide (a.drop k=b.drop k)=(decide (a[k]=b[k])&&decide (a.drop (k+1)=b.drop (k+1))):=by
 have h1:a.drop k=a[k]::a.drop (k+1):=by simp
 have h2:b.drop k=b[k]::b.drop (k+1):=by simp
 rw[h1,h2];by_cases h:a[k]=b[k]
 ·by_cases h':a.drop (k+1)=b.drop (k+1)
  ·rw[decide_eq_true h,decide_eq_true h',decide_eq_true (by rw[h,h'])];rfl
  ·rw[decide_eq_true h,decide_eq_false h',decide_eq_false (by intro z;exact h' (List.cons.inj z).2)];rfl
 ·rw[decide_eq_false h,decide_eq_false (by intro z;exact h (List.cons.inj z).1)];rfl
def smpl_all{l:List Int}(h:fitsB l=true):(∀b∈l.map smpl,gridE b=0)/\(l.map smpl).map gridN=l:=by
 refine⟨λb hb=>?_,?_⟩
 ·obtain⟨x,hx,rfl⟩:=List.mem_map.1 hb;exact(smpl_ok (fits_all h x hx).1 (fits_all h x hx).2).2.1
 ·rw[List.map_map]
  conv=>rhs;rw[<-List.map_id l]
  exact List.map_congr_left λx hx=>(smpl_ok (fits_all h x hx).1 (fits_all h x hx).2).2.2
set_option maxRecDepth 10000
attribute [local irreducible] WP WC WE WB WR WF WL WG WRg WQ
section
variable {P:Program}(T:Tbl P) {h:AHeap}
include T
def r32{s t:AV}{a b:List Nat}(hs:IsSl h s 1 (a.map fltR))(ht:IsSl h t 1 (b.map fltR))(hl:a.length<2^40)(ga:∀x∈a,gridE x=0)(gb:∀x∈b,gridE x=0):RCall P 32 [s,t] h (λv _=>v=.bool (decide (a.map gridN=b.map gridN))):=by
 refine .st2 26 T.mix T.c32 ?_;intro ts hlen t0 t1;unfold fn32;by_cases h1:a.length=b.length
 case neg=>
  have d1:decide ((a.length:Int)≠(b.length:Int))=true:=decide_eq_true (by omega);have e:decide (a.map gridN=b.map gridN)=false:=decide_eq_false λz=>h1 (by simpa using congrArg List.length z)
  refine Rs (A5 @t0 @t1 hs.lenm ht.lenm @d1) ?_;rw[e]
 have d1:decide ((a.length:Int)≠(b.length:Int))=false:=decide_eq_false (by omega);refine Rs (A5 @t0 @t1 hs.lenm ht.lenm @d1) ?_;refine WL.inv T.mix (λn ts K=>∃k:Nat,k<=a.length/\n=a.length-k/\K=h/\decide (a.map gridN=b.map gridN)=decide ((a.map gridN).drop k=(b.map gridN).drop k)/\ts.length=26/\slot ts 0=s/\slot ts 1=t/\slot ts 5=.int .i64 k) a.length
  ⟨0,by omega,rfl,rfl,rfl,Sn,(Sq @t0),(Sq @t1),Swr⟩ ?_
 clear hlen t0 t1 d1;rintro _ ts K ⟨k,hk,rfl,rfl,hf,hlen,t0,t1,t5⟩;by_cases hlt:k<a.length
 case neg=>
  have e3:=dltF hlt;have e4:k=a.length:=by omega
  rw[List.drop_eq_nil_of_le (by rw[List.length_map];omega),List.drop_eq_nil_of_le (by rw[List.length_map];omega),decide_eq_true rfl]at hf;refine Rs (A5 @t0 @t1 @t5 hs.lenm @e3) ?_;rw[hf]
 have e3:=dltT hlt;have hlb:k<b.length:=by omega
 have e5:=wrapN (n:=k) (by omega);have ix:=hs.ixm (kk:=.i64) hlt;have iy:=ht.ixm (kk:=.i64) hlb;rw[drop_eq (by rw[List.length_map];omega) (by rw[List.length_map];omega),List.getElem_map,List.getElem_map]at hf;have gx:=ga a[k] (List.getElem_mem _);have gy:=gb b[k] (List.getElem_mem _);obtain⟨x,hx⟩:∃x,x=a[k]:=⟨_,rfl⟩;obtain⟨y,hy⟩:∃y,y=b[k]:=⟨_,rfl⟩;have ld:∀{kk:AHeap},Ext K kk->loadF none (elp s 1 k) (λb=>kk[b]?)=some (.flt .f32 x,.keep):=λ{kk} e=>by rw[hx];exact hs.l1m hlt rfl e
 have le:∀{kk:AHeap},Ext K kk->loadF none (elp t 1 k) (λb=>kk[b]?)=some (.flt .f32 y,.keep):=λ{kk} e=>by rw[hy];exact ht.l1m hlb rfl e
 rw[<-hx]at gx;rw[<-hy]at gy;rw[<-hx,<-hy]at hf;have nq:=grid_neq gx gy;by_cases hxy:gridN x=gridN y
 ·have d6:decide (gridN x≠gridN y)=false:=decide_eq_false λz=>z hxy
  rw[decide_eq_true hxy,Bool.true_and]at hf;rw[d6]at nq;refine Rs (A11 @t0 @t1 @t5 hs.lenm @e3 @ix @iy @ld @le @nq @e5) ?_;exact⟨a.length-(k+1),by omega,k+1,by omega,rfl,hf,rfl⟩
 ·have d6:decide (gridN x≠gridN y)=true:=decide_eq_true hxy;rw[decide_eq_false hxy,Bool.false_and]at hf;rw[d6]at nq;refine Rs (A10 @t0 @t1 @t5 hs.lenm @e3 @ix @iy @ld @le @nq) ?_;rw[hf]
end
end Go.Abs
namespace Go.Abs
def atZ(l:List Int)(j:Int):Int:=if 0<=j then l.getD j.toNat 0 else 0
def genL(n:Nat)(f:Nat->Int):List Int:=(List.range n).map f
def genL_succ(n:Nat)(f:Nat->Int):genL (n+1) f=genL n f++[f n]:=by unfold genL;rw[List.range_succ,List.map_append];rfl
def genL_len(n:Nat)(f:Nat->Int):(genL n f).length=n:=by simp[genL]
def atZ_bd{l:List Int}(hb:∀x∈l,-16384<=x/\x<=16384)(j:Int):-16384<=atZ l j/\atZ l j<=16384:=by
 unfold atZ;by_cases h:0<=j
 ·rw[if_pos h,List.getD_eq_getElem?_getD];cases hx:l[j.toNat]? with
  |none=>simp
  |some y=>exact hb y (List.mem_of_getElem? hx)
 ·rw[if_neg h];omega
def atZ_at{l:List Int}{k:Nat}(h:k<l.length):atZ l (k:Int)=l[k]:=by
 unfold atZ;rw[if_pos (by omega),Int.toNat_natCast,List.getD_eq_getElem?_getD,List.getElem?_eq_getElem h];rfl
def grid_all{l:List Nat}(hg:∀b∈l,gridE b=0):∀x∈l.map gridN,-16384<=x/\x<=16384:=λx hx=>by
 obtain⟨b,hb,rfl⟩:=List.mem_map.1 hx;exact(grid_num (hg b hb)).2.2
set_option maxRecDepth 10000
attribute [local irreducible] WP WC WE WB WR WF WL WG WRg WQ
section
variable {P:Program}(T:Tbl P) {h:AHeap}
include T
def r115{s:AV}{l:List Int}(hs:IsSl h s 1 (l.map intRow))(hl:l.length<2^40)(j:Int):RCall P 115 [s,.int .i64 j] h (λv _=>v=.int .i64 (atZ l j)):=by
 refine .st2 17 T.mix T.c115 ?_;intro ts hlen t0 t1;unfold fn115;by_cases h1:j<0
 ·have d1:decide (j<0)=true:=decide_eq_true h1;have e:atZ l j=0:=if_neg (by omega);refine Rs (A3 @t0 @t1 @d1) ?_;rw[e]
 have d1:decide (j<0)=false:=decide_eq_false h1;by_cases h2:(l.length:Int)<=j
 ·have d2:decide ((l.length:Int)<=j)=true:=decide_eq_true h2;have e:atZ l j=0:=by
   unfold atZ;rw[if_pos (by omega),List.getD_eq_getElem?_getD,List.getElem?_eq_none (by omega)];rfl
  refine Rs (A5 @t0 @t1 @d1 hs.lenm @d2) ?_;rw[e]
 have d2:decide ((l.length:Int)<=j)=false:=decide_eq_false h2;obtain⟨k,rfl⟩:∃k:Nat,j=k:=⟨j.toNat,by omega⟩;have hk:k<l.length:=by omega
 have ix:=hs.ixm (kk:=.i64) hk;have ld:loadF none (elp s 1 k) (λb=>h[b]?)=some (.int .i64 l[k],.keep):=hs.l1m hk rfl (Ext.refl _);have e:=atZ_at hk;refine Rs (A7 @t0 @t1 @d1 hs.lenm @d2 @ix @ld) ?_;rw[e]
end
end Go.Abs
namespace Go.Abs
set_option maxRecDepth 10000
attribute [local irreducible] WP WC WE WB WR WF WL WG WRg WQ
section
variable {P:Program}(T:Tbl P) {h:AHeap}
include T
end
end Go.Abs
namespace Go.Abs
set_option maxRecDepth 10000
attribute [local irreducible] WP WC WE WB WR WF WL WG WRg WQ
section
variable {P:Program}(T:Tbl P) {h:AHeap}
include T
end
end Go.Abs
namespace Go.Abs
set_option maxRecDepth 10000
attribute [local irreducible] WP WC WE WB WR WF WL WG WRg WQ
section
variable {P:Program}(T:Tbl P) {h:AHeap}
include T
end
end Go.Abs
namespace Go.Abs
def cv(A:List Int)(m:Int):Nat->Int
 | 0=>0
 |j+1=>cv A m j+atZ A j*atZ A (m-j)
set_option maxRecDepth 10000
attribute [local irreducible] WP WC WE WB WR WF WL WG WRg WQ
section
variable {P:Program}(T:Tbl P) {h:AHeap}
include T
end
end Go.Abs
namespace Go.Abs
def rngT(n:Int):Int:=rangeS n (-16) 16
def chkTp(l:List Int):Int:=if l.length=0 then 12 else if 8<l.length then 5 else firstS [firstS (l.map rngT),whenS (decide (l.getD 0 0=0)) 6]
def getD_0{l:List Int}(h:0<l.length):l.getD 0 0=l[0]:=by rw[List.getD_eq_getElem?_getD,List.getElem?_eq_getElem h];rfl
structure TpOk(l:List Int):Prop where
 l1:1<=l.length
 l2:l.length<=8
 r:∀x∈l,-16<=x/\x<=16
 z:l.getD 0 0≠0
def chkTp_z{l:List Int}(h:chkTp l=0):TpOk l:=by
 unfold chkTp at h;split at h
 ·cases h
 split at h
 ·cases h
 obtain⟨h1,h2⟩:=first2 h;refine⟨by omega,by omega,λx hx=>rangeS_z.1 (firstS_z h1 _ (List.mem_map_of_mem hx)),λz=>?_⟩;rw[decide_eq_true z]at h2;cases h2
set_option maxRecDepth 10000
attribute [local irreducible] WP WC WE WB WR WF WL WG WRg WQ
section
variable {P:Program}(T:Tbl P) {h:AHeap}
include T
def r108(n:Int):RCall P 108 [.int .i64 n] h (λv _=>v=.int .i64 (rngT n)):=by
 refine .st1 5 T.mix T.c108 ?_;intro ts hlen t0;unfold fn108;refine Rs @t0 ?_;refine WF.ce T.c109 (r109 T _ _ _) λg1=>?_
 refine Rs @t0 ?_;rfl
def r58{s:AV}{l:List Int}(hs:IsSl h s 1 (l.map intRow))(hl:l.length<2^40):RCall P 58 [s] h (λv _=>v=.int .i64 (chkTp l)):=by
 refine .st1 27 T.mix T.c58 ?_;intro ts hlen t0;unfold fn58;refine Rs (A2 @t0 hs.lenm) ?_;refine WF.ce T.c106 (r106 T _ _) λg1=>?_
 refine Rs (A2 @t0 hs.lenm) ?_;refine WF.ce T.c106 (r106 T _ _) λg2=>?_
 refine Rs @t0 ?_;refine WF.ce T.c56 (r56 T (isSl_ints [_,_]) (by simp)) λg3=>?_
 rw[first_w2];by_cases h1:l.length=0
 ·have d1:decide ((l.length:Int)=0)=true:=decide_eq_true (by omega);have e:chkTp l=12:=if_pos h1;have d2:∀x:Bool,(if whenS true 12=0 then whenS x 5 else whenS true 12)=12:=λ_=>rfl
  have d3:decide ((12:Int)≠0)=true:=rfl;refine Rs (A4 @t0 @d1 @d2 @d3) ?_;rw[e]
 have d1:decide ((l.length:Int)=0)=false:=decide_eq_false (by omega);by_cases h2:8<l.length
 ·have d2:decide ((8:Int)<(l.length:Int))=true:=decide_eq_true (by omega);have e:chkTp l=5:=(if_neg h1).trans (if_pos h2);have d4:(if whenS false 12=0 then whenS true 5 else whenS false 12)=5:=rfl;have d3:decide ((5:Int)≠0)=true:=rfl;refine Rs (A5 @t0 @d1 @d2 @d4 @d3) ?_;rw[e]
 have d2:decide ((8:Int)<(l.length:Int))=false:=decide_eq_false (by omega);have e:chkTp l=firstS [firstS (l.map rngT),whenS (decide (l.getD 0 0=0)) 6]:=(if_neg h1).trans (if_neg h2);have d4:(if whenS false 12=0 then whenS false 5 else whenS false 12)=0:=rfl;have d3:decide ((0:Int)≠0)=false:=rfl;have h0:0<l.length:=by omega
 rw[e,getD_0 h0];obtain⟨B,hB⟩:∃B,B=h++g1++g2++[ABlk.cells [AV.int IntKind.i64 (whenS (decide ((l.length:Int)=0)) 12),AV.int IntKind.i64 (whenS (decide ((8:Int)<(l.length:Int))) 5)] true true]++g3:=⟨_,rfl⟩;have eB:Ext h B:=by rw[hB];exact Xx
 rw[<-hB,d1,d2,d4];have hsB:=hs.ext eB;refine Rs (A2 @t0 @d3) ?_;refine WF.res T.c107 (r107 T hsB hl T.c108 (g:=rngT) (λx _ k=>r108 T x)) ?_;intro s2 g4 is2;refine Rs @t0 ?_;refine WF.ce T.c56 (r56 T is2 (by rw[List.length_map];omega)) λg5=>?_
 have ix:=hsB.ix0 (kk:=.i64) h0;obtain⟨x,hx⟩:∃x,x=l[0]:=⟨_,rfl⟩;have ld:∀{kk:AHeap},Ext B kk->loadF none (elp s 1 0) (λb=>kk[b]?)=some (.int .i64 x,.keep):=λ{kk} e=>by rw[hx];exact hsB.l1m h0 rfl e
 rw[<-hx];refine Rs (A3 @t0 @ix @ld) ?_;refine WF.ce T.c106 (r106 T _ _) λg6=>?_
 refine Rs @t0 ?_;refine WF.ce T.c56 (r56 T (isSl_ints [_,_]) (by simp)) λg7=>?_
 refine Rs @t0 ?_;exact⟨eB.trans Xx,trivial⟩
end
end Go.Abs
namespace Go.Abs
def apS(t A:List Int)(i σ:Int):Nat->Int
 | 0=>0
 |j+1=>apS t A i σ j+atZ t j*atZ A (i+σ*j)
def apF(t A:List Int)(σ:Int)(i:Nat):Int:=apS t A i σ t.length
def apL(t A:List Int)(σ:Int):List Int:=genL A.length (apF t A σ)
def tap_bd{t:List Int}(h:∀x∈t,-16<=x/\x<=16)(j:Int):-16<=atZ t j/\atZ t j<=16:=by
 unfold atZ;by_cases h0:0<=j
 ·rw[if_pos h0,List.getD_eq_getElem?_getD];cases hx:t[j.toNat]? with
  |none=>simp
  |some y=>exact h y (List.mem_of_getElem? hx)
 ·rw[if_neg h0];omega
def tap_prod{x y:Int}(hx:-16<=x/\x<=16)(hy:-16384<=y/\y<=16384):-262144<=x*y/\x*y<=262144:=by
 have e:(x*y).natAbs<=16*16384:=by
  rw[Int.natAbs_mul];exact Nat.mul_le_mul (by omega) (by omega)
 omega
theorem apS_bd{t A:List Int}(ht:∀x∈t,-16<=x/\x<=16)(hA:∀x∈A,-16384<=x/\x<=16384)(i σ:Int):∀j:Nat,-(j*262144:Int)<=apS t A i σ j/\apS t A i σ j<=j*262144
 | 0=>by simp[apS]
 |j+1=>by
  have h1:=apS_bd ht hA i σ j;have h2:=tap_prod (tap_bd ht j) (atZ_bd hA (i+σ*j));rw[apS];have e:((j+1:Nat):Int)*262144=j*262144+262144:=by rw[Int.natCast_add,Int.add_mul];rfl
  omega
set_option maxRecDepth 10000
attribute [local irreducible] WP WC WE WB WR WF WL WG WRg WQ
section
variable {P:Program}(T:Tbl P) {h:AHeap}
include T
end
end Go.Abs
namespace Go.Abs
def set_mid{a b:List Int}{k:Nat}{x y:Int}(h:a.length=k):(a++[x]++b).set k y=a++[y]++b:=by
 rw[List.append_assoc,List.append_assoc,List.set_append_right _ _ (by omega),h,Nat.sub_self];rfl
def get_mid{a b:List Int}{k:Nat}{x:Int}(h:a.length=k)(hk:k<(a++[x]++b).length):(a++[x]++b)[k]=x:=by
 subst h;simp
set_option maxRecDepth 10000
attribute [local irreducible] WP WC WE WB WR WF WL WG WRg WQ
section
variable {P:Program}(T:Tbl P) {h:AHeap}
include T
def r62{s0 s:AV}{t A:List Int}(h0:IsSl h s0 1 (t.map intRow))(hs:IsSl h s 1 (A.map intRow))(ht:TpOk t)(hl:A.length<=1024)(hb:∀x∈A,-16384<=x/\x<=16384){σ:Int}(hσ:-1<=σ/\σ<=1):RCall P 62 [s0,s,.int .i64 σ] h (λv h'=>IsSl h' v 1 ((apL t A σ).map intRow)):=by
 refine .st3 44 T.mix T.c62 ?_;intro ts hlen t0 t1 t2;unfold fn62;have htl:=ht.l2;have hl0:∀G',lenG .sl G' (AV.slice h.length 0 A.length 1)=some A.length:=λ_=>rfl
 repeat (first|simp (config:={maxSteps:=1000000}) only[wset,hset,dset,bset,Nat.reduceAdd,Nat.reduceMul,Nat.reduceLeDiff,Nat.reduceEqDiff,pset,hlen,if_false,if_true,t0,t1,t2,hs.lenm,hl0,mksl_ok (es:=1) (w:=8) (N0:=h.length) (n:=A.length) (z:=[AV.int .i64 0]) (k:=.i64) (k':=.i64) (by omega) (by omega)]|simp (config:={maxSteps:=1000000}) (disch:=first|(simp only[List.length_append,List.length_cons,List.length_nil]<;>omega)|rfl|omega|fail) only[kset,wset,hset,dset,bset,Nat.reduceAdd,Nat.reduceMul,Nat.reduceLeDiff,Nat.reduceEqDiff,pset,hlen,if_false,if_true,t0,t1,t2,hs.lenm,hl0,mksl_ok (es:=1) (w:=8) (N0:=h.length) (n:=A.length) (z:=[AV.int .i64 0]) (k:=.i64) (k':=.i64) (by omega) (by omega)])
 have hF:=Fr.zeros (N:=h.length) (n:=A.length) (h:=h) (z:=[AV.int .i64 0]) (es:=1) (Nat.le_refl _) rfl;obtain⟨sv,hsv⟩:∃sv,sv=AV.slice h.length 0 A.length 1:=⟨_,rfl⟩;rw[<-hsv]at hF ⊢;have er:List.replicate A.length [AV.int .i64 0]=(List.replicate A.length (0:Int)).map intRow:=by simp[intRow]
 rw[er]at hF;obtain⟨f,hf⟩:∃f:Nat->Int,f=apF t A σ:=⟨_,rfl⟩;have hG:apL t A σ=genL A.length f:=by rw[hf];rfl
 refine WL.inv T.mix (λn ts K=>∃(k:Nat) (G:AHeap),k<=A.length/\n=A.length-k/\K=h++G/\Fr h.length K sv 1 ((genL k f++List.replicate (A.length-k) 0).map intRow)/\ts.length=44/\slot ts 0=s0/\slot ts 1=s/\slot ts 2=.int .i64 σ/\slot ts 7=sv/\slot ts 15=.int .i64 A.length/\slot ts 16=.int .i64 k) A.length
  ⟨0,_,by omega,rfl,rfl,hF,Sn,(Sq @t0),(Sq @t1),(Sq @t2),Sw,Sw,Swr⟩ ?_
 clear hlen t0 t1 t2;rintro _ ts _ ⟨k,G,hk,rfl,rfl,hfr,hlen,t0,t1,t2,t7,t15,t16⟩;have eK:Ext h (h++G):=⟨G,rfl⟩;by_cases hlt:k<A.length
 case neg=>
  have e3:=dltF hlt;have e4:k=A.length:=by omega
  rw[e4,Nat.sub_self,List.replicate_zero,List.append_nil,<-hG]at hfr;refine Rs (A7 @t0 @t1 @t2 @t7 @t15 @t16 @e3) ?_;exact hfr.isSl
 have e3:=dltT hlt;have e5:=wrapN (n:=k) (by omega)
 repeat (first|simp (config:={maxSteps:=1000000}) only[wset,hset,dset,bset,Nat.reduceAdd,Nat.reduceMul,Nat.reduceLeDiff,Nat.reduceEqDiff,pset,hlen,if_false,if_true,t0,t1,t2,t7,t15,t16,e3,(h0.ext eK).lenm]|simp (config:={maxSteps:=1000000}) (disch:=first|(simp only[List.length_append,List.length_cons,List.length_nil]<;>omega)|rfl|omega|fail) only[kset,wset,hset,dset,bset,Nat.reduceAdd,Nat.reduceMul,Nat.reduceLeDiff,Nat.reduceEqDiff,pset,hlen,if_false,if_true,t0,t1,t2,t7,t15,t16,e3,(h0.ext eK).lenm])
 have hst:(genL k f++List.replicate (A.length-k) (0:Int))=genL k f++[apS t A k σ 0]++List.replicate (A.length-(k+1)) 0:=by
  rw[show A.length-k=(A.length-(k+1))+1 by omega,List.replicate_succ,List.append_assoc];rfl
 rw[hst]at hfr;refine WL.inv T.mix (λn ts' K'=>∃(j:Nat) (G':AHeap),j<=t.length/\n=t.length-j/\K' =h++G'/\Fr h.length K' sv 1 ((genL k f++[apS t A k σ j]++List.replicate (A.length-(k+1)) 0).map intRow)/\ts'.length=44/\slot ts' 0=s0/\slot ts' 1=s/\slot ts' 2=.int .i64 σ/\slot ts' 7=sv/\slot ts' 8=.int .i64 k/\slot ts' 15=.int .i64 A.length/\slot ts' 16=.int .i64 k/\slot ts' 19=s0/\slot ts' 20=.int .i64 t.length/\slot ts' 21=.int .i64 j) t.length
  ⟨0,G,by omega,rfl,rfl,hfr,Sn,(Sq @t0),(Sq @t1),(Sq @t2),(Sq @t7),Sw,(Sq @t15),(Sq @t16),Sw,Sw,Swr⟩ ?_
 clear hlen t0 t1 t2 t7 t15 t16 hfr eK;rintro _ ts' _ ⟨j,G',hj,rfl,rfl,hfr,hlen,t0,t1,t2,t7,t8,t15,t16,t19,t20,t21⟩;have eK:Ext h (h++G'):=⟨G',rfl⟩;by_cases hjt:j<t.length
 case neg=>
  have e6:decide ((j:Int)<(t.length:Int))=false:=decide_eq_false (by omega);have hfk:apS t A k σ j=f k:=by rw[hf,apF,show t.length=j by omega]
  rw[hfk,<-genL_succ]at hfr;refine Rs (A12 @t0 @t1 @t2 @t7 @t8 @t15 @t16 @t19 @t20 @t21 @e6 @e5) ?_;exact⟨A.length-(k+1),by omega,k+1,G',by omega,rfl,rfl,hfr,rfl⟩
 have e6:decide ((j:Int)<(t.length:Int))=true:=decide_eq_true (by omega);have hAK:=hs.ext eK;have hTK:=h0.ext eK;have cb:=apS_bd ht.r hb k σ j;have ij:=hTK.ixm (kk:=.i64) hjt;have aj:=atZ_at hjt;have bj:=ht.r t[j] (List.getElem_mem _);obtain⟨x,hx⟩:∃x,x=t[j]:=⟨_,rfl⟩;have lj:∀{kk:AHeap},Ext (h++G') kk->loadF none (elp s0 1 j) (λb=>kk[b]?)=some (.int .i64 x,.keep):=λ{kk} e=>by rw[hx];exact hTK.l1m hjt rfl e
 rw[<-hx]at aj bj;have hCl:(genL k f++[apS t A k σ j]++List.replicate (A.length-(k+1)) (0:Int)).length=A.length:=by simp[genL_len];omega
 have hkC:k<(genL k f++[apS t A k σ j]++List.replicate (A.length-(k+1)) (0:Int)).length:=by rw[hCl];exact hlt
 have hgk:=get_mid (b:=List.replicate (A.length-(k+1)) (0:Int)) (x:=apS t A k σ j) (genL_len k f) hkC;have ixk:=hfr.isSl.ixm (kk:=.i64) hkC;have ld:∀{kk:AHeap},Ext (h++G') kk->loadF none (elp sv 1 k) (λb=>kk[b]?)=some (.int .i64 (apS t A k σ j),.keep):=λ{kk} e=>by rw[<-hgk];exact hfr.isSl.l1m hkC rfl e
 have hσj:-8<=σ*(j:Int)/\σ*(j:Int)<=8:=by
  rcases(show σ= -1\/σ=0\/σ=1 by omega)with rfl|rfl|rfl<;>omega
 have w1:IntKind.i64.wrap (σ*(j:Int))=σ*(j:Int):=wrap_in (by omega) (by omega);have w2:IntKind.i64.wrap ((k:Int)+σ*(j:Int))=(k:Int)+σ*(j:Int):=wrap_in (by omega) (by omega);have w5:=wrapN (n:=j) (by omega);refine Rs (A17 @t0 @t1 @t2 @t7 @t8 @t15 @t16 @t19 @t20 @t21 @e6 @ij @lj @ixk @ld @w1 @w2) ?_;refine WF.ce T.c115 (r115 T hAK (by omega) _) λg3=>?_
 have pb:=tap_prod bj (atZ_bd hb ((k:Int)+σ*(j:Int)));have w3:IntKind.i64.wrap (x*atZ A ((k:Int)+σ*(j:Int)))=x*atZ A ((k:Int)+σ*(j:Int)):=wrap_in (by omega) (by omega);have w4:IntKind.i64.wrap (apS t A k σ j+x*atZ A ((k:Int)+σ*(j:Int)))=apS t A k σ (j+1):=by
  rw[apS,aj,wrap_in (by omega) (by omega)]
 have hfr2:=hfr.app g3;have ixk2:=hfr2.isSl.ixm (kk:=.i64) hkC;rw[List.append_assoc]at hfr2 ⊢;refine Rs (A13 @t0 @t1 @t2 @t7 @t8 @t15 @t16 @t19 @t20 @t21 @w3 @w4 @ixk2) ?_;refine WR.put1 (h0:=h) (off:=0) (row:=intRow) (x':=apS t A k σ (j+1)) hfr2 hkC (by decide) rfl rfl ?_;intro g4 hl4 hF4 _;rw[set_mid (genL_len k f)]at hF4;refine Rs (A11 @t0 @t1 @t2 @t7 @t8 @t15 @t16 @t19 @t20 @t21 @w5) ?_;exact⟨t.length-(j+1),by omega,j+1,g4,by omega,rfl,rfl,hF4,rfl⟩
end
end Go.Abs
namespace Go.Abs
def apL_len(t A:List Int)(σ:Int):(apL t A σ).length=A.length:=genL_len _ _
set_option maxRecDepth 10000
attribute [local irreducible] WP WC WE WB WR WF WL WG WRg WQ
section
variable {P:Program}(T:Tbl P) {h:AHeap}
include T
end
end Go.Abs
namespace Go.Abs
set_option maxRecDepth 10000
attribute [local irreducible] WP WC WE WB WR WF WL WG WRg WQ
section
variable {P:Program}(T:Tbl P) {h:AHeap}
include T
end
end Go.Abs
namespace Go.Abs
set_option maxRecDepth 10000
attribute [local irreducible] WP WC WE WB WR WF WL WG WRg WQ
section
variable {P:Program}(T:Tbl P) {h:AHeap}
include T
end
end Go.Abs
namespace Go.Abs
set_option maxRecDepth 10000
attribute [local irreducible] WP WC WE WB WR WF WL WG WRg WQ
section
variable {P:Program}(T:Tbl P) {h:AHeap}
include T
end
end Go.Abs
namespace Go.Abs
set_option maxRecDepth 10000
attribute [local irreducible] WP WC WE WB WR WF WL WG WRg WQ
section
variable {P:Program}(T:Tbl P) {h:AHeap}
include T
end
end Go.Abs
namespace Go.Abs
def ext_setG{h K:AHeap}{b:Nat}{X:ABlk}(e:Ext h K)(hb:h.length<=b):Ext h (K.set b X):=by
 obtain⟨z,rfl⟩:=e;rw[List.set_append_right _ _ hb];exact⟨_,rfl⟩
set_option maxRecDepth 10000
attribute [local irreducible] WP WC WE WB WR WF WL WG WRg WQ
section
variable {P:Program}(T:Tbl P) {h:AHeap}
include T
end
end Go.Abs
namespace Go.Abs
set_option maxRecDepth 10000
attribute [local irreducible] WP WC WE WB WR WF WL WG WRg WQ
section
variable {P:Program}(T:Tbl P) {h:AHeap}
include T
end
end Go.Abs
namespace Go.Abs
set_option maxRecDepth 10000
attribute [local irreducible] WP WC WE WB WR WF WL WG WRg WQ
section
variable {P:Program}(T:Tbl P) {h:AHeap}
include T
end
end Go.Abs
namespace Go.Abs
def st4{L:List AV}(hl:L.length=4)(ho:L.all AV.one=true){b:Nat}{a0 a1 a2 a3:AV}:stB 4 0 (.agg L) b (.cells [a0,a1,a2,a3] true false)=some (undefA,.set b (.cells L true false)):=by
 obtain⟨x0,x1,x2,x3,rfl⟩:∃x0 x1 x2 x3,L=[x0,x1,x2,x3]:=by
  match L,hl with
  |[x0,x1,x2,x3],_=>exact⟨x0,x1,x2,x3,rfl⟩
 exact(stB_agg (l:=[x0,x1,x2,x3]) rfl ho (by show 0+4<=4;omega)).trans rfl
set_option maxRecDepth 10000
attribute [local irreducible] WP WC WE WB WR WF WL WG WRg WQ
section
variable {P:Program}(T:Tbl P) {h:AHeap}
include T
end
end Go.Abs
namespace Go.Abs
def WF.valg{P:Program}{ro:Option Nat->Prop}{ks:List Kt}{ts:TS}{h h':AHeap}{Q:Ex->TS->AHeap->Prop}{fv:AV}{args:List AV}{d:Option Nat}{l:List IOp}{v:AV}(H:SCallV P fv args h v h')(K:WP P ro l ks (put ts d v) h' Q):WF P ro false fv args d l ks ts h Q:=
 ⟨v,h',H,λhq=>absurd hq (by simp),K⟩
set_option maxRecDepth 10000
attribute [local irreducible] WP WC WE WB WR WF WL WG WRg WQ
section
variable {P:Program}(T:Tbl P) {h:AHeap}
include T
end
end Go.Abs
namespace Go.Abs
def liveL:Nat->List (Trc×AV)->List (List AV)
 |_,[]=>[]
 |i,x::r=>if x.1.hole=true then liveL (i+1) r else [.int .i64 (i:Int),.agg (trRow x)]::liveL (i+1) r
def liveT:List (Trc×AV)->List (Trc×AV):=List.filter λx=>!x.1.hole
theorem liveL_len:∀(L:List (Trc×AV)) (i:Nat),(liveL i L).length=(liveT L).length
 |[],_=>rfl
 |x::r,i=>by
  unfold liveL liveT;cases hb:x.1.hole with
  |true=>
   rw[if_pos rfl,List.filter_cons_of_neg (by rw[hb];decide)];exact liveL_len r (i+1)
  |false=>
   rw[if_neg (by decide),List.filter_cons_of_pos (by rw[hb];rfl),List.length_cons,List.length_cons];exact congrArg (· +1) (liveL_len r (i+1))
theorem liveL_at:∀(L:List (Trc×AV)) (i j:Nat) (h:j<(liveL i L).length) (h2:j<(liveT L).length),∃n:Nat,(liveL i L)[j]=[.int .i64 (n:Int),.agg (trRow (liveT L)[j])]
 |[],_,_,h,_=>by simp[liveL]at h
 |x::r,i,j,h,h2=>by
  cases hb:x.1.hole with
  |true=>
   have e1:liveL i (x::r)=liveL (i+1) r:=by rw[liveL,if_pos hb]
   have e2:liveT (x::r)=liveT r:=by unfold liveT;rw[List.filter_cons_of_neg (by rw[hb];decide)]
   simp only[e1,e2]at h h2 ⊢;exact liveL_at r (i+1) j h h2
  |false=>
   have e1:liveL i (x::r)=[.int .i64 (i:Int),.agg (trRow x)]::liveL (i+1) r:=by rw[liveL,if_neg (by rw[hb];decide)]
   have e2:liveT (x::r)=x::liveT r:=by unfold liveT;rw[List.filter_cons_of_pos (by rw[hb];rfl)]
   simp only[e1,e2]at h h2 ⊢;cases j with
   |zero=>exact⟨i,rfl⟩
   |succ j=>exact liveL_at r (i+1) j (by simpa using h) (by simpa using h2)
def liveL_drop(L:List (Trc×AV)){k:Nat}(hk:k<L.length)(i:Nat):liveL (i+k) (L.drop k)=if L[k].1.hole=true then liveL (i+(k+1)) (L.drop (k+1))else [.int .i64 ((i+k:Nat):Int),.agg (trRow L[k])]::liveL (i+(k+1)) (L.drop (k+1)):=by
 rw[List.drop_eq_getElem_cons hk,liveL];rfl
def liveL_two(L:List (Trc×AV))(i:Nat):∀y∈liveL i L,y.length=2:=λy hy=>by
 obtain⟨j,hj,rfl⟩:=List.mem_iff_getElem.1 hy;obtain⟨n,e⟩:=liveL_at L i j hj (by rw[<-liveL_len L i];exact hj);rw[e];rfl
def shC(nm:List UInt8)(s:AV):List AV:=[.str nm,s]
def sh_box{nm:List UInt8}{s:AV}(os:s.one=true){N:Nat}:boxF (.agg [.str nm,s]) N=some (.ptr N 0,.push (.cells (shC nm s) true false)):=by
 unfold boxF;rw[if_pos (by show([.str nm,s] :List AV).all AV.one=true;simp only[List.all_cons,List.all_nil,os];rfl)];rfl
def sh_l2{nm:List UInt8}{s:AV}:ldB (some 2) 0 (.cells (shC nm s) true false)=some (.agg [.str nm,s],.keep):=rfl
def sh_st{nm nm':List UInt8}{s s':AV}(os:s.one=true){n:Nat}:stB 2 0 (.agg [.str nm,s]) n (.cells (shC nm' s') true false)=some (undefA,.set n (.cells (shC nm s) true false)):=(stB_agg rfl (by simp only[List.all_cons,List.all_nil,os];rfl) (by show 0+2<=2;omega)).trans rfl
structure ShSz(L:List (Trc×AV)):Prop where
 l:L.length<2^40
 s:∀x∈L,x.1.sm.length<2^40
set_option maxRecDepth 10000
attribute [local irreducible] WP WC WE WB WR WF WL WG WRg WQ
section
variable {P:Program}(T:Tbl P) {h:AHeap}
include T
def r102(rg:Rng h){L:List (Trc×AV)}{s:AV}(o:ShOk h L s)(z:ShSz L):RCall P 102 [s,.func (.func 103) [] []] h (λv h'=>IsSl h' v 1 ((L.map λx=>chkTr x.1).map intRow)):=by
 refine .st2 22 T.mix T.c102 ?_;intro ts hlen t0 t1;unfold fn102;have zl:=z.l;refine Rs (A3 @t0 @t1 o.sl.lenm) ?_;refine WL.inv T.mix (λn ts K=>∃(k:Nat) (t:AV),k<=L.length/\n=L.length-k/\Ext h K/\Fr h.length K t 1 (((L.take k).map λx=>chkTr x.1).map intRow)/\ts.length=22/\slot ts 1=.func (.func 103) [] []/\slot ts 5=t/\slot ts 8=s/\slot ts 9=.int .i64 L.length/\slot ts 10=.int .i64 k) L.length
  ⟨0,.nilSlice,by omega,rfl,.refl _,.nil,Sn,(Sq @t1),Sw,Sw,Sw,Swr⟩ ?_
 clear hlen t0 t1;rintro _ ts K ⟨k,t,hk,rfl,eK,hfr,hlen,t1,t5,t8,t9,t10⟩;have hsK:=o.sl.ext eK;by_cases hlt:k<L.length
 case neg=>
  have e3:=dltF hlt;have e4:k=L.length:=by omega
  rw[e4,List.take_length]at hfr;refine Rs (A6 @t1 @t5 @t8 @t9 @t10 @e3) ?_;exact⟨eK,hfr.isSl⟩
 have e3:=dltT hlt;have e5:=wrapN (n:=k) (by omega);have ix:=hsK.ixm (kk:=.i64) hlt;obtain⟨x,hx⟩:∃x,x=L[k]:=⟨_,rfl⟩;have ld:∀{kk:AHeap},Ext K kk->loadF (some 10) (elp s 10 k) (λb=>kk[b]?)=some (.agg (trRow x),.keep):=λ{kk} e=>by rw[hx];exact hsK.ldm hlt e
 have hmem:x∈L:=by rw[hx];exact List.getElem_mem _
 have ox:=(o.all x hmem).one;have ot:=hfr.isSl.one;have htk:L.take (k+1)=L.take k++[x]:=by rw[hx];exact List.take_succ_eq_append_getElem hlt
 have bz:=@z10_box;have st:=@st_tr x ox;refine Rs (A10 @t1 @t5 @t8 @t9 @t10 @e3 @ix @ld @bz @st) ?_;obtain⟨K1,hK1⟩:∃K1,K1=K++[ABlk.cells (trRow x) true false]:=⟨_,rfl⟩;have eK1:Ext K K1:=by rw[hK1];exact Xx
 have m7:K1[K.length]? =some (.cells (trRow x) true false):=by rw[hK1];exact at_new
 have l7:=@ldx _ _ _ m7;have l10:=@tr_l10 x;rw[<-hK1];refine Rs (A8 @t1 @t5 @t8 @t9 @t10 @l7 @l10 @ot) ?_;refine WF.ce T.c103 (r103 T (rg.ext (eK.trans eK1)) ((o.all x hmem).ext (eK.trans eK1)) (z.s x hmem)) λg1=>?_
 have bs:∀{N:Nat},bslF 1 1 (fillA [.int .i64 0] [(0,1,.int .i64 (chkTr x.1))]) N=some (.slice N 0 1 1,.push (.cells [.int .i64 (chkTr x.1)] true true)):=λ{N}=>rfl
 refine Rs (A7 @t1 @t5 @t8 @t9 @t10 @ot @bs) ?_;refine WR.appRf (B:=h) (cs:=((L.take k).map λx=>chkTr x.1).map intRow) (z:=intRow (chkTr x.1)) ((hfr.ext eK1).app _) rfl (eK.trans (eK1.trans ⟨_,rfl⟩)) (by decide) (by rw[List.length_map,List.length_map,List.length_take];omega) ?_;intro W5 s' x5 hff q5;have hrow:((L.take k).map λx=>chkTr x.1).map intRow++[intRow (chkTr x.1)]=((L.take (k+1)).map λx=>chkTr x.1).map intRow:=by rw[htk,List.map_append,List.map_append];rfl
 rw[hrow]at hff;refine Rs (A7 @t1 @t5 @t8 @t9 @t10 @q5 @e5) ?_;exact⟨L.length-(k+1),by omega,k+1,s',by omega,rfl,x5,hff,rfl,rfl⟩
def iter_live{b:Nat}{nm:List UInt8}{s:AV}{L:List (Trc×AV)}(m:h[b]? =some (.cells (shC nm s) true false))(o:ShOk h L s)(z:ShSz L):
  Iter P 185 [] [.ptr b 0] (liveL 0 L) (Ext h):=by
 refine⟨λl h1 J Dn hpre happ hstep hend h0=>GCall.of T.mix T.c185 ?_⟩;have zl:=z.l;have e1:=hpre 0 h1 h0;unfold fn185;have hlm:=λG=>o.sl.lenm G
 have l1:loadF none (.ptr b 1) (λz=>h1[z]?)=some (s,.keep):=by rw[loadF_at (e1.some m)];rfl
 refine Ws (A2 @l1 @hlm) ?_;refine WL.inv T.mix (λn ts h'=>∃k j:Nat,k<=L.length/\n=L.length-k/\j<=(liveL 0 L).length/\(liveL 0 L).drop j=liveL (0+k) (L.drop k)/\J j h'/\ts.length=24/\slot ts 0=.func (.yield l) [] []/\slot ts 6=s/\slot ts 7=.int .i64 L.length/\slot ts 8=.int .i64 k) L.length
  ⟨0,0,by omega,rfl,by omega,rfl,h0,rfl,rfl,rfl,rfl,rfl⟩ ?_
 rintro _ ts h' ⟨k,j,hk,rfl,hj,hd,hJ,hlen,t0,t6,t7,t8⟩;by_cases hlt:k<L.length
 case neg=>
  have e3:=dltF hlt;have e4:k=L.length:=by omega
  have e5:j=(liveL 0 L).length:=by
   rw[e4,List.drop_length]at hd;have:(List.drop j (liveL 0 L)).length=0:=by rw[hd];rfl
   rw[List.length_drop]at this;omega
  refine Rs (A5 @t0 @t6 @t7 @t8 @e3) ?_;refine hend h' ?_;rw[<-e5];exact hJ
 have e3:=dltT hlt;have e2:=hpre _ _ hJ;have e5:=wrapN (n:=k) (by omega);have oK:=o.ext e2;have ix:=oK.sl.ixm (kk:=.i64) hlt;obtain⟨x,hx⟩:∃x,x=L[k]:=⟨_,rfl⟩;have ld:∀{kk:AHeap},Ext h' kk->loadF (some 10) (elp s 10 k) (λb=>kk[b]?)=some (.agg (trRow x),.keep):=λ{kk} e=>by rw[hx];exact oK.sl.ldm hlt e
 have hmem:x∈L:=by rw[hx];exact List.getElem_mem _
 have ox:=(o.all x hmem).one;have bz:=@z10_box;have st:=@st_tr x ox;have hdk:=liveL_drop L hlt 0;rw[<-hx]at hdk;simp only[Nat.zero_add]at hdk hd;refine Rs (A9 @t0 @t6 @t7 @t8 @e3 @ix @ld @bz @st) ?_;obtain⟨K1,hK1⟩:∃K1,K1=h'++[ABlk.cells (trRow x) true false]:=⟨_,rfl⟩;have m7:K1[h'.length]? =some (.cells (trRow x) true false):=by rw[hK1];exact at_new
 have hJ1:J j K1:=by rw[hK1];exact happ _ _ _ hJ
 have l7:=@ldx _ _ _ m7;have l10:=@tr_l10 x;have lh:ldV (trRow x)[8]? =some (.bool x.1.hole,.keep):=rfl;rw[<-hK1];cases hb:x.1.hole with
 |true=>
  rw[if_pos hb]at hdk;refine Rs (A9 @t0 @t6 @t7 @t8 @l7 @lh @hb @Bool.not_true @e5) ?_;exact⟨L.length-(k+1),by omega,k+1,j,by omega,rfl,hj,hd.trans hdk,hJ1,rfl⟩
 |false=>
  rw[if_neg (by rw[hb];decide)]at hdk;rw[hdk]at hd;have hjl:j<(liveL 0 L).length:=by
   have:(List.drop j (liveL 0 L)).length≠0:=by rw[hd];simp
   rw[List.length_drop]at this;omega
  have hj1:(liveL 0 L)[j]=[.int .i64 (k:Int),.agg (trRow x)]:=by
   have:=List.drop_eq_getElem_cons hjl;rw[hd]at this;have:=(List.cons.inj this).1;rw[<-this]
  have hj2:(liveL 0 L).drop (j+1)=liveL (k+1) (L.drop (k+1)):=by
   have:=List.drop_eq_getElem_cons hjl;rw[hd]at this;exact(List.cons.inj this).2.symm
  obtain⟨bb,k',q1,q2⟩:=hstep j hjl K1 hJ1;rw[hj1]at q1;refine Rs (A9 @t0 @t6 @t7 @t8 @l7 @lh @l10 @hb @Bool.not_false) ?_;refine WF.valg q1 ?_;cases bb with
  |true=>
   refine Rs (A6 @t0 @t6 @t7 @t8 @Bool.not_true @e5) ?_;exact⟨L.length-(k+1),by omega,k+1,j+1,by omega,rfl,by omega,hj2,q2,rfl⟩
  |false=>
   refine Rs (A5 @t0 @t6 @t7 @t8 @Bool.not_false) ?_;exact q2
def r105{nm:List UInt8}{s:AV}(os:s.one=true):RCall P 105 [.agg [.str nm,s]] h (λv h'=>∃b,v=.func (.func 185) [] [.ptr b 0]/\h'[b]? =some (.cells (shC nm s) true false)):=by
 refine .st1 4 T.mix T.c105 ?_;intro ts hlen t0;unfold fn105;have bx:=@sh_box nm s os;refine Rs (A2 @t0 @bx) ?_;exact⟨_,rfl,at_new⟩
end
end Go.Abs
namespace Go.Abs
def widN_live(L:List (Trc×AV)):widN (L.map Prod.fst)=match liveT L with
  |[]=>0
  |x::_=>x.1.sm.length:=by
 unfold widN liveT;have e:(L.map Prod.fst).find? (λt=>!t.hole)=((L.filter λx=>!x.1.hole).head?).map Prod.fst:=by
  rw[List.head?_filter,List.find?_map];rfl
 rw[e];cases L.filter λx=>!x.1.hole<;>rfl
def any_live(L:List (Trc×AV))(n:Nat):((L.map Prod.fst).any λt=>!t.hole&&decide (t.sm.length≠n))=(liveT L).any λx=>decide (x.1.sm.length≠n):=by
 unfold liveT;rw[List.any_map,List.any_filter];rfl
def at_it{Y g:AHeap}{R B X:ABlk}:(Y++[B]++(g++[X]))[(Y++[R]++g).length]? =some X:=by
 have e:(Y++[R]++g).length=(Y++[B]++g).length:=by simp only[List.length_append,List.length_cons,List.length_nil]
 rw[e,<-List.append_assoc];exact at_new
def set_it{Y G:AHeap}{B v:ABlk}{b:Nat}(hb:b<Y.length):(Y++[B]++G).set b v=Y.set b v++[B]++G:=by
 rw[List.append_assoc,List.set_append_left _ _ hb,List.append_assoc]
def get_it{Y G:AHeap}{B k:ABlk}{b:Nat}(hb:Y[b]? =some k):(Y++[B]++G)[b]? =some k:=(show Ext Y (Y++[B]++G)from⟨[B]++G,by rw[List.append_assoc]⟩).some hb
def st1_at{K:AHeap}{b:Nat}{v w:AV}(m:K[b]? =some (.cells [w] true false))(ov:v.one=true):storeF 1 (.ptr b 0) v (λz=>K[z]?)=some (undefA,.set b (.cells [v] true false)):=by
 rw[storeF_at m,stB_one ov (by show 0+1<=1;omega)];rfl
set_option maxRecDepth 10000
attribute [local irreducible] WP WC WE WB WR WF WL WG WRg WQ
section
variable {P:Program}(T:Tbl P) {h:AHeap}
include T
def r104{nm:List UInt8}{s:AV}{L:List (Trc×AV)}(o:ShOk h L s)(z:ShSz L):RCall P 104 [.agg [.str nm,s]] h (λv _=>∃q:Bool,v=.tup [.int .i64 (widN (L.map Prod.fst):Nat),.bool q]):=by
 refine .st1 13 T.mix T.c104 ?_;intro ts hlen t0;unfold fn104;have bx:=@sh_box nm s o.sl.one;have l2:=@sh_l2 nm s;refine Rs (A3 @t0 @bx @l2) ?_;refine WF.res T.c105 (r105 T o.sl.one) ?_;rintro _ g1 ⟨b,rfl,mb⟩;obtain⟨Y,hY⟩:∃Y,Y=h++[ABlk.cells (shC nm s) true false]++[ABlk.cells [AV.int .i64 0] true false]++[ABlk.cells [AV.bool false] true false]++g1:=⟨_,rfl⟩;have eY:Ext h Y:=by rw[hY];exact Xx
 have m2:Y[(h++[ABlk.cells (shC nm s) true false]).length]? =some (.cells [AV.int .i64 0] true false):=by rw[hY];exact at_2
 have m3:Y[(h++[ABlk.cells (shC nm s) true false]++[ABlk.cells [AV.int .i64 0] true false]).length]? =some (.cells [AV.bool false] true false):=by rw[hY];exact at_1
 obtain⟨b2,hb2⟩:∃b,b=(h++[ABlk.cells (shC nm s) true false]).length:=⟨_,rfl⟩;obtain⟨b3,hb3⟩:∃b,b=(h++[ABlk.cells (shC nm s) true false]++[ABlk.cells [AV.int .i64 0] true false]).length:=⟨_,rfl⟩;have n2:h.length<=b2:=by rw[hb2];simp only[List.length_append];omega
 have n3:h.length<=b3:=by rw[hb3];simp only[List.length_append];omega
 have n23:b2≠b3:=by rw[hb2,hb3];simp only[List.length_append,List.length_cons,List.length_nil];omega
 rw[<-hb2]at m2;rw[<-hb3]at m3;rw[<-hY]at mb;rw[<-hb2,<-hb3,<-hY];clear hY hb2 hb3;have oY:=o.ext eY;have q2:=(List.getElem?_eq_some_iff.1 m2).1;have q3:=(List.getElem?_eq_some_iff.1 m3).1;refine Rs @t0 ?_;refine WC.iter T.mix T.c185 (a:=[]) (c:=[.ptr b 0]) Sw (iter_live T mb oY z) (liveL_two L 0)
  (λi h' g=>i=0/\h' =Y) (λe h' g=>e=.ret/\∃x r,liveT L=x::r/\h' =(Y.set b2 (.cells [.int .i64 (x.1.sm.length:Nat)] true false)).set b3 (.cells [.bool true] true false))
  ⟨rfl,rfl⟩ (λi h' g g' hI=>hI) (λi h' g X hl hI=>?_) (λi hi h' g R B hl' hI=>?_) (λe h' g hl hI=>?_)
 ·obtain⟨_,rfl⟩:=hI;exact Xx
 ·obtain⟨rfl,rfl⟩:=hI;have hi2:0<(liveT L).length:=by rw[<-liveL_len L 0];exact hi
  obtain⟨n,en⟩:=liveL_at L 0 0 hi hi2;rw[en];obtain⟨x,r,hxr⟩:∃x r,liveT L=x::r:=by
   cases hq:liveT L with
   |nil=>rw[hq]at hi2;simp at hi2
   |cons x r=>exact⟨x,r,rfl⟩
  have ex:(liveT L)[0]=x:=by simp only[hxr,List.getElem_cons_zero]
  rw[ex];have hmem:x∈L:=(List.mem_filter.1 (show x∈liveT L by rw[hxr];exact List.mem_cons_self ..)).1;have hx:=oY.all x hmem;have bz:=@z10_box;have st:=@st_tr x hx.one;simp only[setArgs];refine Rs (A3 @t0 @bz @st) ?_;refine⟨h',g++[ABlk.cells (trRow x) true false],by rw[<-List.append_assoc],rfl,?_⟩;have l5:∀{n:Option Nat}{a:Nat},loadF n (.ptr (h'++[R]++g).length a) (λz=>(h'++[B]++(g++[ABlk.cells (trRow x) true false]))[z]?)=ldB n a (.cells (trRow x) true false):=λ{n a}=>loadF_at at_it
  have l9:ldV (trRow x)[9]? =some (x.2,.keep):=rfl;have lm:=λG=>hx.lenm G
  have s2:=st1_at (v:=.int .i64 (x.1.sm.length:Nat)) (get_it (B:=B) (G:=g++[ABlk.cells (trRow x) true false]) m2) rfl;have s3:=st1_at (v:=.bool true) (set_ne' (X:=.cells [.int .i64 (x.1.sm.length:Nat)] true false) n23 (get_it (B:=B) (G:=g++[ABlk.cells (trRow x) true false]) m3)) rfl;refine Rs (A6 @t0 @l5 @l9 @lm @s2 @s3) ?_;refine⟨(h'.set b2 (.cells [.int .i64 (x.1.sm.length:Nat)] true false)).set b3 (.cells [.bool true] true false),g++[ABlk.cells (trRow x) true false],?_,?_,?_⟩
  ·rw[set_it (by rw[List.length_set];exact q3)]
  ·rw[List.length_set,List.length_set]
  ·rw[if_neg (λq=>by cases q)];exact⟨x,r,hxr,rfl⟩
 ·by_cases hen:e=.normal
  ·subst hen;rw[if_pos rfl]at hI;obtain⟨hl0,rfl⟩:=hI;have hq:liveT L=[]:=List.eq_nil_of_length_eq_zero (by rw[<-liveL_len L 0];exact hl0);have hw:widN (L.map Prod.fst)=0:=by rw[widN_live,hq]
   have s2:=st1_at (v:=.int .i64 0) (get_it (B:=.dead) (G:=g) m2) rfl;have s3:=st1_at (v:=.bool false) (set_ne' (X:=.cells [.int .i64 0] true false) n23 (get_it (B:=.dead) (G:=g) m3)) rfl;have k2:(((h'++[ABlk.dead]++g).set b2 (.cells [.int .i64 0] true false)).set b3 (.cells [.bool false] true false))[b2]? =some (.cells [.int .i64 0] true false):=set_ne' (λq=>n23 q.symm) (set_eq' (get_it m2));have k3:(((h'++[ABlk.dead]++g).set b2 (.cells [.int .i64 0] true false)).set b3 (.cells [.bool false] true false))[b3]? =some (.cells [.bool false] true false):=set_eq' (set_ne' n23 (get_it m3));have eK:Ext h (((h'++[ABlk.dead]++g).set b2 (.cells [.int .i64 0] true false)).set b3 (.cells [.bool false] true false)):=ext_setG (ext_setG (eY.trans Xx) n2) n3
   have f2:=@loadF_at none b2 0 _ _ k2;have f3:=@loadF_at none b3 0 _ _ k3;refine Rs (A5 @t0 @s2 @s3 @f2 @f3) ?_;rw[set_it q2]at eK;exact⟨eK,_,by rw[hw];rfl⟩
  ·rw[if_neg hen]at hI;obtain⟨rfl,x,r,hxr,rfl⟩:=hI;have hw:widN (L.map Prod.fst)=x.1.sm.length:=by rw[widN_live,hxr]
   have k2:((Y.set b2 (.cells [.int .i64 (x.1.sm.length:Nat)] true false)).set b3 (.cells [.bool true] true false)++[ABlk.dead]++g)[b2]? =some (.cells [.int .i64 (x.1.sm.length:Nat)] true false):=get_it (set_ne' (λq=>n23 q.symm) (set_eq' m2));have k3:((Y.set b2 (.cells [.int .i64 (x.1.sm.length:Nat)] true false)).set b3 (.cells [.bool true] true false)++[ABlk.dead]++g)[b3]? =some (.cells [.bool true] true false):=get_it (set_eq' (set_ne' n23 m3));have eK:Ext h ((Y.set b2 (.cells [.int .i64 (x.1.sm.length:Nat)] true false)).set b3 (.cells [.bool true] true false)++[ABlk.dead]++g):=(ext_setG (ext_setG eY n2) n3).trans Xx
   have f2:=@loadF_at none b2 0 _ _ k2;have f3:=@loadF_at none b3 0 _ _ k3;refine Rs (A3 @t0 @f2 @f3) ?_;exact⟨eK,_,by rw[hw]⟩
def r57(rg:Rng h){nm:List UInt8}{s:AV}{L:List (Trc×AV)}(o:ShOk h L s)(z:ShSz L):RCall P 57 [.agg [.str nm,s]] h (λv _=>v=.int .i64 (chkSh nm (L.map Prod.fst))):=by
 refine .st1 50 T.mix T.c57 ?_;intro ts hlen t0;unfold fn57;have bx:=@sh_box nm s o.sl.one;have l2:=@sh_l2 nm s;have ln:ldV (shC nm s)[0]? =some (.str nm,.keep):=rfl;have ls:ldV (shC nm s)[1]? =some (s,.keep):=rfl;have hlm:=λG=>o.sl.lenm G
 obtain⟨b1,hb1⟩:∃b,b=h.length:=⟨_,rfl⟩;obtain⟨b2,hb2⟩:∃b,b=(h++[ABlk.cells (shC nm s) true false]).length:=⟨_,rfl⟩;obtain⟨Y,hY⟩:∃Y,Y=h++[ABlk.cells (shC nm s) true false]++[ABlk.cells [AV.int .i64 0] true false]:=⟨_,rfl⟩;have eY:Ext h Y:=by rw[hY];exact Xx
 have m1:Y[b1]? =some (.cells (shC nm s) true false):=by rw[hY,hb1];exact at_1
 have m2:Y[b2]? =some (.cells [AV.int .i64 0] true false):=by rw[hY,hb2];exact at_new
 have n2:h.length<=b2:=by rw[hb2];simp only[List.length_append];omega
 have n12:b1≠b2:=by rw[hb1,hb2];simp only[List.length_append,List.length_cons,List.length_nil];omega
 refine Rs (A2 @t0 @bx) ?_;rw[<-hb1,<-hb2,<-hY];clear hY hb1 hb2;have l1:=@ldx _ _ _ m1;have e1:(((L.length:Nat):Int)=0)=(L.length=0):=by simp
 have dz:decide ((L.length:Int)=0)=decide (L.length=0):=decide_eq_decide.2 (by omega);have dg:decide ((64:Int)<(L.length:Int))=decide (64<L.length):=decide_eq_decide.2 (by omega)
 repeat (first|simp (config:={maxSteps:=1000000}) only[wset,hset,dset,bset,Nat.reduceAdd,Nat.reduceMul,Nat.reduceLeDiff,Nat.reduceEqDiff,pset,hlen,if_false,if_true,t0,l1,ln]|simp (config:={maxSteps:=1000000}) (disch:=first|(simp only[List.length_append,List.length_cons,List.length_nil]<;>omega)|rfl|omega|fail) only[kset,wset,hset,dset,bset,Nat.reduceAdd,Nat.reduceMul,Nat.reduceLeDiff,Nat.reduceEqDiff,pset,hlen,if_false,if_true,t0,l1,ln])
 refine WF.ce T.c68 (r68 T nm) λg1=>?_
 refine Rs @t0 ?_;refine WF.ce T.c101 (r101 T _ _) λg2=>?_
 refine Rs (A5 @t0 @l1 @ls @hlm @dz) ?_;refine WF.ce T.c101 (r101 T _ _) λg3=>?_
 refine Rs (A5 @t0 @l1 @ls @hlm @dg) ?_;refine WF.ce T.c101 (r101 T _ _) λg4=>?_
 refine Rs @t0 ?_;refine WF.ce T.c100 (r100 T (isSl_ints [_,_,_]) (by simp)) λg5=>?_
 obtain⟨K1,hK1⟩:∃K,K=Y++g1++g2++g3++g4++[ABlk.cells [AV.int .i64 (whenS (!nameS nm) 8),AV.int .i64 (whenS (decide (L.length=0)) 12),AV.int .i64 (whenS (decide (64<L.length)) 5)] true true]++g5:=⟨_,rfl⟩;have f1:Ext Y K1:=by rw[hK1];exact Xx
 rw[<-hK1];clear hK1;have hc:chkSh nm (L.map Prod.fst)=firstS [whenS (!nameS nm) 8,whenS (decide (L.length=0)) 12,whenS (decide (64<L.length)) 5,firstS (L.map λx=>chkTr x.1),whenS ((liveT L).any λx=>decide (x.1.sm.length≠widN (L.map Prod.fst))) 2]:=by
  unfold chkSh;rw[List.length_map,List.map_map,any_live];rfl
 have f3:∀{a b c d e:Int},firstS [a,b,c,d,e]=if firstS [a,b,c]≠0 then firstS [a,b,c]else firstS [d,e]:=λ{a b c d e}=>by
  simp only[firstS];by_cases ha:a=0<;>by_cases hb:b=0<;>by_cases hc:c=0<;>simp[ha,hb,hc]
 rw[f3]at hc;obtain⟨E,hE⟩:∃E,E=firstS [whenS (!nameS nm) 8,whenS (decide (L.length=0)) 12,whenS (decide (64<L.length)) 5]:=⟨_,rfl⟩;rw[<-hE]at hc ⊢;clear hE f3;by_cases hz:E=0
 case neg=>
  have d1:decide (E≠0)=true:=decide_eq_true hz;have s2:=st1_at (v:=.int .i64 E) (f1.some m2) rfl;have k2:(K1.set b2 (.cells [.int .i64 E] true false))[b2]? =some (.cells [.int .i64 E] true false):=set_eq' (f1.some m2);have f2:=@loadF_at none b2 0 _ _ k2;have eK:Ext h (K1.set b2 (.cells [.int .i64 E] true false)):=ext_setG (eY.trans f1) n2;rw[if_pos hz]at hc;refine Rs (A4 @t0 @d1 @s2 @f2) ?_;exact⟨eK,by rw[hc]⟩
 have d1:decide (E≠0)=false:=decide_eq_false λz=>z hz
 rw[if_neg (λz=>z hz)]at hc;have l1:=@ldx _ _ _ (f1.some m1);have oK:=o.ext (eY.trans f1);refine Rs (A4 @t0 @d1 @l1 @ls) ?_;refine WF.res T.c102 (r102 T (rg.ext (eY.trans f1)) oK z) ?_;intro v g6 is6;refine Rs @t0 ?_;refine WF.ce T.c100 (r100 T is6 (by rw[List.length_map];have:=z.l;omega)) λg7=>?_
 obtain⟨K2,hK2⟩:∃K,K=K1++g6++g7:=⟨_,rfl⟩;have f2:Ext K1 K2:=by rw[hK2];exact Xx
 rw[<-hK2];clear hK2;obtain⟨E2,hE2⟩:∃E,E=firstS (L.map λx=>chkTr x.1):=⟨_,rfl⟩;rw[<-hE2]at hc ⊢;by_cases hz2:E2=0
 case neg=>
  have d2:decide (E2≠0)=true:=decide_eq_true hz2;have s2:=st1_at (v:=.int .i64 E2) ((f1.trans f2).some m2) rfl;have k2:(K2.set b2 (.cells [.int .i64 E2] true false))[b2]? =some (.cells [.int .i64 E2] true false):=set_eq' ((f1.trans f2).some m2);have f4:=@loadF_at none b2 0 _ _ k2;have eK:Ext h (K2.set b2 (.cells [.int .i64 E2] true false)):=ext_setG (eY.trans (f1.trans f2)) n2;rw[firstS,if_neg hz2]at hc;refine Rs (A4 @t0 @d2 @s2 @f4) ?_;exact⟨eK,by rw[hc]⟩
 have d2:decide (E2≠0)=false:=decide_eq_false λz=>z hz2
 rw[firstS,if_pos hz2]at hc;have l1:=@ldx _ _ _ ((f1.trans f2).some m1);refine Rs (A4 @t0 @d2 @l1 @l2) ?_;refine WF.res T.c104 (r104 T (oK.ext f2) z) ?_;rintro _ g8 ⟨q,rfl⟩;obtain⟨n,hn⟩:∃n,n=widN (L.map Prod.fst):=⟨_,rfl⟩;rw[<-hn]at hc ⊢;have b0:∀{N:Nat},boxF (.int .i64 0) N=some (.ptr N 0,.push (.cells [.int .i64 0] true false)):=λ{N}=>rfl
 have s5:∀{b:Nat},stB 1 0 (.int .i64 (n:Int)) b (.cells [.int .i64 0] true false)=some (undefA,.set b (.cells [.int .i64 (n:Int)] true false)):=λ{b}=>(stB_one rfl (by show 0+1<=1;omega)).trans rfl
 refine Rs (A3 @t0 @b0 @s5) ?_;obtain⟨K3,hK3⟩:∃K,K=K2++g8++[ABlk.cells [AV.int .i64 (n:Int)] true false]:=⟨_,rfl⟩;have f3:Ext K2 K3:=by rw[hK3];exact Xx
 have m5:K3[(K2++g8).length]? =some (.cells [AV.int .i64 (n:Int)] true false):=by rw[hK3];exact at_new
 obtain⟨b5,hb5⟩:∃b,b=(K2++g8).length:=⟨_,rfl⟩;rw[<-hb5]at m5;rw[<-hK3,<-hb5];have n5:b2≠b5:=by
  have:=(List.getElem?_eq_some_iff.1 ((f1.trans f2).some m2)).1;rw[hb5];simp only[List.length_append];omega
 clear hK3 hb5;have l1:=@ldx _ _ _ ((f1.trans (f2.trans f3)).some m1);refine Rs (A3 @t0 @l1 @l2) ?_;refine WF.res T.c105 (r105 T o.sl.one) ?_;rintro _ g9 ⟨b,rfl,mb⟩;obtain⟨W,hW⟩:∃W,W=K3++g9:=⟨_,rfl⟩;have f4:Ext K3 W:=by rw[hW];exact Xx
 rw[<-hW]at mb ⊢;clear hW;have eW:Ext h W:=eY.trans (f1.trans (f2.trans (f3.trans f4)));have oW:=o.ext eW;have mW2:=(f1.trans (f2.trans (f3.trans f4))).some m2;have mW5:=f4.some m5;have q2:=(List.getElem?_eq_some_iff.1 mW2).1;obtain⟨bad,hbad⟩:∃bad:Trc×AV->Bool,bad=λx=>decide (x.1.sm.length≠n):=⟨_,rfl⟩
 rw[<-hbad]at hc;refine Rs @t0 ?_;refine WC.iter T.mix T.c185 (a:=[]) (c:=[.ptr b 0]) Sw (iter_live T mb oW z) (liveL_two L 0)
  (λi h' g=>((liveT L).take i).any bad=false/\h' =W) (λe h' g=>e=.ret/\(liveT L).any bad=true/\h' =W.set b2 (.cells [.int .i64 2] true false))
  ⟨rfl,rfl⟩ (λi h' g g' hI=>hI) (λi h' g X hl hI=>?_) (λi hi h' g R B hl' hI=>?_) (λe h' g hl hI=>?_)
 ·obtain⟨_,rfl⟩:=hI;exact Xx
 ·obtain⟨hany,rfl⟩:=hI;have hi2:i<(liveT L).length:=by rw[<-liveL_len L 0];exact hi
  obtain⟨j,en⟩:=liveL_at L 0 i hi hi2;rw[en];obtain⟨x,hx0⟩:∃x,x=(liveT L)[i]:=⟨_,rfl⟩;have htk:(liveT L).take (i+1)=(liveT L).take i++[x]:=by rw[hx0];exact List.take_succ_eq_append_getElem hi2
  rw[<-hx0];have hmem:x∈L:=(List.mem_filter.1 (show x∈liveT L by rw[hx0];exact List.getElem_mem _)).1;have hx:=oW.all x hmem;have bz:=@z10_box;have st:=@st_tr x hx.one;simp only[setArgs];refine Rs (A3 @t0 @bz @st) ?_;refine⟨h',g++[ABlk.cells (trRow x) true false],by rw[<-List.append_assoc],rfl,?_⟩;have l8:∀{n:Option Nat}{a:Nat},loadF n (.ptr (h'++[R]++g).length a) (λz=>(h'++[B]++(g++[ABlk.cells (trRow x) true false]))[z]?)=ldB n a (.cells (trRow x) true false):=λ{n a}=>loadF_at at_it
  have l9:ldV (trRow x)[9]? =some (x.2,.keep):=rfl;have lm:=λG=>hx.lenm G
  have l5:=@loadF_at none b5 0 _ _ (get_it (B:=B) (G:=g++[ABlk.cells (trRow x) true false]) mW5);have s2:=st1_at (v:=.int .i64 2) (get_it (B:=B) (G:=g++[ABlk.cells (trRow x) true false]) mW2) rfl;have bx:bad x=decide (x.1.sm.length≠n):=by rw[hbad]
  by_cases hne:x.1.sm.length≠n
  ·have d3:decide ((x.1.sm.length:Int)≠(n:Int))=true:=decide_eq_true (by omega);refine Rs (A7 @t0 @l8 @l9 @lm @l5 @d3 @s2) ?_;refine⟨h'.set b2 (.cells [.int .i64 2] true false),g++[ABlk.cells (trRow x) true false],rfl,by rw[List.length_set],?_⟩;rw[if_neg (λq=>by cases q)];refine⟨?_,rfl⟩;rw[List.any_eq_true];exact⟨x,by rw[hx0];exact List.getElem_mem _,by rw[bx];exact decide_eq_true hne⟩
  ·have d3:decide ((x.1.sm.length:Int)≠(n:Int))=false:=decide_eq_false (by omega);refine Rs (A6 @t0 @l8 @l9 @lm @l5 @d3) ?_;refine⟨h',g++[ABlk.cells (trRow x) true false],rfl,rfl,?_⟩;refine⟨?_,rfl⟩;rw[htk,List.any_append,hany];simp only[List.any_cons,List.any_nil,bx,Bool.or_false,Bool.false_or];exact decide_eq_false hne
 ·by_cases hen:e=.normal
  ·subst hen;rw[if_pos rfl]at hI;obtain⟨hany,rfl⟩:=hI;rw[liveL_len,List.take_length]at hany;have s2:=st1_at (v:=.int .i64 0) (get_it (B:=.dead) (G:=g) mW2) rfl;have k2:((h'++[ABlk.dead]++g).set b2 (.cells [.int .i64 0] true false))[b2]? =some (.cells [.int .i64 0] true false):=set_eq' (get_it mW2);have eK:Ext h ((h'++[ABlk.dead]++g).set b2 (.cells [.int .i64 0] true false)):=ext_setG (eW.trans Xx) n2;have f2:=@loadF_at none b2 0 _ _ k2;refine Rs (A3 @t0 @s2 @f2) ?_;rw[set_it q2]at eK;exact⟨eK,by rw[hc,hany];rfl⟩
  ·rw[if_neg hen]at hI;obtain⟨rfl,hany,rfl⟩:=hI;have k2:(W.set b2 (.cells [.int .i64 2] true false)++[ABlk.dead]++g)[b2]? =some (.cells [.int .i64 2] true false):=get_it (set_eq' mW2);have eK:Ext h (W.set b2 (.cells [.int .i64 2] true false)++[ABlk.dead]++g):=(ext_setG eW n2).trans Xx;have f2:=@loadF_at none b2 0 _ _ k2;refine Rs (A2 @t0 @f2) ?_;exact⟨eK,by rw[hc,hany];rfl⟩
end
end Go.Abs
namespace Go.Abs
set_option maxRecDepth 10000
attribute [local irreducible] WP WC WE WB WR WF WL WG WRg WQ
section
variable {P:Program}(T:Tbl P) {h:AHeap}
include T
end
end Go.Abs
namespace Go.Abs
end Go.Abs
namespace Go.Abs
end Go.Abs
namespace Go.Abs
end Go.Abs
namespace Go.Abs
set_option maxRecDepth 10000
attribute [local irreducible] WP WC WE WB WR WF WL WG WRg WQ
section
variable {P:Program}(T:Tbl P) {h:AHeap}
include T
end
end Go.Abs
namespace Go.Abs
set_option maxRecDepth 10000
attribute [local irreducible] WP WC WE WB WR WF WL WG WRg WQ
section
variable {P:Program}(T:Tbl P) {h:AHeap}
include T
end
end Go.Abs
namespace Go.Abs
def setL_0{c L:List AV}(h:c.length=L.length):setL c 0 L=L:=by
 have:=setL_all L c [] h
 simpa using this
def stN{K:AHeap}{b n:Nat}{c L:List AV}(m:K[b]? =some (.cells c true false))(hc:c.length=n)(hl:L.length=n)(ho:L.all AV.one=true):storeF n (.ptr b 0) (.agg L) (λz=>K[z]?)=some (undefA,.set b (.cells L true false)):=by
 rw[storeF_at m,stB_agg hl ho (by omega),setL_0 (by omega)]
set_option maxRecDepth 10000
attribute [local irreducible] WP WC WE WB WR WF WL WG WRg WQ
section
variable {P:Program}(T:Tbl P) {h:AHeap}
include T
end
end Go.Abs
namespace Go.Abs
set_option maxRecDepth 10000
attribute [local irreducible] WP WC WE WB WR WF WL WG WRg WQ
section
variable {P:Program}(T:Tbl P) {h:AHeap}
include T
end
end Go.Abs
namespace Go.Abs
set_option maxRecDepth 10000
attribute [local irreducible] WP WC WE WB WR WF WL WG WRg WQ
section
variable {P:Program}(T:Tbl P) {h:AHeap}
include T
end
end Go.Abs
namespace Go.Abs
set_option maxRecDepth 10000
attribute [local irreducible] WP WC WE WB WR WF WL WG WRg WQ
section
variable {P:Program}(T:Tbl P) {h:AHeap}
include T
end
end Go.Abs
namespace Go.Abs
end Go.Abs
namespace Go.Abs
theorem firstS_nil0:∀{l:List Int},(∀x∈l,x=0)->firstS l=0
 |[],_=>rfl
 |a::l,h=>by
  rw[firstS,if_pos (h a (List.mem_cons_self ..))];exact firstS_nil0 λx hx=>h x (List.mem_cons_of_mem _ hx)
def chkL_ok{l:List Nat}(h1:l.length<=1024)(h2:∀b∈l,gridE b=0):chkL l=0:=by
 unfold chkL;have e:firstS (l.map gridE)=0:=firstS_nil0 λx hx=>by
  obtain⟨b,hb,rfl⟩:=List.mem_map.1 hx;exact h2 b hb
 first
  |rw[if_neg (by omega)];exact e
  |(split<;>first|exact e|omega)
set_option maxRecDepth 10000
attribute [local irreducible] WP WC WE WB WR WF WL WG WRg WQ
section
variable {P:Program}(T:Tbl P) {h:AHeap}
include T
end
end Go.Abs
namespace Go.Abs
open Ieee
set_option maxRecDepth 10000
attribute [local irreducible] WP WC WE WB WR WF WL WG WRg WQ
section
variable {P:Program}(T:Tbl P) {h:AHeap}
include T
end
end Go.Abs
namespace Go.Abs
def Apart(s t:AV):Prop:=∀b o n e b' o' n' e',s=.slice b o n e->t=.slice b' o' n' e'->b≠b'
theorem Apart.symm{s t:AV}(a:Apart s t):Apart t s:=λ_ _ _ _ _ _ _ _ q1 q2 z=>a _ _ _ _ _ _ _ _ q2 q1 z.symm
def IsSl.apart_new{K:AHeap}{s:AV}{es:Nat}{cs:List (List AV)}(o:IsSl K s es cs){b o' n e:Nat}(hb:K.length<=b):Apart s (.slice b o' n e):=λ_ _ _ _ _ _ _ _ q1 q2=>by
 cases q2;have:=o.lt q1;omega
def IsSl.apart_fr{h K:AHeap}{s t:AV}{es es':Nat}{cs cs':List (List AV)}{M:Nat}(o:IsSl h s es cs)(f:Fr M K t es' cs')(hM:h.length<=M):Apart s t:=λ_ _ _ _ _ _ _ _ q1 q2 z=>by
 have h1:=o.lt q1;have h2:=(f.lt q2).1;omega
def Fr.apart_fr{K K2:AHeap}{s t:AV}{es es':Nat}{cs cs':List (List AV)}{M M2:Nat}(o:Fr M K s es cs)(f:Fr M2 K2 t es' cs')(hM:K.length<=M2):Apart s t:=λ_ _ _ _ _ _ _ _ q1 q2 z=>by
 have h1:=(o.lt q1).2;have h2:=(f.lt q2).1;omega
def NotB(b:Nat)(s:AV):Prop:=∀b0 o n e,s=.slice b0 o n e->b0≠b
def IsSl.notB{h:AHeap}{s:AV}{es:Nat}{cs:List (List AV)}(o:IsSl h s es cs){b:Nat}(hb:h.length<=b):NotB b s:=λ_ _ _ _ q z=>by
 have:=o.lt q;omega
def Fr.notB{M:Nat}{h:AHeap}{s:AV}{es:Nat}{cs:List (List AV)}(o:Fr M h s es cs){b:Nat}(hb:b<M):NotB b s:=λ_ _ _ _ q z=>by
 have:=(o.lt q).1;omega
def Fr.up{N M:Nat}{h:AHeap}{b n es:Nat}{cs:List (List AV)}(o:Fr N h (.slice b 0 n es) es cs)(hM:M<=b):Fr M h (.slice b 0 n es) es cs:=by
 cases o with
 |mk hN hb he=>exact .mk hM hb he
def Fr.setn{N:Nat}{h:AHeap}{s:AV}{es:Nat}{cs:List (List AV)}(o:Fr N h s es cs){b:Nat}{X:ABlk}(hb:NotB b s):Fr N (h.set b X) s es cs:=by
 cases o with
 |nil=>exact .nil
 |mk hN h1 he=>exact .mk hN (set_ne' (λz=>hb _ _ _ _ rfl z.symm) h1) he
def IsSl.setb{h:AHeap}{s:AV}{es:Nat}{cs:List (List AV)}(o:IsSl h s es cs){b:Nat}{X:ABlk}(hb:NotB b s):IsSl (h.set b X) s es cs:=by
 cases o with
 |nil=>exact .nil
 |mk h1 hf ho he=>exact .mk (set_ne' (λz=>hb _ _ _ _ rfl z.symm) h1) hf ho he
structure ShGr(N M:Nat)(K:AHeap)(b:Nat)(nm:List UInt8)(L:List (Trc×AV))(out:AV):Prop where
 m:K[b]? =some (.cells (shC nm out) true false)
 fr:Fr M K out 10 (L.map trRow)
 all:∀x∈L,IsSl K x.2 1 (x.1.sm.map fltR)
 ns:∀x∈L,Apart x.2 out
 nx:∀x∈L,∀c,N<=c->c<M->NotB c x.2
theorem ShGr.ext{N M:Nat}{K k:AHeap}{b:Nat}{nm:List UInt8}{L:List (Trc×AV)}{out:AV}(o:ShGr N M K b nm L out)(e:Ext K k):ShGr N M k b nm L out:=⟨e.some o.m,o.fr.ext e,λx hx=>(o.all x hx).ext e,o.ns,o.nx⟩
theorem ShGr.nil{N M:Nat}{K:AHeap}{b:Nat}{nm:List UInt8}(m:K[b]? =some (.cells (shC nm .nilSlice) true false)):ShGr N M K b nm [] .nilSlice:=⟨m,.nil,λx hx=>by simp at hx,λx hx=>by simp at hx,λx hx=>by simp at hx⟩
def sh_st1{K:AHeap}{b:Nat}{nm:List UInt8}{s s':AV}(m:K[b]? =some (.cells (shC nm s) true false))(os:s'.one=true):storeF 1 (.ptr b 1) s' (λz=>K[z]?)=some (undefA,.set b (.cells (shC nm s') true false)):=by
 rw[storeF_at m,stB_one os (by show 1+1<=2;omega)];rfl
def ShGr.grow{P:Program}{ro:Option Nat->Prop}{ks:List Kt}{ts:TS}{Q:Ex->TS->AHeap->Prop}{d:Option Nat}{l:List IOp}{h Y:AHeap}{M b:Nat}{nm:List UInt8}{L:List (Trc×AV)}{out:AV}(o:ShGr h.length M Y b nm L out)(eY:Ext h Y)(h1:h.length<=M)(h2:M<=Y.length)(hb:h.length<=b)(hbM:b<M){x:Trc×AV}(hx:IsSl Y x.2 1 (x.1.sm.map fltR))(hap:Apart x.2 out)(hxb:∀c,h.length<=c->c<M->NotB c x.2)(hl:L.length<2^38)
  (C:∀(W:AHeap) (out':AV),Ext h W->M<=W.length->out'.one=true->W[b]? =some (.cells (shC nm out) true false)->ShGr h.length M (W.set b (.cells (shC nm out') true false)) b nm (L++[x]) out'->Ext h (W.set b (.cells (shC nm out') true false))->(∀c k,c<M->c≠b->Y[c]? =some k->(W.set b (.cells (shC nm out') true false))[c]? =some k)->(∀c,c<Y.length->c≠b->(∀b0 o n e,out=.slice b0 o n e->c≠b0)->(W.set b (.cells (shC nm out') true false))[c]? =Y[c]?)->(∀es (s:AV) (cs:List (List AV)),IsSl Y s es cs->Apart s out')->WP P ro l ks (put ts d out') W Q):
  WR P ro (appT 10 96 out (.slice Y.length 0 1 10) (λz=>(Y++[ABlk.cells (trRow x) true true])[z]?) (Y++[ABlk.cells (trRow x) true true]).length) false d l ks ts (Y++[ABlk.cells (trRow x) true true]) Q:=by
 have hyz:IsSl (Y++[ABlk.cells (trRow x) true true]) (AV.slice Y.length 0 1 10) 10 [trRow x]:=by
  have:=(Fr.push (N:=0) (es:=10) (h:=Y) (Nat.zero_le _) [trRow x] (λy hy=>by rw[List.mem_singleton]at hy;rw[hy];rfl)).isSl
  simpa using this
 refine WR.app1 (h0:=h) (cs:=L.map trRow) (ys:=[trRow x]) ((o.fr.low h1).app _) hyz (by decide) (by simp) (by rw[List.length_map,List.length_singleton];omega) (eY.trans (Ext.app _ (Ext.refl _))) ?_;intro g' hl' hff hkp;have hWl:(h++g').length=Y.length+2:=by rw[hl',List.length_append,List.length_singleton]
 have keep:∀c,c<Y.length->(∀b0 o n e,out=.slice b0 o n e->c≠b0)->(h++g')[c]? =Y[c]? :=λc hc hn=>by
  rw[hkp c (by rw[List.length_append];omega) hn,List.getElem?_append_left hc]
 have lowb:∀c,c<M->∀b0 o' n e,out=.slice b0 o' n e->c≠b0:=λc hc b0 o' n e q z=>by
  have:=(o.fr.lt q).1;omega
 have hbY:b<Y.length:=by omega
 have mb:(h++g')[b]? =some (.cells (shC nm out) true false):=by rw[keep b hbY (lowb b hbM)];exact o.m
 have hrow:L.map trRow++[trRow x]=(L++[x]).map trRow:=by rw[List.map_append];rfl
 rw[hrow]at hff ⊢;have hff:=hff.up (M:=M) (by rw[List.length_append];omega);obtain⟨out',ho⟩:∃s,s=AV.slice (Y++[ABlk.cells (trRow x) true true]).length 0 ((L++[x]).map trRow).length 10:=⟨_,rfl⟩;have one':out'.one=true:=by rw[ho];rfl
 have apn:∀{es:Nat}{s:AV}{cs:List (List AV)},IsSl Y s es cs->Apart s out':=λ{es s cs} q=>by
  rw[ho];exact q.apart_new (by rw[List.length_append];omega)
 rw[<-ho]at hff ⊢;obtain⟨W,hW⟩:∃W,W=h++g':=⟨_,rfl⟩;rw[<-hW]at hff hWl keep mb ⊢;have eW:Ext h W:=⟨g',hW⟩;have nb:NotB b out':=hff.notB hbM;have keepc:∀c,c<Y.length->c≠b->(∀b0 o n e,out=.slice b0 o n e->c≠b0)->(W.set b (.cells (shC nm out') true false))[c]? =Y[c]? :=λc hc hne hn=>by
  rw[List.getElem?_set_ne hne.symm,keep c hc hn]
 have hset:∀es (s:AV) (cs:List (List AV)),IsSl Y s es cs->Apart s out->NotB b s->IsSl (W.set b (.cells (shC nm out') true false)) s es cs:=λes s cs hs ha hsb=>by
  cases hs with
  |nil=>exact .nil
  |mk hb' hf ho' he=>
   have hlt:=(List.getElem?_eq_some_iff.1 hb').1;exact .mk ((keepc _ hlt (hsb _ _ _ _ rfl) λb0 o2 n2 e2 q2=>ha _ _ _ _ _ _ _ _ rfl q2).trans hb') hf ho' he
 refine C W out' eW (by omega) one' mb ⟨set_eq' mb,hff.setn nb,λy hy=>?_,λy hy=>?_,λy hy=>?_⟩ (ext_setG eW hb) (λc k hc hne hk=>(keepc c (by omega) hne (lowb c hc)).trans hk) keepc (λes s cs q=>apn q)
 ·rcases List.mem_append.1 hy with hy|hy
  ·exact hset _ _ _ (o.all y hy) (o.ns y hy) (o.nx y hy b hb hbM)
  ·rw[List.mem_singleton.1 hy];exact hset _ _ _ hx hap (hxb b hb hbM)
 ·rcases List.mem_append.1 hy with hy|hy
  ·exact apn (o.all y hy)
  ·rw[List.mem_singleton.1 hy];exact apn hx
 ·rcases List.mem_append.1 hy with hy|hy
  ·exact o.nx y hy
  ·rw[List.mem_singleton.1 hy];exact hxb
def bsl_tr{x:Trc×AV}(ox:x.2.one=true){N:Nat}:bslF 10 1 (fillA [.int .i64 0,.int .i64 0,.int .i64 0,.int .i64 0,.int .i64 0,.int .i64 0,.int .i64 0,.int .i64 0,.bool false,.nilSlice] [(0,10,.agg (trRow x))]) N=some (.slice N 0 1 10,.push (.cells (trRow x) true true)):=by
 have e:fillA [.int .i64 0,.int .i64 0,.int .i64 0,.int .i64 0,.int .i64 0,.int .i64 0,.int .i64 0,.int .i64 0,.bool false,.nilSlice] [(0,10,.agg (trRow x))]=some (trRow x):=rfl;rw[e];show(if(trRow x).all AV.one=true/\(trRow x).length=1*10 then _ else _)=_;rw[if_pos ⟨tr_one ox,rfl⟩];rfl
def st9{K:AHeap}{b:Nat}{x:Trc×AV}{v:AV}{t:Trc}(m:K[b]? =some (.cells (trRow x) true false))(ov:v.one=true)(hh:t.hd=x.1.hd)(ho:t.hole=x.1.hole):storeF 1 (.ptr b 9) v (λz=>K[z]?)=some (undefA,.set b (.cells (trRow (t,v)) true false)):=by
 rw[storeF_at m,stB_one ov (by show 9+1<=10;omega)];obtain⟨hd,hole,sm⟩:=t;simp only at hh ho;subst hh ho;rfl
set_option maxRecDepth 10000
attribute [local irreducible] WP WC WE WB WR WF WL WG WRg WQ
section
variable {P:Program}(T:Tbl P) {h:AHeap}
include T
end
end Go.Abs
namespace Go.Abs
set_option maxRecDepth 10000
attribute [local irreducible] WP WC WE WB WR WF WL WG WRg WQ
section
variable {P:Program}(T:Tbl P) {h:AHeap}
include T
end
end Go.Abs
namespace Go.Abs
set_option maxRecDepth 10000
attribute [local irreducible] WP WC WE WB WR WF WL WG WRg WQ
section
variable {P:Program}(T:Tbl P) {h:AHeap}
include T
end
end Go.Abs
namespace Go.Abs
set_option maxRecDepth 10000
attribute [local irreducible] WP WC WE WB WR WF WL WG WRg WQ
section
variable {P:Program}(T:Tbl P) {h:AHeap}
include T
def q61{s:AV}{l:List Int}(hs:IsSl h s 1 (l.map intRow))(hl:l.length<2^40):RCall P 61 [s] h (λv h'=>∃(t:AV) (e:Int),v=.tup [t,.int .i64 e]/\if fitsB l=true then Fr h.length h' t 1 ((l.map smpl).map fltR)/\e=0 else t=.nilSlice/\e=4):=by
 refine .st1 8 T.mix T.c61 ?_;intro ts hlen t0;unfold fn61;refine Rs @t0 ?_;refine WF.ce T.c110 (r110 T hs hl) λg1=>?_
 cases hf:fitsB l with
 |false=>
  refine Rs (A2 @t0 @Bool.not_false) ?_;exact⟨.nilSlice,4,rfl,rfl,rfl⟩
 |true=>
  refine Rs (A2 @t0 @Bool.not_true) ?_;refine WF.res T.c113 (q113 T (hs.ext Xx) hl T.c114 (g:=smpl) (λx hx k=>r114 T (fits_all hf x hx).1 (fits_all hf x hx).2)) ?_;intro s2 g2 is2;refine Rs @t0 ?_;exact⟨s2,0,rfl,is2.low (by simp),rfl⟩
end
end Go.Abs
namespace Go.Abs
def chgT(G:Trc×AV->List Nat)(x:Trc×AV):Trc:=if x.1.hole=true then x.1 else⟨x.1.hd,x.1.hole,G x⟩
def errL(E:Trc×AV->Int)(L:List (Trc×AV)):Int:=firstS (L.map λx=>if x.1.hole=true then 0 else E x)
def errL_cons(E:Trc×AV->Int)(x:Trc×AV)(r:List (Trc×AV)):errL E (x::r)=if(if x.1.hole=true then 0 else E x)=0 then errL E r else if x.1.hole=true then 0 else E x:=by
 unfold errL;rw[List.map_cons,firstS]
set_option maxRecDepth 10000
attribute [local irreducible] WP WC WE WB WR WF WL WG WRg WQ
section
variable {P:Program}(T:Tbl P) {h:AHeap}
include T
def r60{b:Nat}{s0:AV}{t:List Int}(mb:h[b]? =some (.cells [s0] true false))(h0:IsSl h s0 1 (t.map intRow))(ht:TpOk t){x:Trc×AV}(hx:IsSl h x.2 1 (x.1.sm.map fltR))(hc:chkL x.1.sm=0):RCall P 60 [.agg (trRow x),.ptr b 0] h (λv h'=>∃(s:AV) (e:Int),v=.tup [s,.int .i64 e]/\if fitsB (apL t (x.1.sm.map gridN) (-1))=true then Fr h.length h' s 1 (((apL t (x.1.sm.map gridN) (-1)).map smpl).map fltR)/\e=0 else s=.nilSlice/\e=4):=by
 refine .st2 13 T.mix T.c60 ?_;intro ts hlen t0 t1;unfold fn60;have ox:=hx.one;have bx:∀{N:Nat},boxF (.agg (trRow x)) N=some (.ptr N 0,.push (.cells (trRow x) true false)):=λ{N}=>tr_box ox
 have lb:loadF none (.ptr b 0) (λz=>h[z]?)=some (s0,.keep):=by rw[loadF_at mb];rfl
 have lbk:∀{k:AHeap},Ext h k->loadF none (.ptr b 0) (λz=>k[z]?)=some (s0,.keep):=λ{k} e=>by rw[loadF_at (e.some mb)];rfl
 have l9v:ldV (trRow x)[9]? =some (x.2,.keep):=rfl;obtain⟨hl,hg⟩:=chkL_z hc;have o0:=h0.one;refine Rs (A7 @t0 @t1 @bx @lbk @l9v @o0 @ox) ?_;refine WF.res T.c63 (r63 T (hx.ext Xx) (by omega) T.c64 (g:=gridN) (λy hy k=>r64 T (hg y hy))) ?_;intro s2 g1 is1;refine Rs (A3 @t0 @t1 @o0) ?_;refine WF.res T.c62 (r62 T (h0.ext Xx) is1 ht (by rw[List.length_map];exact hl) (grid_all hg) ⟨by omega,by omega⟩) ?_;intro s3 g2 is2;refine Rs (A2 @t0 @t1) ?_;refine WF.res T.c61 (q61 T is2 (by rw[apL_len,List.length_map];omega)) ?_;rintro _ g3 ⟨s,e,rfl,hh⟩;refine Rs (A2 @t0 @t1) ?_;refine⟨s,e,rfl,?_⟩;by_cases hf:fitsB (apL t (x.1.sm.map gridN) (-1))=true
 ·rw[if_pos hf]at hh ⊢;exact⟨hh.1.low (by simp only[List.length_append];omega),hh.2⟩
 ·rw[if_neg hf]at hh ⊢;exact hh
def r59{nm:List UInt8}{s:AV}{L:List (Trc×AV)}(o:ShOk h L s)(zl:L.length<2^38){f:FuncId}{AF:AFunc}(hA:compileFn P f=some AF){c:Nat}{E:Trc×AV->Int}{G:Trc×AV->List Nat}(hf:∀x∈L,x.1.hole=false->∀k,Ext h k->RCall P f [.agg (trRow x),.ptr c 0] k (λv k'=>∃t:AV,v=.tup [t,.int .i64 (E x)]/\(E x=0->Fr k.length k' t 1 ((G x).map fltR)))):RCall P 59 [.agg [.str nm,s],.func (.func f) [] [.ptr c 0]] h (λv h'=>∃(r:AV),v=.tup [r,.int .i64 (errL E L)]/\if errL E L=0 then ∃(s':AV) (L':List (Trc×AV)),r=.agg [.str nm,s']/\ShOk h' L' s'/\L'.map Prod.fst=L.map (chgT G)/\(∀c,c<h.length->NotB c s')/\∀y∈L',(∃x∈L,y.2=x.2)\/∀c,c<h.length->NotB c y.2 else r=.agg [.str [],.nilSlice]):=by
 refine .st2 44 T.mix T.c59 ?_;intro ts hlen t0 t1;unfold fn59;have bx:=@sh_box nm s o.sl.one;have bz:∀{N:Nat},boxF (.agg [.str [],.nilSlice]) N=some (.ptr N 0,.push (.cells (shC [] .nilSlice) true false)):=λ{N}=>rfl
 have ln:ldV (shC nm s)[0]? =some (.str nm,.keep):=rfl;have ls:ldV (shC nm s)[1]? =some (s,.keep):=rfl;have hlm:=λG=>o.sl.lenm G
 have bd:fillA [.str [],.nilSlice] [(0,1,.str nm)]=some [.str nm,.nilSlice]:=rfl;have bd0:fillA [.str [],.nilSlice] []=some [.str [],.nilSlice]:=rfl;have st3:∀{n:Nat},stB 2 0 (.agg [.str nm,.nilSlice]) n (.cells (shC [] .nilSlice) true false)=some (undefA,.set n (.cells (shC nm .nilSlice) true false)):=λ{n}=>sh_st rfl
 repeat (first|simp (config:={maxSteps:=1000000}) only[wset,hset,dset,bset,Nat.reduceAdd,Nat.reduceMul,Nat.reduceLeDiff,Nat.reduceEqDiff,pset,hlen,if_false,if_true,t0,t1,bx,bz,ln,bd,st3,ls,hlm]|simp (config:={maxSteps:=1000000}) (disch:=first|(simp only[List.length_append,List.length_cons,List.length_nil]<;>omega)|rfl|omega|fail) only[kset,wset,hset,dset,bset,Nat.reduceAdd,Nat.reduceMul,Nat.reduceLeDiff,Nat.reduceEqDiff,pset,hlen,if_false,if_true,t0,t1,bx,bz,ln,bd,st3,ls,hlm])
 obtain⟨Y,hY⟩:∃Y,Y=h++[ABlk.cells (shC nm s) true false]++[ABlk.cells (shC [] .nilSlice) true false]++[ABlk.cells (shC nm .nilSlice) true false]:=⟨_,rfl⟩;have eY:Ext h Y:=by rw[hY];exact Xx
 have m4:Y[(h++[ABlk.cells (shC nm s) true false]).length]? =some (.cells (shC [] .nilSlice) true false):=by rw[hY];exact at_1
 have m6:Y[(h++[ABlk.cells (shC nm s) true false]++[ABlk.cells (shC [] .nilSlice) true false]).length]? =some (.cells (shC nm .nilSlice) true false):=by rw[hY];exact at_new
 obtain⟨b4,hb4⟩:∃b,b=(h++[ABlk.cells (shC nm s) true false]).length:=⟨_,rfl⟩;obtain⟨b6,hb6⟩:∃b,b=(h++[ABlk.cells (shC nm s) true false]++[ABlk.cells (shC [] .nilSlice) true false]).length:=⟨_,rfl⟩;have n4:h.length<=b4:=by rw[hb4];simp only[List.length_append];omega
 have n6:h.length<=b6:=by rw[hb6];simp only[List.length_append];omega
 have n46:b4≠b6:=by rw[hb4,hb6];simp only[List.length_append,List.length_cons,List.length_nil];omega
 rw[<-hb4]at m4;rw[<-hb6]at m6;rw[<-hY,<-hb4,<-hb6];clear hY hb4 hb6;have q4:=(List.getElem?_eq_some_iff.1 m4).1;have q6:=(List.getElem?_eq_some_iff.1 m6).1;obtain⟨M,hM⟩:∃M,M=Y.length:=⟨_,rfl⟩;rw[<-hM]at q4 q6;have hm:=eY.len;rw[<-hM]at hm;refine WL.inv T.mix (λn ts K=>∃(k:Nat) (out:AV) (L':List (Trc×AV)),k<=L.length/\n=L.length-k/\Ext h K/\M<=K.length/\K[b4]? =some (.cells (shC [] .nilSlice) true false)/\ShGr h.length M K b6 nm L' out/\(∀y∈L',(∃x∈L,y.2=x.2)\/∀c,c<h.length->NotB c y.2)/\L'.map Prod.fst=(L.take k).map (chgT G)/\errL E L=errL E (L.drop k)/\ts.length=44/\slot ts 1=.func (.func f) [] [.ptr c 0]/\slot ts 4=.ptr b4 0/\slot ts 6=.ptr b6 0/\slot ts 15=s/\slot ts 16=.int .i64 L.length/\slot ts 17=.int .i64 k) L.length
  ⟨0,.nilSlice,[],by omega,rfl,eY,by omega,m4,.nil m6,λy hy=>by simp at hy,rfl,rfl,Sn,(Sq @t1),Sw,Sw,Sw,Sw,Swr⟩ ?_
 clear hlen t0 t1 eY m4 m6 hM;rintro _ ts K ⟨k,out,L',hk,rfl,eK,hMK,m4,gr,hN,hL',herr,hlen,t1,t4,t6,t15,t16,t17⟩;have oK:=o.ext eK;by_cases hlt:k<L.length
 case neg=>
  have e3:=dltF hlt;have e4:k=L.length:=by omega
  rw[e4,List.take_length]at hL';rw[e4,List.drop_length]at herr;have herr:errL E L=0:=herr;have l3:=@ldx _ _ _ gr.m;have l2:ldB (some 2) 0 (.cells (shC nm out) true false)=some (.agg [.str nm,out],.keep):=rfl;have s2:storeF 2 (.ptr b4 0) (.agg [.str nm,out]) (λz=>K[z]?)=some (undefA,.set b4 (.cells (shC nm out) true false)):=by
   rw[storeF_at m4];exact sh_st gr.fr.isSl.one
  have k2:(K.set b4 (.cells (shC nm out) true false))[b4]? =some (.cells (shC nm out) true false):=set_eq' m4;have f2:=@loadF_at (some 2) b4 0 _ _ k2;refine Rs (A11 @t1 @t4 @t6 @t15 @t16 @t17 @e3 @l3 @l2 @s2 @f2) ?_;refine⟨ext_setG eK n4,_,by rw[herr],?_⟩;rw[if_pos herr];exact⟨out,L',rfl,⟨(gr.fr.setn (gr.fr.notB q4)).isSl,λx hx=>(gr.all x hx).setb (gr.nx x hx b4 n4 q4)⟩,hL',λc hc=>gr.fr.notB (by omega),hN⟩
 have e3:=dltT hlt;have e5:=wrapN (n:=k) (by omega);have ix:=oK.sl.ixm (kk:=.i64) hlt;obtain⟨x,hx⟩:∃x,x=L[k]:=⟨_,rfl⟩;have ld:∀{kk:AHeap},Ext K kk->loadF (some 10) (elp s 10 k) (λb=>kk[b]?)=some (.agg (trRow x),.keep):=λ{kk} e=>by rw[hx];exact oK.sl.ldm hlt e
 have hmem:x∈L:=by rw[hx];exact List.getElem_mem _
 have hsx:=oK.all x hmem;have ox:=hsx.one;have htk:L.take (k+1)=L.take k++[x]:=by rw[hx];exact List.take_succ_eq_append_getElem hlt
 have hdk:L.drop k=x::L.drop (k+1):=by rw[hx];exact List.drop_eq_getElem_cons hlt
 rw[hdk,errL_cons]at herr;have hLk:L'.length=k:=by
  have:=congrArg List.length hL';rw[List.length_map,List.length_map,List.length_take]at this;omega
 have b10:=@z10_box;have st:=@st_tr x ox;have gr0:=gr;have l8v:ldV (trRow x)[8]? =some (.bool x.1.hole,.keep):=rfl;have l10:=@tr_l10 x;have oo:=gr.fr.isSl.one;have l3:=@ldx _ _ _ gr.m;have l3v:ldV (shC nm out)[1]? =some (out,.keep):=rfl;cases hb:x.1.hole with
 |true=>
  rw[hb,if_pos rfl,if_pos rfl]at herr;have herr2:=herr;have bs:=@bsl_tr x ox;have hch:chgT G x=x.1:=by unfold chgT;rw[if_pos hb]
  refine Rs (A20 @t1 @t4 @t6 @t15 @t16 @t17 @e3 @ix @ld @b10 @st @l8v @hb @Bool.not_true @l3 @l3v @l10 @oo @ox @bs) ?_;obtain⟨K1,hK1⟩:∃K1,K1=K++[ABlk.cells (trRow x) true false]:=⟨_,rfl⟩;have eK1:Ext K K1:=by rw[hK1];exact Xx
  have hK1l:K1.length=K.length+1:=by rw[hK1,List.length_append,List.length_singleton]
  rw[<-hK1];clear hK1;have gr:=gr.ext eK1;refine ShGr.grow (x:=x) gr (eK.trans eK1) hm (by omega) n6 q6 (hsx.ext eK1) ((o.all x hmem).apart_fr gr.fr hm) (λc h1 h2=>(o.all x hmem).notB h1) (by omega) ?_;intro W out' eW hMW one' mW grW eS keepM keepc apn;have s3:=sh_st1 mW one';have hlist:(L'++[x]).map Prod.fst=(L.take (k+1)).map (chgT G):=by rw[htk,List.map_append,List.map_append,hL'];rw[show([x] :List (Trc×AV)).map (chgT G)=[x.1] by rw[List.map_singleton,hch]];rfl
  refine Rs (A9 @t1 @t4 @t6 @t15 @t16 @t17 @one' @s3 @e5) ?_;exact⟨L.length-(k+1),by omega,k+1,out',L'++[x],by omega,rfl,eS,by rw[List.length_set];exact hMW,keepM b4 _ q4 n46 (eK1.some m4),grW,λy' hy'=>(List.mem_append.1 hy').elim (hN y') (λq=>by rw[List.mem_singleton.1 q];exact .inl ⟨x,hmem,rfl⟩),hlist,herr2,rfl⟩
 |false=>
  have hn:¬x.1.hole=true:=by rw[hb];decide
  simp only[if_neg hn]at herr;refine Rs (A15 @t1 @t4 @t6 @t15 @t16 @t17 @e3 @ix @ld @b10 @st @l8v @hb @Bool.not_false @l10) ?_;obtain⟨K1,hK1⟩:∃K1,K1=K++[ABlk.cells (trRow x) true false]:=⟨_,rfl⟩;have eK1:Ext K K1:=by rw[hK1];exact Xx
  have m8:K1[K.length]? =some (.cells (trRow x) true false):=by rw[hK1];exact at_new
  have hK1l:K1.length=K.length+1:=by rw[hK1,List.length_append,List.length_singleton]
  rw[<-hK1];clear hK1;refine WF.res (a:=[]) (c:=[.ptr c 0]) hA (hf x hmem hb K1 (eK.trans eK1)) ?_;rintro _ g1 ⟨t,rfl,hfr⟩;have eG:Ext K1 (K1++g1):=Xx;by_cases hz:E x=0
  case neg=>
   have d1:decide (E x≠0)=true:=decide_eq_true hz;rw[if_neg hz]at herr;have s4:storeF 2 (.ptr b4 0) (.agg [.str [],.nilSlice]) (λz=>(K1++g1)[z]?)=some (undefA,.set b4 (.cells (shC [] .nilSlice) true false)):=by
    rw[storeF_at ((eK1.trans eG).some m4)];exact sh_st rfl
   have k4:((K1++g1).set b4 (.cells (shC [] .nilSlice) true false))[b4]? =some (.cells (shC [] .nilSlice) true false):=set_eq' ((eK1.trans eG).some m4);have f4:=@loadF_at (some 2) b4 0 _ _ k4;have l2:ldB (some 2) 0 (.cells (shC [] .nilSlice) true false)=some (.agg [.str [],.nilSlice],.keep):=rfl;refine Rs (A11 @t1 @t4 @t6 @t15 @t16 @t17 @d1 @bd0 @s4 @f4 @l2) ?_;refine⟨?_,_,by rw[herr],?_⟩
   ·have:=ext_setG (X:=.cells (shC [] .nilSlice) true false) (eK.trans (eK1.trans eG)) n4
    first|exact this|(rw[List.set_append_left _ _ (List.getElem?_eq_some_iff.1 (eK1.some m4)).1]at this;exact this)
   ·rw[herr,if_neg hz]
  have d1:decide (E x≠0)=false:=decide_eq_false λz=>z hz
  rw[if_pos hz]at herr;have herr2:=herr;have hfr:=hfr hz;have ot:=hfr.isSl.one;obtain⟨y,hy⟩:∃y:Trc,y=chgT G x:=⟨_,rfl⟩;have hy1:y=⟨x.1.hd,x.1.hole,G x⟩:=by rw[hy];unfold chgT;rw[if_neg hn]
  have s9:=st9 (v:=t) (t:=y) (eG.some m8) ot (by rw[hy1]) (by rw[hy1]);have hfr:Fr K1.length (K1++g1) t 1 (y.sm.map fltR):=by rw[hy1];exact hfr
  obtain⟨K2,hK2⟩:∃K2,K2=(K1++g1).set K.length (.cells (trRow (y,t)) true false):=⟨_,rfl⟩;have hK2':(K1.set K.length (.cells (trRow (y,t)) true false))++g1=K2:=by rw[hK2,List.set_append_left _ _ (by omega)]
  refine Rs (A9 @t1 @t4 @t6 @t15 @t16 @t17 @d1 @s9 @ot) ?_;have eK2:Ext K K2:=by rw[hK2];exact ext_setG (eK1.trans eG) (Nat.le_refl _)
  have m8:K2[K.length]? =some (.cells (trRow (y,t)) true false):=by rw[hK2];exact set_eq' (eG.some m8)
  have f2:Fr K1.length K2 t 1 (y.sm.map fltR):=by rw[hK2];exact hfr.setn (hfr.notB (by omega))
  first|rw[hK2']|rw[<-hK2]
  clear hK2 hK2';have hK2l:=eK2.len;have gr:=gr.ext eK2;have l3:=@ldx _ _ _ gr.m;have l8:=@ldx _ _ _ m8;have l10:=@tr_l10 (y,t);have bs:=@bsl_tr (y,t) ot;refine Rs (A13 @t1 @t4 @t6 @t15 @t16 @t17 @l3 @l3v @l8 @l10 @oo @ot @bs) ?_;refine ShGr.grow (x:=(y,t)) gr (eK.trans eK2) hm (by omega) n6 q6 f2.isSl (gr0.fr.apart_fr f2 (by omega)).symm (λc h1 h2=>f2.notB (by omega)) (by omega) ?_;intro W out' eW hMW one' mW grW eS keepM keepc apn;have s3:=sh_st1 mW one';have hlist:(L'++[(y,t)]).map Prod.fst=(L.take (k+1)).map (chgT G):=by rw[htk,List.map_append,List.map_append,hL'];rw[show([x] :List (Trc×AV)).map (chgT G)=[y] by rw[List.map_singleton,hy]];rfl
  refine Rs (A9 @t1 @t4 @t6 @t15 @t16 @t17 @one' @s3 @e5) ?_;exact⟨L.length-(k+1),by omega,k+1,out',L'++[(y,t)],by omega,rfl,eS,by rw[List.length_set];exact hMW,keepM b4 _ q4 n46 (eK2.some m4),grW,λy' hy'=>(List.mem_append.1 hy').elim (hN y') (λq=>by rw[List.mem_singleton.1 q];exact .inr λc hc=>f2.notB (by omega)),hlist,herr2,rfl⟩
end
end Go.Abs
namespace Go.Abs
def chkTr_z{t:Trc}(h:chkTr t=0):hdE t.hd=0/\(t.hole=true->t.sm=[])/\chkL t.sm=0:=by
 have q:=firstS_z h;refine⟨q _ (by simp),λhb=>?_,q _ (by simp)⟩;have:=q (whenS (t.hole&&decide (0<t.sm.length)) 24) (by simp);rw[hb,Bool.true_and]at this;by_cases hl:0<t.sm.length
 ·rw[decide_eq_true hl]at this;cases this
 ·exact List.eq_nil_of_length_eq_zero (by omega)
def chkSh_z{nm:List UInt8}{L:List Trc}(h:chkSh nm L=0):nameS nm=true/\0<L.length/\L.length<=64/\∀t∈L,chkTr t=0:=by
 have q:=firstS_z h;have q1:=q (whenS (!nameS nm) 8) (by simp);have q2:=q (whenS (decide (L.length=0)) 12) (by simp);have q3:=q (whenS (decide (64<L.length)) 5) (by simp);have q4:=q (firstS (L.map chkTr)) (by simp);refine⟨?_,?_,?_,λt ht=>firstS_z q4 _ (List.mem_map_of_mem ht)⟩
 ·cases hn:nameS nm with
  |true=>rfl
  |false=>rw[hn]at q1;cases q1
 ·refine Nat.pos_of_ne_zero λz=>?_
  rw[decide_eq_true z]at q2;cases q2
 ·refine Nat.not_lt.1 λz=>?_
  rw[decide_eq_true z]at q3;cases q3
noncomputable def eachE(t:List Int)(x:Trc×AV):Int:=if fitsB (apL t (x.1.sm.map gridN) (-1))=true then 0 else 4
noncomputable def eachG(t:List Int)(x:Trc×AV):List Nat:=(apL t (x.1.sm.map gridN) (-1)).map smpl
def ChgR(h:AHeap)(nm:List UInt8)(L:List (Trc×AV))(G:Trc×AV->List Nat)(bad:Int)(r:AV)(e:Int)(ex:Int):Prop:=e=firstS [bad,ex]/\if e=0 then ∃(s':AV) (L':List (Trc×AV)),r=.agg [.str nm,s']/\ShOk h L' s'/\L'.map Prod.fst=L.map (chgT G)else r=.agg [.str [],.nilSlice]
set_option maxRecDepth 10000
attribute [local irreducible] WP WC WE WB WR WF WL WG WRg WQ
section
variable {P:Program}(T:Tbl P) {h:AHeap}
include T
def r30(rg:Rng h){nm:List UInt8}{s s0:AV}{L:List (Trc×AV)}{t:List Int}(o:ShOk h L s)(z:ShSz L)(zl:L.length<2^38)(h0:IsSl h s0 1 (t.map intRow))(hl0:t.length<2^40):RCall P 30 [.agg [.str nm,s],s0] h (λv h'=>∃(r:AV) (e:Int),v=.tup [r,.int .i64 e]/\ChgR h' nm L (eachG t) (firstS [chkSh nm (L.map Prod.fst),chkTp t]) r e (errL (eachE t) L)):=by
 refine .st2 22 T.mix T.c30 ?_;intro ts hlen t0 t1;unfold fn30;have bx:=@sh_box nm s o.sl.one;have o0:=h0.one;have b0:∀{N:Nat},boxF s0 N=some (.ptr N 0,.push (.cells [s0] true false)):=λ{N}=>by
  unfold boxF;rw[h0.cells,if_pos (by simp only[List.all_cons,List.all_nil,o0];rfl)]
 have bz:∀{N:Nat},boxF (.agg [.str [],.nilSlice]) N=some (.ptr N 0,.push (.cells (shC [] .nilSlice) true false)):=λ{N}=>rfl
 have l2:=@sh_l2 nm s;have bd0:fillA [.str [],.nilSlice] []=some [.str [],.nilSlice]:=rfl;refine Rs (A5 @t0 @t1 @bx @b0 @bz) ?_;obtain⟨Y,hY⟩:∃Y,Y=h++[ABlk.cells (shC nm s) true false]++[ABlk.cells [s0] true false]++[ABlk.cells (shC [] .nilSlice) true false]:=⟨_,rfl⟩;have eY:Ext h Y:=by rw[hY];exact Xx
 have m2:Y[h.length]? =some (.cells (shC nm s) true false):=by rw[hY];exact at_2
 have m3:Y[(h++[ABlk.cells (shC nm s) true false]).length]? =some (.cells [s0] true false):=by rw[hY];exact at_1
 have m4:Y[(h++[ABlk.cells (shC nm s) true false]++[ABlk.cells [s0] true false]).length]? =some (.cells (shC [] .nilSlice) true false):=by rw[hY];exact at_new
 obtain⟨b2,hb2⟩:∃b,b=h.length:=⟨_,rfl⟩;obtain⟨b3,hb3⟩:∃b,b=(h++[ABlk.cells (shC nm s) true false]).length:=⟨_,rfl⟩;obtain⟨b4,hb4⟩:∃b,b=(h++[ABlk.cells (shC nm s) true false]++[ABlk.cells [s0] true false]).length:=⟨_,rfl⟩;have n4:h.length<=b4:=by rw[hb4];simp only[List.length_append];omega
 rw[<-hb2]at m2;rw[<-hb3]at m3;rw[<-hb4]at m4;rw[<-hY,<-hb2,<-hb3,<-hb4];clear hY hb2 hb3 hb4;have i2:=@ldx _ _ _ m2;have i3:∀{k:AHeap},Ext Y k->loadF none (.ptr b3 0) (λz=>k[z]?)=some (s0,.keep):=λ{k} e=>by rw[loadF_at (e.some m3)];rfl
 refine Rs (A4 @t0 @t1 @i2 @l2) ?_;refine WF.ce T.c57 (r57 T (rg.ext eY) (o.ext eY) z) λg1=>?_
 refine Rs (A4 @t0 @t1 @i3 @o0) ?_;refine WF.ce T.c58 (r58 T ((h0.ext eY).ext Xx) hl0) λg2=>?_
 refine Rs (A2 @t0 @t1) ?_;refine WF.ce T.c56 (r56 T (isSl_ints [_,_]) (by simp)) λg3=>?_
 obtain⟨bad,hbad⟩:∃bad,bad=firstS [chkSh nm (L.map Prod.fst),chkTp t]:=⟨_,rfl⟩;obtain⟨K1,hK1⟩:∃K,K=Y++g1++g2++[ABlk.cells [AV.int .i64 (chkSh nm (L.map Prod.fst)),AV.int .i64 (chkTp t)] true true]++g3:=⟨_,rfl⟩;have f1:Ext Y K1:=by rw[hK1];exact Xx
 rw[<-hbad,<-hK1];clear hK1;by_cases hz:bad=0
 case neg=>
  have d1:decide (bad≠0)=true:=decide_eq_true hz;have s4:storeF 2 (.ptr b4 0) (.agg [.str [],.nilSlice]) (λz=>K1[z]?)=some (undefA,.set b4 (.cells (shC [] .nilSlice) true false)):=by
   rw[storeF_at (f1.some m4)];exact sh_st rfl
  have k4:(K1.set b4 (.cells (shC [] .nilSlice) true false))[b4]? =some (.cells (shC [] .nilSlice) true false):=set_eq' (f1.some m4);have f4:=@loadF_at (some 2) b4 0 _ _ k4;have l4:ldB (some 2) 0 (.cells (shC [] .nilSlice) true false)=some (.agg [.str [],.nilSlice],.keep):=rfl;refine Rs (A7 @t0 @t1 @d1 @bd0 @s4 @f4 @l4) ?_;refine⟨ext_setG (eY.trans f1) n4,_,_,rfl,?_⟩;unfold ChgR;rw[firstS,if_neg hz,if_neg hz];exact⟨rfl,rfl⟩
 have d1:decide (bad≠0)=false:=decide_eq_false λz=>z hz
 obtain⟨c1,c2⟩:=first2 (hbad.symm.trans hz);obtain⟨_,_,_,hct⟩:=chkSh_z c1;have ht:=chkTp_z c2;have i2:=@ldx _ _ _ (f1.some m2);refine Rs (A5 @t0 @t1 @d1 @i2 @l2) ?_;refine WF.res T.c59 (r59 T (o.ext (eY.trans f1)) zl T.c60 (c:=b3) (E:=eachE t) (G:=eachG t) (λx hx hb k ek=>?_)) ?_
 ·have hcx:=chkTr_z (hct x.1 (List.mem_map_of_mem hx));have ekh:=eY.trans (f1.trans ek);refine(r60 T (b:=b3) (s0:=s0) (t:=t) ((f1.trans ek).some m3) (h0.ext ekh) ht ((o.all x hx).ext ekh) hcx.2.2).mono ?_;rintro _ _ ⟨w,e,rfl,hw⟩;by_cases hf:fitsB (apL t (x.1.sm.map gridN) (-1))=true
  ·rw[if_pos hf]at hw;obtain⟨hw,rfl⟩:=hw;have e0:eachE t x=0:=if_pos hf;exact⟨w,by rw[e0],λ_=>hw⟩
  ·rw[if_neg hf]at hw;obtain⟨rfl,rfl⟩:=hw;have e0:eachE t x=4:=if_neg hf;exact⟨.nilSlice,by rw[e0],λq=>by rw[e0]at q;cases q⟩
 rintro _ g4 ⟨r,rfl,hr⟩;obtain⟨ex,hex⟩:∃ex,ex=errL (eachE t) L:=⟨_,rfl⟩;rw[<-hex]at hr ⊢;have eg:Ext K1 (K1++g4):=⟨g4,rfl⟩;have fin:firstS [bad,ex]=ex:=by
  rw[hz];show(if(0:Int)=0 then(if ex=0 then 0 else ex)else 0)=ex;rw[if_pos rfl];by_cases q:ex=0
  ·rw[if_pos q,q]
  ·rw[if_neg q]
 by_cases hq:ex=0
 ·rw[if_pos hq]at hr;obtain⟨s',L',rfl,ok',hl',hn1,hn2⟩:=hr;have b4K:b4<K1.length:=(List.getElem?_eq_some_iff.1 (f1.some m4)).1;have okS:ShOk ((K1++g4).set b4 (.cells (shC nm s') true false)) L' s':=⟨ok'.sl.setb (hn1 b4 b4K),λy hy=>(ok'.all y hy).setb ((hn2 y hy).elim (λ⟨x,hx,q⟩=>by rw[q];exact(o.all x hx).notB n4) λq=>q b4 b4K)⟩;have eS:Ext h ((K1++g4).set b4 (.cells (shC nm s') true false)):=ext_setG (eY.trans (f1.trans eg)) n4;have s4:storeF 2 (.ptr b4 0) (.agg [.str nm,s']) (λz=>(K1++g4)[z]?)=some (undefA,.set b4 (.cells (shC nm s') true false)):=by
   rw[storeF_at ((f1.trans eg).some m4)];exact sh_st ok'.sl.one
  have k4:((K1++g4).set b4 (.cells (shC nm s') true false))[b4]? =some (.cells (shC nm s') true false):=set_eq' ((f1.trans eg).some m4);have f4:=@loadF_at (some 2) b4 0 _ _ k4;have l4:=@sh_l2 nm s';have hsw:K1.set b4 (.cells (shC nm s') true false)++g4=(K1++g4).set b4 (.cells (shC nm s') true false):=by rw[List.set_append_left _ _ (List.getElem?_eq_some_iff.1 (f1.some m4)).1]
  refine Rs (A5 @t0 @t1 @s4 @f4 @l4) ?_;rw[hsw];refine⟨eS,_,_,rfl,?_⟩;unfold ChgR;rw[fin,if_pos hq];exact⟨rfl,s',L',rfl,okS,hl'⟩
 ·rw[if_neg hq]at hr;subst hr;have s4:storeF 2 (.ptr b4 0) (.agg [.str [],.nilSlice]) (λz=>(K1++g4)[z]?)=some (undefA,.set b4 (.cells (shC [] .nilSlice) true false)):=by
   rw[storeF_at ((f1.trans eg).some m4)];exact sh_st rfl
  have k4:((K1++g4).set b4 (.cells (shC [] .nilSlice) true false))[b4]? =some (.cells (shC [] .nilSlice) true false):=set_eq' ((f1.trans eg).some m4);have f4:=@loadF_at (some 2) b4 0 _ _ k4;have l4:=@sh_l2 [] .nilSlice;refine Rs (A5 @t0 @t1 @s4 @f4 @l4) ?_;refine⟨?_,_,_,rfl,?_⟩
  ·have:=ext_setG (X:=.cells (shC [] .nilSlice) true false) (eY.trans (f1.trans eg)) n4
   first|exact this|(rw[List.set_append_left _ _ (List.getElem?_eq_some_iff.1 (f1.some m4)).1]at this;exact this)
  ·unfold ChgR;rw[fin,if_neg hq];exact⟨rfl,rfl⟩
end
end Go.Abs
