/- Numbers that a floating point format has exactly. No condition. · The value of a number; comparisons, sums and products of numbers that a format has. No condition. · Constants, integers as floats and back, products by 16, differences. No condition. · Products and quotients by 16, the greater format. No condition. -/
import Derived.Laws.FloatBits
import Derived.Test.YtjipbemoklhnaaaGreatDoorAc1
set_option linter.all false
namespace Go.Abs
open Ieee
def cut_zero(w:Toward)(neg:Bool)(n:Nat):w.cut neg n 0=n:=by
 cases w<;>simp[Toward.cut,Nat.mod_one]
def word_read(f:Format)(neg:Bool){r:Nat}(h:r<f.signWeight):(f.word neg r / f.signWeight%2==1)=neg/\f.word neg r%f.signWeight=r:=by
 unfold Format.word;cases neg with
 |false=>exact⟨by simp[Nat.div_eq_of_lt h],by simp[Nat.mod_eq_of_lt h]⟩
 |true=>
  have hp:0<f.signWeight:=Nat.two_pow_pos _;refine⟨?_,?_⟩
  ·simp only[if_true];rw[Nat.add_div_left _ hp,Nat.div_eq_of_lt h];rfl
  ·simp only[if_true];rw[Nat.add_mod_left,Nat.mod_eq_of_lt h]
def read_nearest(f:Format)(neg:Bool){mag:Nat}{place:Int}(hm:mag≠0)(h1:mag.log2<=f.fractionBits)(h2:f.leastPlace<=place)(h3:place+mag.log2-f.fractionBits-f.leastPlace+3<=(2^f.exponentBits:Nat))(h4:2<=f.exponentBits):
  ∃k:Nat,f.leastPlace<=place-k/\f.read (f.nearest neg mag place)=.number neg (mag*2^k) (place-k):=by
 obtain⟨l,hl⟩:∃l,l=mag.log2:=⟨_,rfl⟩;have g1:2^l<=mag:=by rw[hl];exact Nat.log2_self_le hm
 have g2:mag<2^(l+1):=by rw[hl];exact Nat.lt_log2_self
 unfold Format.nearest;rw[if_neg hm];dsimp only;rw[<-hl]at h1 h3 ⊢;obtain⟨last,hlast⟩:∃x,x=max (place+l-f.fractionBits) f.leastPlace:=⟨_,rfl⟩;rw[<-hlast];have q1:last<=place:=by omega
 have q2:f.leastPlace<=last:=by omega
 have hd:(last-place).toNat=0:=by omega
 rw[hd,cut_zero];obtain⟨k,hk⟩:∃k,k=(place-last).toNat:=⟨_,rfl⟩;obtain⟨d,hdd⟩:∃d,d=(last-f.leastPlace).toNat:=⟨_,rfl⟩;rw[<-hk,<-hdd];have hkl:(place-k:Int)=last:=by omega
 have hB:f.binade=2^f.fractionBits:=rfl;have hBp:0<f.binade:=Nat.two_pow_pos _;rw[Nat.shiftLeft_eq];obtain⟨kept,hkept⟩:∃x,x=mag*2^k:=⟨_,rfl⟩;have hkL:k+l<=f.fractionBits:=by omega
 have hp4:4<=2^f.exponentBits:=Nat.pow_le_pow_right (n:=2) (by decide) h4;have u1:kept<2*f.binade:=by
  rw[hkept,hB];have a1:mag*2^k<2^(l+1)*2^k:=Nat.mul_lt_mul_of_pos_right g2 (Nat.two_pow_pos _);rw[<-Nat.pow_add]at a1;have a2:2^(l+1+k)<=2^(f.fractionBits+1):=Nat.pow_le_pow_right (by decide) (by omega);rw[Nat.pow_succ 2 f.fractionBits]at a2;omega
 have u2:0<d->f.binade<=kept:=λhd0=>by
  rw[hkept,hB];have a1:2^l*2^k<=mag*2^k:=Nat.mul_le_mul_right _ g1;rw[<-Nat.pow_add]at a1;have:l+k=f.fractionBits:=by omega
  rw[this]at a1;exact a1
 rw[<-hkept];have hinf:d*f.binade+kept<f.infRung:=by
  have e:f.infRung=(2^f.exponentBits-1)*f.binade:=rfl;have:(d+2)*f.binade<=f.infRung:=by rw[e];exact Nat.mul_le_mul_right _ (by omega)
  rw[Nat.add_mul]at this;omega
 rw[Nat.min_eq_left (by omega)];have hw:=word_read f neg (r:=d*f.binade+kept) (Nat.lt_trans hinf f.infRung_lt);refine⟨k,by omega,?_⟩;rw[hkl];unfold Format.read;dsimp only;rw[hw.1,hw.2];by_cases hlow:d*f.binade+kept<f.binade
 ·rw[if_pos hlow];have hd0:d=0:=by
   rcases Nat.eq_zero_or_pos d with h|h
   ·exact h
   ·have:=u2 h;omega
  rw[hd0,Nat.zero_mul,Nat.zero_add];have:last=f.leastPlace:=by omega
  rw[this,hkept]
 ·rw[if_neg hlow,if_pos hinf];have hge:f.binade<=kept:=by
   rcases Nat.eq_zero_or_pos d with h|h
   ·rw[h,Nat.zero_mul]at hlow;omega
   ·exact u2 h
  have e1:d*f.binade+kept=(kept-f.binade)+f.binade*(d+1):=by rw[Nat.mul_add,Nat.mul_comm f.binade d];omega
  have e2:(d*f.binade+kept)%f.binade=kept-f.binade:=by rw[e1,Nat.add_mul_mod_self_left,Nat.mod_eq_of_lt (by omega)]
  have e3:(d*f.binade+kept) / f.binade=d+1:=by rw[e1,Nat.add_mul_div_left _ _ hBp,Nat.div_eq_of_lt (by omega)];omega
  rw[e2,e3];have e4:f.binade+(kept-f.binade)=kept:=by omega
  have e5:f.leastPlace+((d+1-1:Nat):Int)=last:=by omega
  rw[e4,e5,hkept]
def log2_shift{m:Nat}(hm:m≠0)(j:Nat):(m*2^j).log2=m.log2+j:=by
 have hp:0<2^j:=Nat.two_pow_pos _;refine(Nat.log2_eq_iff (Nat.mul_ne_zero hm (by omega))).2 ⟨?_,?_⟩
 ·rw[Nat.pow_add];exact Nat.mul_le_mul_right _ (Nat.log2_self_le hm)
 ·rw[show m.log2+j+1=m.log2+1+j by omega,Nat.pow_add];exact Nat.mul_lt_mul_of_pos_right Nat.lt_log2_self hp
def cut_exact(neg:Bool){n D:Nat}(hn:n≠0):Toward.even.cut neg (n*2^D) D=n:=by
 have hp:0<2^D:=Nat.two_pow_pos _;have hl:=log2_shift hn D;unfold Toward.cut;dsimp only;rw[Nat.min_eq_left (by omega),Nat.shiftLeft_eq,Nat.one_mul,Nat.mul_div_cancel _ hp,Nat.mul_mod_left];have h1:decide (2^D<2*0)=false:=decide_eq_false (by omega);have h2:(2^D==2*0)=false:=by simp
 rw[h1,h2];rfl
def nearest_shift(f:Format)(neg:Bool){m j:Nat}{place:Int}(hm:m≠0)(h1:m.log2<=f.fractionBits)(h2:f.leastPlace<=place+j):f.nearest neg (m*2^j) place=f.nearest neg m (place+j):=by
 have hp:0<2^j:=Nat.two_pow_pos _;unfold Format.nearest;rw[if_neg hm,if_neg (Nat.mul_ne_zero hm (by omega))];dsimp only;rw[log2_shift hm];have e1:max (place+((m.log2+j:Nat):Int)-f.fractionBits) f.leastPlace=max (place+(j:Int)+m.log2-f.fractionBits) f.leastPlace:=by congr 1;omega
 rw[e1];obtain⟨last,hlast⟩:∃x,x=max (place+(j:Int)+m.log2-f.fractionBits) f.leastPlace:=⟨_,rfl⟩;rw[<-hlast];have hle:last<=place+j:=by omega
 have hz:(last-(place+(j:Int))).toNat=0:=by omega
 rw[hz,cut_zero,Nat.shiftLeft_eq,Nat.shiftLeft_eq];congr 2;by_cases hc:last<=place
 ·have hz2:(last-place).toNat=0:=by omega
  have e3:j+(place-last).toNat=(place+(j:Int)-last).toNat:=by omega
  rw[hz2,cut_zero,Nat.mul_assoc,<-Nat.pow_add,e3]
 ·obtain⟨D,hD⟩:∃D,D=(last-place).toNat:=⟨_,rfl⟩;have hz2:(place-last).toNat=0:=by omega
  rw[hz2,<-hD,Nat.pow_zero,Nat.mul_one];have e2:m*2^j=m*2^(place+(j:Int)-last).toNat*2^D:=by
   have e3:(place+(j:Int)-last).toNat+D=j:=by omega
   rw[Nat.mul_assoc,<-Nat.pow_add,e3]
  rw[e2,cut_exact];exact Nat.mul_ne_zero hm (Nat.pos_iff_ne_zero.1 (Nat.two_pow_pos _))
def read_zero(f:Format)(neg:Bool)(place:Int):f.read (f.nearest neg 0 place)=.number neg 0 f.leastPlace:=by
 unfold Format.nearest;rw[if_pos rfl];have hw:=word_read f neg (r:=0) (Nat.two_pow_pos _);unfold Format.read;dsimp only;rw[hw.1,hw.2,if_pos (show 0<f.binade from Nat.two_pow_pos _)]
end Go.Abs
namespace Go.Abs
open Ieee
def sgN(s:Bool)(m:Nat):Int:=if s then -(m:Int)else m
def vl:Datum->Int
 |.number s m e=>sgN s m*2^(e+1200).toNat
 |_=>0
def sgN_mul(s:Bool)(m n:Nat):sgN s (m*n)=sgN s m*n:=by
 cases s<;>simp[sgN,Int.neg_mul]
def signed_eq(s:Bool)(m u:Nat):signed s m u=sgN s m*2^u:=by
 unfold signed;rw[Nat.shiftLeft_eq];cases s<;>simp[sgN,Int.neg_mul]
def cmp_int(a b:Int):compare a b=if a<b then .lt else if a=b then .eq else .gt:=rfl
def cmp_mul{a b c:Int}(hc:0<c):compare (a*c) (b*c)=compare a b:=by
 rw[cmp_int,cmp_int];by_cases h1:a<b
 ·rw[if_pos h1,if_pos (Int.mul_lt_mul_of_pos_right h1 hc)]
 ·rw[if_neg h1,if_neg (λz=>h1 (Int.lt_of_mul_lt_mul_right z (Int.le_of_lt hc)))];by_cases h2:a=b
  ·rw[if_pos h2,if_pos (by rw[h2])]
  ·rw[if_neg h2,if_neg (λz=>h2 (Int.eq_of_mul_eq_mul_right (by omega) z))]
def two_pos(n:Nat):(0:Int)<2^n:=Int.pow_pos (by decide)
def vl_base{s:Bool}{m:Nat}{i b:Int}(hb:b<=i)(h0:-1200<=b):vl (.number s m i)=signed s m (i-b).toNat*2^(b+1200).toNat:=by
 rw[signed_eq,Int.mul_assoc,<-Int.pow_add];show sgN s m*2^(i+1200).toNat=_;congr 2;omega
def ord_vl{s t:Bool}{m n:Nat}{i j:Int}(hi:-1200<=i)(hj:-1200<=j):(Datum.number s m i).order (.number t n j)=some (compare (vl (.number s m i)) (vl (.number t n j))):=by
 rw[vl_base (b:=min i j) (by omega) (by omega),vl_base (s:=t) (b:=min i j) (by omega) (by omega),cmp_mul (two_pos _)];rfl
def Num(k:FloatKind)(b:Nat)(v:Int):Prop:=∃s m e,k.format.read b=.number s m e/\-1200<=e/\v=vl (.number s m e)
def num_ord{k a b u v}(ha:Num k a u)(hb:Num k b v):k.format.order a b=some (compare u v):=by
 obtain⟨s,m,e,h1,h2,rfl⟩:=ha;obtain⟨t,n,d,h3,h4,rfl⟩:=hb;unfold Format.order;rw[h1,h3];exact ord_vl h2 h4
def cmp_lt(u v:Int):(some (compare u v)==some Ordering.lt)=decide (u<v):=by
 rw[cmp_int];by_cases h1:u<v
 ·rw[if_pos h1,decide_eq_true h1];rfl
 ·rw[if_neg h1,decide_eq_false h1];split<;>rfl
def cmp_eq(u v:Int):(some (compare u v)==some Ordering.eq)=decide (u=v):=by
 rw[cmp_int];by_cases h1:u<v
 ·rw[if_pos h1,decide_eq_false (by omega)];rfl
 ·rw[if_neg h1];by_cases h2:u=v
  ·rw[if_pos h2,decide_eq_true h2];rfl
  ·rw[if_neg h2,decide_eq_false h2];rfl
section
variable {k:FloatKind}{a b:Nat}{u v:Int}(ha:Num k a u) (hb:Num k b v)
include ha hb
def num_eql:binK .eql (.flt k a) (.flt k b)=some (.bool (decide (u=v))):=by
 simp only[binK,if_true,fltBin,num_ord ha hb,cmp_eq]
def num_neq:binK .neq (.flt k a) (.flt k b)=some (.bool (decide (u≠v))):=by
 simp only[binK,if_true,fltBin,num_ord ha hb,bne,cmp_eq];by_cases h:u=v<;>simp[h]
def num_leq:binK .leq (.flt k a) (.flt k b)=some (.bool (decide (u<=v))):=by
 simp only[binK,if_true,fltBin,num_ord ha hb,cmp_lt,cmp_eq];congr 2;by_cases h:u<v
 ·simp[h,Int.le_of_lt h]
 ·by_cases h2:u=v
  ·simp[h2]
  ·rw[decide_eq_false h,decide_eq_false h2,decide_eq_false (by omega)];rfl
end
def ExF(f:Format)(m:Nat)(i:Int):Prop:=m=0\/∃m' j:Nat,m=m'*2^j/\m'≠0/\m'.log2<=f.fractionBits/\f.leastPlace<=i+j/\i+j+m'.log2-f.fractionBits-f.leastPlace+3<=(2^f.exponentBits:Nat)
def least_ge(k:FloatKind):-1200<=k.format.leastPlace:=by cases k<;>decide
def exp_ge(k:FloatKind):2<=k.format.exponentBits:=by cases k<;>decide
def num_write{k:FloatKind}{s:Bool}{m:Nat}{i:Int}(hi:-1200<=i)(h:ExF k.format m i):Num k (k.format.write (.number s m i)) (vl (.number s m i)):=by
 have hl:=least_ge k;show Num k (k.format.nearest s m i) _;rcases h with rfl|⟨m',j,rfl,h1,h2,h3,h4⟩
 ·exact⟨s,0,_,read_zero _ _ _,hl,by cases s<;>simp[vl,sgN]⟩
 ·rw[nearest_shift _ _ h1 h2 h3];obtain⟨q,h5,h6⟩:=read_nearest k.format s h1 h2 h3 h4 (exp_ge k);refine⟨s,_,_,h6,by omega,?_⟩;show sgN s (m'*2^j)*2^(i+1200).toNat=sgN s (m'*2^q)*2^(i+j-q+1200).toNat;rw[sgN_mul,sgN_mul,Int.mul_assoc,Int.mul_assoc];congr 1;have e:∀a b:Nat,((2^a:Nat):Int)*2^b=2^(a+b):=λa b=>by rw[Int.natCast_pow,Int.pow_add];rfl
  rw[e,e];congr 1;omega
end Go.Abs
namespace Go.Abs
open Ieee
def read_fin{f:Format}{w:Nat}{s m e}(h:f.read w=.number s m e):m<2*f.binade/\f.leastPlace<=e:=by
 have hp:0<f.binade:=Nat.two_pow_pos _;unfold Format.read at h;dsimp only at h;split at h
 ·cases h;exact⟨by omega,Int.le_refl _⟩
 ·split at h
  ·cases h;have:=Nat.mod_lt (w%f.signWeight) hp;exact⟨by omega,by omega⟩
  ·split at h<;>cases h
def log_fin{f:Format}{w:Nat}{s m e}(h:f.read w=.number s m e)(hm:m≠0):m.log2<=f.fractionBits:=by
 have h1:=(read_fin h).1;have h2:=Nat.log2_self_le hm;have e:2*f.binade=2^(f.fractionBits+1):=by rw[Nat.pow_succ];show 2*2^f.fractionBits=_;omega
 rw[e]at h1;have:=(Nat.pow_lt_pow_iff_right (a:=2) (by decide)).1 (Nat.lt_of_le_of_lt h2 h1);omega
def bU:Nat:=1200
def bU_eq:(bU:Int)=1200:=rfl
def UU:Int:=2^bU
def UU_pos:0<UU:=two_pos _
def vl_at{s:Bool}{m:Nat}{e:Int}(he:0<=e):vl (.number s m e)=sgN s m*2^e.toNat*UU:=by
 show sgN s m*2^(e+1200).toNat=_;have h1:=bU_eq;have h2:(e+1200).toNat=e.toNat+bU:=by omega
 rw[Int.mul_assoc,UU,<-Int.pow_add,h2]
def sgN_int(n:Int):sgN (decide (n<0)) n.natAbs=n:=by
 by_cases h:n<0
 ·rw[decide_eq_true h];unfold sgN;simp only[if_true];omega
 ·rw[decide_eq_false h];unfold sgN;simp only[Bool.false_eq_true,if_false];omega
def num_int{k:FloatKind}{n:Int}(h:n.natAbs<2^(k.format.fractionBits+1)):Num k (k.nearest n) (n*UU):=by
 have hx:ExF k.format n.natAbs 0:=by
  by_cases hz:n.natAbs=0
  ·exact .inl hz
  ·have h2:=Nat.log2_self_le hz;have:=(Nat.pow_lt_pow_iff_right (a:=2) (by decide)).1 (Nat.lt_of_le_of_lt h2 h);refine .inr ⟨n.natAbs,0,by simp,hz,by omega,?_,?_⟩
   ·cases k<;>decide
   ·cases k
    ·have e1:FloatKind.f32.format.fractionBits=23:=rfl;have e2:FloatKind.f32.format.leastPlace= -149:=by decide
     have e3:(2^FloatKind.f32.format.exponentBits:Nat)=256:=by decide
     rw[e1,e2,e3];rw[e1]at this;omega
    ·have e1:FloatKind.f64.format.fractionBits=52:=rfl;have e2:FloatKind.f64.format.leastPlace= -1074:=by decide
     have e3:(2^FloatKind.f64.format.exponentBits:Nat)=2048:=by decide
     rw[e1,e2,e3];rw[e1]at this;omega
 have:=num_write (s:=decide (n<0)) (by omega) hx;rw[vl_at (Int.le_refl 0),sgN_int]at this;simp only[Int.toNat_zero,Int.pow_zero,Int.mul_one]at this;exact this
def toInt_vl{s:Bool}{m:Nat}{e:Int}(h0:-1200<=e):(Datum.number s m e).toInt .zero=some ((vl (.number s m e)).tdiv UU):=by
 have hz:∀n d:Nat,Toward.zero.cut s n d=n / 2^d:=λn d=>by
  unfold Toward.cut;dsimp only;rw[Nat.shiftLeft_eq,Nat.one_mul];show _+0=_;rw[Nat.add_zero];by_cases hd:d<=n.log2+2
  ·rw[Nat.min_eq_left hd]
  ·rw[Nat.min_eq_right (by omega)];have a1:n<2^(n.log2+2):=Nat.lt_of_lt_of_le Nat.lt_log2_self (Nat.pow_le_pow_right (by decide) (by omega));have a2:n<2^d:=Nat.lt_of_lt_of_le a1 (Nat.pow_le_pow_right (by decide) (by omega));rw[Nat.div_eq_of_lt a1,Nat.div_eq_of_lt a2]
 have key:∀q:Nat,signed s q 0=sgN s q:=λq=>by rw[signed_eq,Int.pow_zero,Int.mul_one]
 unfold Datum.toInt Datum.integral;dsimp only;rw[hz,key,Nat.shiftLeft_eq];congr 1;have hU:UU≠0:=by have:=UU_pos;omega
 by_cases he:0<=e
 ·rw[vl_at he,Int.mul_tdiv_cancel _ hU,show(-e).toNat=0 by omega,Nat.pow_zero,Nat.div_one,sgN_mul,Int.natCast_pow];rfl
 ·have e1:UU=2^(e+1200).toNat*2^(-e).toNat:=by
   have h1:=bU_eq;have h2:(e+1200).toNat+(-e).toNat=bU:=by omega
   rw[UU,<-Int.pow_add,h2]
  have e2:vl (.number s m e)=sgN s m*2^(e+1200).toNat:=rfl;rw[e2,e1,Int.mul_comm (sgN s m),Int.mul_tdiv_mul_of_pos _ _ (two_pos _),show e.toNat=0 by omega,Nat.pow_zero,Nat.mul_one];have hc:((2^(-e).toNat:Nat):Int)=2^(-e).toNat:=by rw[Int.natCast_pow];rfl
  cases s
  ·show((m / 2^(-e).toNat:Nat):Int)=(m:Int).tdiv _;rw[<-hc,<-Int.ofNat_tdiv]
  ·show -((m / 2^(-e).toNat:Nat):Int)=(-(m:Int)).tdiv _;rw[<-hc,Int.neg_tdiv,<-Int.ofNat_tdiv]
def num_toInt{k b v}(h:Num k b v):(k.decode b).toInt .zero=some (v.tdiv UU):=by
 obtain⟨s,m,e,h1,h2,rfl⟩:=h;show(k.format.read b).toInt .zero=_;rw[h1];exact toInt_vl h2
def num_nan{k b v}(h:Num k b v):nanB k b=false:=by
 obtain⟨s,m,e,h1,_,_⟩:=h;rw[nanB_isNaN,h1];rfl
def sub_self{k b v}(h:Num k b v):binK .sub (.flt k b) (.flt k b)=some (.flt k 0):=by
 obtain⟨s,m,e,h1,_,_⟩:=h;have:k.format.sub b b=some 0:=by
  unfold Format.sub;rw[h1];have hs:(Datum.number s m e).sum (Datum.number s m e).opposite=some (.number false 0 e):=by
   unfold Datum.opposite Datum.sum;dsimp only;have ht:signed s m (e-min e e).toNat+signed (!s) m (e-min e e).toNat=0:=by
    rw[signed_eq,signed_eq];cases s<;>simp[sgN]<;>omega
   rw[ht];cases s<;>simp
  rw[hs];show some (k.format.nearest false 0 e)=some 0;unfold Format.nearest;rw[if_pos rfl];rfl
 simp only[binK,if_true,fltBin,this,fltRes]
end Go.Abs
namespace Go.Abs
open Ieee
def read_fin2{f:Format}{w:Nat}{s m e}(h:f.read w=.number s m e)(h2:2<=f.exponentBits):e-f.leastPlace+3<=(2^f.exponentBits:Nat):=by
 have hp:0<f.binade:=Nat.two_pow_pos _;have hp4:4<=2^f.exponentBits:=Nat.pow_le_pow_right (n:=2) (by decide) h2;unfold Format.read at h;dsimp only at h;split at h
 ·cases h;omega
 ·split at h
  ·rename_i h3;cases h;have e1:f.infRung=(2^f.exponentBits-1)*f.binade:=rfl;rw[e1]at h3;have:=(Nat.div_lt_iff_lt_mul hp).2 h3;omega
  ·split at h<;>cases h
def c16:FloatKind->Nat
 |.f32=>1098907648
 |.f64=>4625196817309499392
def read_c16(k:FloatKind):k.format.read (c16 k)=.number false (2^k.format.fractionBits) (4-(k.format.fractionBits:Int)):=by cases k<;>decide
def sgN_abs(s:Bool)(m:Nat):(sgN s m).natAbs=m:=by cases s<;>simp[sgN]
def abs_pow(n:Nat):((2:Int)^n).natAbs=2^n:=by rw[Int.natAbs_pow];rfl
def vl_abs(s:Bool)(m:Nat)(e:Int):(vl (.number s m e)).natAbs=m*2^(e+1200).toNat:=by
 show(sgN s m*2^(e+1200).toNat).natAbs=_;rw[Int.natAbs_mul,sgN_abs,abs_pow]
def UU_abs:UU.natAbs=2^bU:=abs_pow _
def pow_le'{a b:Nat}(h:2^a<=2^b):a<=b:=(Nat.pow_le_pow_iff_right (a:=2) (by decide)).1 h
def pow_lt'{a b:Nat}(h:2^a<2^b):a<b:=(Nat.pow_lt_pow_iff_right (a:=2) (by decide)).1 h
def vl_le{s m e}(hm:m≠0)(he:-1200<=e){c:Nat}(h:(vl (.number s m e)).natAbs<=2^c*UU.natAbs):e+m.log2<=c:=by
 rw[vl_abs,UU_abs,<-Nat.pow_add]at h;have h2:2^m.log2*2^(e+1200).toNat<=m*2^(e+1200).toNat:=Nat.mul_le_mul_right _ (Nat.log2_self_le hm);rw[<-Nat.pow_add]at h2;have:=pow_le' (Nat.le_trans h2 h);have h1:=bU_eq;omega
def vl_ge{s m e}(he:-1200<=e)(h:UU.natAbs<=(vl (.number s m e)).natAbs):0<=e+m.log2:=by
 rw[vl_abs,UU_abs]at h;have h2:m*2^(e+1200).toNat<2^(m.log2+1)*2^(e+1200).toNat:=Nat.mul_lt_mul_of_pos_right Nat.lt_log2_self (Nat.two_pow_pos _);rw[<-Nat.pow_add]at h2;have:=pow_lt' (Nat.lt_of_le_of_lt h h2);have h1:=bU_eq;omega
def fmt_facts(k:FloatKind):(k.format.fractionBits=23/\k.format.leastPlace= -149/\(2^k.format.exponentBits:Nat)=256)\/(k.format.fractionBits=52/\k.format.leastPlace= -1074/\(2^k.format.exponentBits:Nat)=2048):=by
 cases k
 ·exact .inl ⟨rfl,by decide,by decide⟩
 ·exact .inr ⟨rfl,by decide,by decide⟩
def vl_scale{s:Bool}{m j:Nat}{i i':Int}(h0:-1200<=i)(hi:i+j=i'):vl (.number s (m*2^j) i)=vl (.number s m i'):=by
 show sgN s (m*2^j)*2^(i+1200).toNat=sgN s m*2^(i'+1200).toNat;rw[sgN_mul,Int.natCast_pow,Int.mul_assoc];have e:(i'+1200).toNat=j+(i+1200).toNat:=by omega
 rw[e,Int.pow_add];rfl
def vl_up{s:Bool}{m:Nat}{i:Int}(h0:-1200<=i):vl (.number s m (i+4))=16*vl (.number s m i):=by
 show sgN s m*2^(i+4+1200).toNat=16*(sgN s m*2^(i+1200).toNat);have e:(i+4+1200).toNat=(i+1200).toNat+4:=by omega
 rw[e,Int.pow_add,<-Int.mul_assoc,Int.mul_comm];rfl
def mul16{k b v}(h:Num k b v)(hv:v.natAbs<=2^10*UU.natAbs):∃q,binK .mul (.flt k b) (.flt k (c16 k))=some (.flt k q)/\binK .mul (.flt k (c16 k)) (.flt k b)=some (.flt k q)/\Num k q (16*v):=by
 obtain⟨s,m,e,h1,h2,rfl⟩:=h;have hc:=read_c16 k;have hf:=fmt_facts k;have hl:=(read_fin h1).2;obtain⟨F,hF⟩:∃F,F=k.format.fractionBits:=⟨_,rfl⟩;have p1:k.format.mul b (c16 k)=some (k.format.write (.number s (m*2^F) (e+(4-(F:Int))))):=by
  unfold Format.mul;rw[h1,hc,<-hF];simp[Datum.product]
 have p2:k.format.mul (c16 k) b=some (k.format.write (.number s (m*2^F) (e+(4-(F:Int))))):=by
  unfold Format.mul;rw[h1,hc,<-hF];simp[Datum.product,Nat.mul_comm,Int.add_comm]
 refine⟨k.format.write (.number s (m*2^F) (e+(4-(F:Int)))),?_,?_,?_⟩
 ·simp only[binK,if_true,fltBin,p1,fltRes]
 ·simp only[binK,if_true,fltBin,p2,fltRes]
 ·have hx:ExF k.format (m*2^F) (e+(4-(F:Int))):=by
   by_cases hm:m=0
   ·exact .inl (by rw[hm,Nat.zero_mul])
   ·have hb:=vl_le hm h2 hv;exact .inr ⟨m,F,rfl,hm,log_fin h1 hm,by omega,by omega⟩
  have:=num_write (k:=k) (s:=s) (by omega) hx;rw[vl_scale (i':=e+4) (by omega) (by omega),vl_up h2]at this;exact this
def quo16{k b v}(h:Num k b v)(hv:v=0\/UU.natAbs<=v.natAbs):∃q w,binK .quo (.flt k b) (.flt k (c16 k))=some (.flt k q)/\Num k q w/\16*w=v:=by
 obtain⟨s,m,e,h1,h2,rfl⟩:=h;have hc:=read_c16 k;have hf:=fmt_facts k;have hl:=(read_fin h1).2;have hu:=read_fin2 h1 (exp_ge k);obtain⟨F,hF⟩:∃F,F=k.format.fractionBits:=⟨_,rfl⟩;have hp:0<2^F:=Nat.two_pow_pos _;by_cases hm:m=0
 ·subst hm;have p1:k.format.div b (c16 k)=some (k.format.write (.number s 0 (e-(4-(F:Int))-((F+2+(2^F).log2:Nat):Int)-1))):=by
   unfold Format.div;rw[h1,hc,<-hF];show Option.map k.format.write (if 2^F=0 then _ else _)=_;rw[if_neg (by omega)];simp[Nat.shiftLeft_eq]
  refine⟨_,_,by simp only[binK,if_true,fltBin,p1,fltRes];rfl,num_write ?_ (.inl rfl),by simp[vl,sgN]⟩;have:(2^F).log2=F:=Nat.log2_two_pow;omega
 ·have hlm:=log_fin h1 hm;have hlF:(2^F).log2=F:=Nat.log2_two_pow;obtain⟨t,ht⟩:∃t,t=F+2-m.log2:=⟨_,rfl⟩;have hmore:F+2+(2^F).log2-m.log2=t+F:=by omega
  have p1:k.format.div b (c16 k)=some (k.format.write (.number s (m*2^(t+1)) (e-(4-(F:Int))-((t+F:Nat):Int)-1))):=by
   unfold Format.div;rw[h1,hc,<-hF];show Option.map k.format.write (if 2^F=0 then _ else _)=_;rw[if_neg (by omega)];rw[hmore,Nat.shiftLeft_eq,Nat.pow_add,<-Nat.mul_assoc,Nat.mul_div_cancel _ hp,Nat.mul_mod_left];have e2:2*(m*2^t)+((0:Nat) !=0).toNat=m*2^(t+1):=by
    rw[Nat.pow_succ];show 2*(m*2^t)+0=_;rw[Nat.add_zero,Nat.mul_comm 2,Nat.mul_assoc]
   rw[e2];simp
  have hx:ExF k.format (m*2^(t+1)) (e-(4-(F:Int))-((t+F:Nat):Int)-1):=by
   have hg:UU.natAbs<=(vl (.number s m e)).natAbs:=by
    rcases hv with hv|hv
    ·have h3:=vl_abs s m e;rw[hv]at h3;have:0<m*2^(e+1200).toNat:=Nat.mul_pos (by omega) (Nat.two_pow_pos _);simp at h3;omega
    ·exact hv
   have hb:=vl_ge h2 hg;exact .inr ⟨m,t+1,rfl,hm,hlm,by omega,by omega⟩
  refine⟨_,_,by simp only[binK,if_true,fltBin,p1,fltRes];rfl,num_write (by omega) hx,?_⟩;rw[vl_scale (i':=e-4) (by omega) (by omega),<-vl_up (by omega),show e-4+4=e by omega]
end Go.Abs
