/- A part of the proof that HouseDigests holds. No condition. -/
import Derived.Test.YtgplmdgpmbegiaaGreatDoorDg9
import Derived.Test.YtgplmdgpmbegiaaGreatDoorDg8
import Derived.Test.YtgplmdgpmbegiaaGreatDoorDg7
import Derived.Test.YtgplmdgpmbegiaaGreatDoorDg0
set_option maxHeartbeats 4000000
set_option linter.all false
open Nat (reduceAdd reduceMul reduceLeDiff reduceEqDiff)
namespace Go.Abs
set_option maxRecDepth 10000
attribute [local irreducible] WP WC WE WB WR WF WL WG eD WM
section
variable {P:Program}(T:dB P) {h W:af}{ts:TS}
include T
end
section
variable {P:Program}(T:dB P) {h:af}
include T
end
def Ch(l:List Int):Int:=if l.length=0 then 12 else if 32<l.length then 5 else if l.any (λn=>decide (aU n 0 999999999≠0))=true then 3 else 0
section
variable {P:Program}(T:dB P) {h:af}
include T
def r29{l s}(hs:aA h s 1 (l.map aB))(hl:l.length<2^62):ao P 29 [s] h (λv _=>v=.i (Ch l)):=by
 refine .mG 21 T.mix T.c29 ?_;intro ts hlen t0;unfold fn29 gA;by_cases h1:l.length=0
 ·have q1:decide ((l.length:Int)=0)=true:=Tq Om;refine Rs (A3 t0 hs.bh q1) ?_;rw[Ch,Ty h1]
 have q1:decide ((l.length:Int)=0)=false:=Tm Om;by_cases h2:32<l.length
 ·have q2:decide ((32:Int)<(l.length:Int))=true:=Tq Om;refine Rs (A4 t0 hs.bh q1 q2) ?_;rw[Ch,Tt h1,Ty h2]
 have q2:decide ((32:Int)<(l.length:Int))=false:=Tm Om;refine Rs (A4 t0 hs.bh q1 q2) ?_;refine WL.inv T.mix (λm ts h'=>∃(k:Nat) (g:af),k<=l.length/\m=l.length-k/\h' =h++g/\l.any (λn=>decide (aU n 0 999999999≠0))=(l.drop k).any (λn=>decide (aU n 0 999999999≠0))/\ts.length=21/\slot ts 0=s/\slot ts 3=.i k) l.length
  ⟨0,[],Om,rfl,by rw[TH],rfl,Sn,(Sq t0),my⟩ ?_
 clear t0 hlen;rintro _ ts _ ⟨k,g,hk,rfl,rfl,hi,hlen,t0,t3⟩;have hs:=hs.ext (show Ext h (h++g)from⟨_,rfl⟩);by_cases hlt:k<l.length
 ·have e3:=hX hlt;have e5:=wrapN (n:=k) Om;have ix:=hs.eX (kk:=.i64) hlt;have ld:=hs.kV (i:=k) (x:=.i l[k]) hlt rfl (Ext.refl _);rw[any_eq hlt]at hi;refine Rs (A6 t0 t3 hs.bh e3 ix @ld) ?_;refine WF.ce T.c20 (r20 T _ _ _) λg1=>?_
  cases hr:decide (aU l[k] 0 999999999≠0)with
  |true=>
   rw[hr]at hi;refine Rs (A2 t0 t3) ?_;rw[Ch,Tt h1,Tt h2,hi];rfl
  |false=>
   rw[hr]at hi;refine Rs (A3 t0 t3 e5) ?_;exact⟨_,Om,k+1,g++g1,Om,rfl,by rw[Ti],hi,rfl⟩
 ·have e3:=jf hlt;have e4:k=l.length:=Om
  rw[e4,UQ]at hi;refine Rs (A4 t0 t3 hs.bh e3) ?_;rw[Ch,Tt h1,Tt h2,hi];rfl
end
theorem vU{α:Type}{row:α->List AV}{Q:α->Prop}:∀{cs:List (List AV)},(∀c∈cs,∃x,c=row x/\Q x)->∃L:List α,cs=L.map row/\∀x∈L,Q x
 |[],_=>⟨[],rfl,λ_ h=>by cases h⟩
 |c::cs,h=>by
  obtain⟨x,rfl,hx⟩:=h c (T0 ..);obtain⟨L,rfl,hL⟩:=vU (cs:=cs) λc hc=>h c (TK _ hc)
  exact⟨x::L,rfl,λy hy=>(TP.1 hy).elim (λe=>e▸hx) (hL y)⟩
def yR{h k a}(x:TY h (.int k) a):∃z,a=.int k z/\(Lit.int k z).wf=true:=by rw[TY]at x;exact x
def Ho{h r a}(x:TY h (.sl r) a):∃cs:List (List AV),aA h a r.length cs/\cs.length<=maxLen/\∀c∈cs,gx h r c:=by rw[TY]at x;exact x
def Bd{h l}(x:gx h [] l):l=[]:=by rw[gx]at x;exact x
def yO{h t ts l}(x:gx h (t::ts) l):∃a l',l=a::l'/\TY h t a/\gx h ts l':=by rw[gx]at x;exact x
def yP{h l}(x:qa h [] l):l=[]:=by rw[qa]at x;exact x
def mJ{h t ts l}(x:qa h (t::ts) l):∃a l',l=a::l'/\D9 h t a/\qa h ts l':=by rw[qa]at x;exact x
def vK{h k a}(x:D9 h (.one (.int k)) a):∃z,a=.int k z/\(Lit.int k z).wf=true:=yR (h:=h) x
def Hn{z}(h:(Lit.int .u8 z).wf=true):0<=z/\z<=255:=by
 exact G4
def En{z}(h:(Lit.int .u16 z).wf=true):0<=z/\z<=65535:=by
 exact G4
def Be{h:af}{a:AV}(x:TY h (.sl [.int .i64]) a):∃L:List Int,aA h a 1 (L.map aB)/\L.length<=maxLen/\∀z∈L,(Lit.int .i64 z).wf=true:=by
 obtain⟨cs,hs,hl,hc⟩:=Ho x;obtain⟨L,rfl,hL⟩:=vU (row:=aB) (Q:=λz=>(Lit.int .i64 z).wf=true) λc hcm=>by
  obtain⟨_,_,rfl,h1,x⟩:=yO (hc c hcm);obtain rfl:=Bd x;obtain⟨s,rfl,hs⟩:=yR h1;exact⟨s,rfl,hs⟩
 exact⟨L,hs,by simpa using hl,hL⟩
def yQ{h a}(x:D9 h (.one (.sl [.int .i64])) a):∃L:List Int,aA h a 1 (L.map aB)/\L.length<=maxLen/\∀z∈L,(Lit.int .i64 z).wf=true:=Be x
section
variable {P:Program}(T:dB P) {h:af}
include T
def Ea(h:af):AV->af->Prop:=λv k=>Ext h k/\v=.bool true
end
def Bz{l:List db}(h:(aT l).2.2=0):l.length<=1000:=by
 unfold aT at h;split at h
 ·exact absurd h De
 ·omega
def BF{H:gM}{e:db}(hk:mH e≠.eV):(jQ H e).now=xN H.now e (mH e):=by
 rw[jQ,Tt hk];show(H.cp++[_]).getLastD _=_;simp[UM]
theorem vT:∀(l:List db) (H:gM) (i:Nat),(fD H l i).2.2=0->(fD H l i).1.cI=H.cI++l
 |[],H,i,_=>by simp[fD]
 |e::l,H,i,h=>by
  rw[fD]at h ⊢;by_cases hb:dV H e=0
  ·rw[Tt (λz=>z hb)]at h ⊢;rw[vT l _ _ h];have:(jQ H e).cI=H.cI++[e]:=by unfold jQ;split<;>rfl
   rw[this,Ti];rfl
  ·rw[Ty hb]at h;exact absurd h hb
def vW{l:List db}(h:(aT l).2.2=0):(aT l).1.cI=l:=by
 have hl:=Bz h;have e:aT l=fD gM.zero l 0:=by rw[aT,Tt Om]
 rw[e]at h ⊢;rw[vT l _ _ h];rfl
section
variable {P:Program}(T:dB P) {h:af}
include T
end
section
variable {P:Program}(T:dB P) {h:af}
include T
end
def I4{x:mA}:nW true (kY (.agg [.s,.s,.i,.b]) (.agg (cS x)) (.agg (cS x)))=some (.bool false):=by
 rw[M9 rfl rfl];simp[cS,cL,cJ,nW]
section
variable {P:Program}(T:dB P) {h K:af}{ts:TS}{V U:RV}{b c:Nat}(o:aE K V) (p:aE K U) (e:V.aC=U.aC) (w:jl V.aC) (eh:Ext h K) (mv:K[b]? =some (.cells V.row true false)) (mu:K[c]? =some (.cells U.row true false))
include T o p e w eh mv mu
end
section
variable {P:Program}(T:dB P) {h:af}
include T
end
section
variable {P:Program}(T:dB P) {h W:af}{ts:TS}{V:RV}{Ss:List AV}(o:aE h V) (w:jl V.aC)
include T o
include w
end
section
variable {P:Program}(T:dB P) {h:af}
include T
end
def rH{e:db}{d:Kd}(w:r9 e d):eS e=0:=by
 have h1:∀n∈e.names,¬(!ff n)=true:=λn hn=>by simp[w.nm n hn]
 have h2:∀v∈e.cK,¬decide (aU v 0 999999999≠0)=true:=λv hv=>by
  have:=w.vr v hv;have e:aU v 0 999999999=0:=by unfold aU;rw[Tt Om]
  simp[e]
 have h0:=w.nu;unfold eS;rw[Tt (by rw[aU,Tt Om];decide),w.kd];simp only;rw[Tt (by rw[w.nl,w.vl];simp),Tt (by rw[UR];rintro⟨x,hx,h⟩;exact h1 x hx h),Tt (by rw[UR];rintro⟨x,hx,h⟩;exact h2 x hx h),Tt (by rw[w.tx];simp)]
structure Ny(n:By)(R A:fy):Prop where
 tk:A.tick<=R.tick
 ln:A.lines=R.lines.filter λx=>decide (x.name=n)
 tp:A.aJ=R.aJ
 sh:A.al=R.al.filter λx=>decide (x.line=n)
 md:A.aI=R.aI.filter λx=>decide (x.line=n)
section
variable {n:By}{R A:fy}(s:Ny n R A) (w:jl R) {e:db}{d:Kd}
include s
include w
end
section
variable {P:Program}(T:dB P) {h:af}
include T
end
def uj.add{L:List EV}(sh:uj L)(hl:L.length<2^30){x:EV}(hx:x.ev.names.length<=2^30/\x.ev.cK.length<=2^30):uj (L++[x]):=⟨by simp;omega,λy hy=>by
  rcases Tn.1 hy with hy|hy
  ·exact sh.e y hy
  ·rw[TD]at hy;rw[hy];exact hx⟩
section
variable {P:Program}(T:dB P) {h:af}
include T
def r50{L:List EV}{s:AV}(o:eA h L s)(hl:L.length<=2^30){x:EV}(ox:a8 h x):ao P 50 [s,.agg x.row] h (λv k=>eA k (L++[x]) v):=by
 refine .dU 11 T.mix T.c50 ?_;intro ts hlen t0 t1;unfold fn50 gA;have NJ:=@a8.box _ _ ox;refine Rs (A3 t0 t1 @NJ) ?_;obtain⟨W1,P1⟩:∃Z,Z=h++[ai.cells x.row true false]:=⟨_,rfl⟩;have me:W1[h.length]? =some (.cells x.row true false):=by rw[P1];exact bF
 have e1:Ext h W1:=by rw[P1];exact⟨_,rfl⟩
 rw[<-P1];have le:=@iL _ _ _ me;have bs:=@a8.FU _ _ ox;have oW:=o.ext e1;refine WR.AE (N:=W1.length) (w:=88) bF (Ts _) (oW.sl.ext Xx) (by rw[Tu];omega) λa1 y1 f1=>?_
 have p1:=f1.aN.one;obtain⟨Y,hY⟩:∃Z,Z=W1++[ai.cells [] true false]++y1:=⟨_,rfl⟩;rw[<-hY]at f1 ⊢;have eY:Ext W1 Y:=by rw[hY,Ti];exact⟨_,rfl⟩
 have le:∀{k n a},Ext Y k->au n (.ptr h.length a) (λz=>k[z]?)=dy n a (.cells x.row true false):=λ{_ _ _} e=>le (eY.trans e)
 refine Rs (A6 t0 t1 @le @cA @bs @p1) ?_;refine WR.F4 (B:=W1) (cs:=L.map EV.row) f1 rfl eY De (by rw[Tu];omega) ?_;intro W4 s4 x4 hf4 hn4 q4' l4 hk4;have hrow:L.map EV.row++[x.row]=(L++[x]).map EV.row:=by rw[Tx];rfl
 rw[hrow]at hf4;have o4:eA W4 (L++[x]) s4:=⟨hf4.aN,λy hy=>by
  rcases Tn.1 hy with hy|hy
  ·exact(oW.all y hy).ext x4
  ·rw[TD]at hy;rw[hy];exact ox.ext (e1.trans x4)⟩
 refine Rs (A2 t0 t1) ?_;exact⟨e1.trans x4,o4⟩
end
def nX(t:Int)(S:List Int)(P:List mA):fy:=⟨t,[⟨[108],1,true⟩],[⟨[116],9⟩],[⟨[115],[108],[[116]]⟩],[⟨[109],gf,[108],[]⟩],[⟨[106],[109],S⟩],P⟩
def Jb(n:Nat):List db:=[⟨1,bJ .tape,[[116]],[0,9],[]⟩,⟨2,bJ .line,[[108]],[0,1],[]⟩,⟨3,bJ .iR,[[115],[108],[116]],[1],[]⟩,⟨4,bJ .accept,[[108]],[1],[]⟩,⟨5,bJ .source,[[109],[108]],[1],[]⟩,⟨6,bJ .run,[[106],[109]],[1,(n:Int)],[]⟩]
structure nv(l:List db)(t:Int)(S:List Int)(P:List mA):Prop where
 r:(aT l).2.2=0
 w:(aT l).1.now=nX t S P
def Al{n:Nat}(h1:1<=n)(h8:n<=8):nv (Jb n) 1 (List.replicate n (-1)) []:=by
 have:n=1\/n=2\/n=3\/n=4\/n=5\/n=6\/n=7\/n=8:=Om
 rcases this with rfl|rfl|rfl|rfl|rfl|rfl|rfl|rfl<;>exact⟨by rfl,by rfl⟩
def rG{l:List db}{e:db}{d:Kd}{t:Int}{S:List Int}{P:List mA}(o:nv l t S P)(hl:l.length<900)(hn:e.num=(l.length:Int)+1)(we:r9 e d)(hd:d≠.eV)(he:iF (nX t S P) e d=0):(aT (l++[e])).2.2=0/\(aT (l++[e])).1.now=xN (nX t S P) e d:=by
 have O2:=we.mH;have hne:mH e≠.eV:=by rw[O2];exact hd
 have hb:dV (aT l).1 e=0:=by
  rw[dV,rH we,Tt (λz=>z rfl),jw,vW o.r,Tt (λz=>z hn),Tt hne,O2,o.w];exact he
 rw[mN o.r Om,Tt (λz=>z hb)];refine⟨rfl,?_⟩;rw[BF hne,o.w,O2]
def wI{l:List db}{e:db}{d:Kd}{t:Int}{S:List Int}{P:List mA}(o:nv l t S P)(hl:l.length<900)(hn:e.num=(l.length:Int)+1)(we:r9 e d)(hd:d≠.eV):pL l e=iF (nX t S P) e d:=by
 have O2:=we.mH;have hne:mH e≠.eV:=by rw[O2];exact hd
 have hb:dV (aT l).1 e=iF (nX t S P) e d:=by
  rw[dV,rH we,Tt (λz=>z rfl),jw,vW o.r,Tt (λz=>z hn),Tt hne,O2,o.w]
 rw[<-AJ,AK,Tt (λz=>z o.r),rH we,Tt (λz=>z rfl),Tt Om,mN o.r Om,hb];by_cases z:iF (nX t S P) e d=0
 ·rw[Tt (λq=>q z),z]
 ·rw[Ty z]
def yw(n:Nat)(k:Int)(q:Nat)(v:Int):db:=⟨(n:Int)+1,bJ .gJ,[[106]],[k,(q:Int),v],[]⟩
def uh(n:Nat)(k:Int)(q:Nat):db:=⟨(n:Int)+1,bJ .fail,[[106]],[k,(q:Int)],[]⟩
def yy(n:Nat)(k:Int):db:=⟨(n:Int)+1,bJ .gK,[[112],[106]],[k],[]⟩
def Hp{n:Nat}{k:Int}{q:Nat}{v:Int}(hn:n<900)(hk:0<=k/\k<=9)(hq:q<32)(hv:0<=v/\v<=999999999):r9 (yw n k q v) .gJ:=by
 refine⟨rfl,?_,rfl,rfl,?_,?_,rfl⟩
 ·exact JS
 ·intro x hx;rw[yw,TD]at hx;rw[hx];rfl
 ·intro x hx;simp only[yw,TP,Vz,UO]at hx;rcases hx with rfl|rfl|rfl<;>omega
def DQ{n:Nat}{k:Int}{q:Nat}(hn:n<900)(hk:0<=k/\k<=9)(hq:q<32):r9 (uh n k q) .fail:=by
 refine⟨rfl,?_,rfl,rfl,?_,?_,rfl⟩
 ·exact JS
 ·intro x hx;rw[uh,TD]at hx;rw[hx];rfl
 ·intro x hx;simp only[uh,TP,Vz,UO]at hx;rcases hx with rfl|rfl<;>omega
def DD{n:Nat}{k:Int}(hn:n<900)(hk:0<=k/\k<=9):r9 (yy n k) .gK:=by
 refine⟨rfl,?_,rfl,rfl,?_,?_,rfl⟩
 ·exact JS
 ·intro x hx;simp only[yy,TP,Vz,UO]at hx;rcases hx with rfl|rfl<;>rfl
 ·intro x hx;rw[yy,TD]at hx;rw[hx];omega
def FN(t:Int)(S:List Int)(P:List mA):fQ (nX t S P) [106]=⟨[106],[109],S⟩:=rfl
def Er{n:Nat}{k:Int}{q:Nat}{v t:Int}{S:List Int}(hk:t<=k)(hq:q<S.length)(hs:S.getD q 0<0):iF (nX t S []) (yw n k q v) .gJ=0:=by
 have h1:¬bW (yw n k q v) 0<(nX t S []).tick:=by show ¬k<t;omega
 have h2:kQ .gJ (nX t S []) (yw n k q v)=0:=rfl;have h3:jv (nX t S []) (yw n k q v)=0:=by
  exact Mq
 have h4:iw (nX t S []) (yw n k q v)=S.getD q 0:=by show S.getD ((q:Int)).toNat 0=_;rw[U0]
 exact Mt
def Fs{n:Nat}{k:Int}{q:Nat}{t:Int}{S:List Int}(hk:t<=k)(hq:q<S.length)(hs:0<=S.getD q 0):iF (nX t S []) (uh n k q) .fail=0:=by
 have h1:¬bW (uh n k q) 0<(nX t S []).tick:=by show ¬k<t;omega
 have h2:kQ .fail (nX t S []) (uh n k q)=0:=rfl;have h3:jv (nX t S []) (uh n k q)=0:=by
  exact Mq
 have h4:iw (nX t S []) (uh n k q)=S.getD q 0:=by show S.getD ((q:Int)).toNat 0=_;rw[U0]
 exact Mt
def zA{n:Nat}{k:Int}{t:Int}{S:List Int}(hk:t<=k):iF (nX t S []) (yy n k) .gK=if bR S 0≠[]then 32 else 0:=by
 have h1:¬bW (yy n k) 0<(nX t S []).tick:=by show ¬k<t;omega
 have h2:kQ .gK (nX t S []) (yy n k)=0:=rfl;rw[iF,Tt h1,h2,Tt (λz=>z rfl)];simp only[cX];rw[Tt (by show ¬false=true;simp)];show(if bR S 0≠[]then(32:Int)else if 16<=0 then 5 else 0)=_;rfl
def B9{n:Nat}{k:Int}{q:Nat}{t:Int}{S:List Int}{p:mA}(hk:t<=k)(hp:p.A1=[106]):iF (nX t S [p]) (uh n k q) .fail=23:=by
 have h1:¬bW (uh n k q) 0<(nX t S [p]).tick:=by show ¬k<t;omega
 have h2:kQ .fail (nX t S [p]) (uh n k q)=0:=rfl;have h3:jv (nX t S [p]) (uh n k q)=23:=by
  unfold jv;rw[Ty (by show(decide (p.A1=[106])||false)=true;rw[hp];rfl)]
 rw[iF,Tt h1,h2,Tt (λz=>z rfl)];simp only[cX];rw[h3];rfl
def rF{l:List db}{t k:Int}{S:List Int}{q:Nat}{v:Int}(o:nv l t S [])(hl:l.length<900)(hk:t<=k/\0<=k/\k<=9)(hS:S.length<=32)(hq:q<S.length)(hs:S.getD q 0<0)(hv:0<=v/\v<=999999999):nv (l++[yw l.length k q v]) k (S.set q v) []:=by
 obtain⟨a,b⟩:=rG o hl rfl (Hp hl hk.2 Om hv) De (Er hk.1 hq hs);refine⟨a,b.trans ?_⟩;show(⟨k,_,_,_,_,[⟨[106],[109],S.set ((q:Int)).toNat v⟩],[]⟩:fy)=_;rw[U0];rfl
def Cg{l:List db}{t k:Int}{S:List Int}{q:Nat}(o:nv l t S [])(hl:l.length<900)(hk:t<=k/\0<=k/\k<=9)(hS:S.length<=32)(hq:q<S.length)(hs:0<=S.getD q 0):nv (l++[uh l.length k q]) k (S.set q (-1)) []:=by
 obtain⟨a,b⟩:=rG o hl rfl (DQ hl hk.2 Om) De (Fs hk.1 hq hs);refine⟨a,b.trans ?_⟩;show(⟨k,_,_,_,_,[⟨[106],[109],S.set ((q:Int)).toNat (-1)⟩],[]⟩:fy)=_;rw[U0];rfl
def ya(S:List Int):mA:=⟨[112],[106],ia S,false⟩
def wG{l:List db}{t k:Int}{S:List Int}(o:nv l t S [])(hl:l.length<900)(hk:t<=k/\0<=k/\k<=9)(hs:bR S 0=[]):nv (l++[yy l.length k]) k S [ya S]:=by
 obtain⟨a,b⟩:=rG o hl rfl (DD hl hk.2) De (by rw[zA hk.1,hs];rfl);exact⟨a,b⟩
def wH{l:List db}{t k:Int}{S:List Int}(o:nv l t S [])(hl:l.length<900)(hk:t<=k/\0<=k/\k<=9)(hs:bR S 0≠[]):pL l (yy l.length k)=32:=by
 rw[wI o hl rfl (DD hl hk.2) De,zA hk.1,Ty hs]
def Ce{l:List db}{t k:Int}{S:List Int}{q:Nat}(o:nv l t S [ya S])(hl:l.length<900)(hk:t<=k/\0<=k/\k<=9)(hq:q<32):pL l (uh l.length k q)=23:=by
 rw[wI o hl rfl (DQ hl hk.2 hq) De,B9 hk.1 rfl]
structure pQ(M:List Int)(F:List Nat)(S:List Int):Prop where
 ln:S.length=M.length
 at_:∀q,q<M.length->S.getD q 0=if q∈F then M.getD q 0 else -1
def pQ.zero{M:List Int}:pQ M [] (List.replicate M.length (-1)):=⟨Si,λq hq=>by simp[TF,hq]⟩
def pQ.add{M:List Int}{F:List Nat}{S:List Int}(o:pQ M F S){q:Nat}(hq:q<M.length):pQ M (F++[q]) (S.set q (M.getD q 0)):=by
 refine⟨by rw[Um];exact o.ln,λr hr=>?_⟩;have h:=o.at_ r hr;have hl:=o.ln;rw[TF]at h ⊢;by_cases e:q=r
 ·subst e;rw[T2 Om];simp
 ·rw[Ua e,h];have:(r∈F++[q])↔r∈F:=by simp[Vl e]
  simp only[this]
def pQ.all{M:List Int}{F:List Nat}{S:List Int}(o:pQ M F S)(h:∀q,q<M.length->q∈F):S=M:=by
 refine List.ext_getElem o.ln λq h1 h2=>?_
 have:=o.at_ q h2;rw[Ty (h q h2),TF,TF,Tk h1,Tk h2]at this;exact this
theorem wj:∀(S:List Int) (k q:Nat),q<S.length->S.getD q 0<0->bR S k≠[]
 |[],_,_,h,_=>by cases h
 |x::S,k,0,_,h=>by
  have h:x<0:=h;rw[bR,Ty h];exactλz=>by cases z
 |x::S,k,q+1,hl,h=>by
  have:=wj S (k+1) q (by simpa using hl) (by simpa using h);rw[bR];split
  ·exactλz=>by cases z
  ·exact this
theorem n7:∀(S:List Int) (k:Nat),(∀s∈S,0<=s)->bR S k=[]
 |[],_,_=>rfl
 |x::S,k,h=>by
  have h1:=h x (T0 ..);rw[bR,Tt Om];exact n7 S _ λs hs=>h s (TK _ hs)
theorem tw:∀(S:List Int) (k q:Nat),(∀s∈S,0<=s)->q<S.length->bR (S.set q (-1)) k=[((k+q:Nat):Int)]
 |[],_,_,_,h=>by cases h
 |x::S,k,0,h,_=>by
  show bR ((-1)::S) k=_;rw[bR,Ty De,n7 S _ λs hs=>h s (TK _ hs)];rfl
 |x::S,k,q+1,h,hl=>by
  have h1:=h x (T0 ..);show bR (x::S.set q (-1)) k=_;rw[bR,Tt Om,tw S (k+1) q (λs hs=>h s (TK _ hs)) (by simpa using hl)];congr 2;omega
def Cd(t:Int)(S:List Int):lF (nX t S [ya S]) [112]=[[115]]:=rfl
def Fm(l:List Int)(i k:Nat)(hi:i<l.length)(hk:k<l.length):(l.set i l[k]).set k l[i] |>.Perm l:=List.set_set_perm hi hk
section
variable {P:Program}(T:dB P) {h:af}
include T
def r69{L:List EV}{s:AV}(hs:aA h s 5 (L.map EV.row))(hl:L.length<2^40)(k:By){sn sv:AV}(n1:sn.one=true)(v1:sv.one=true):ao P 69 [s,.str k,sv,sn] h (λv _=>v=.agg [.int .i64 ((L.length+1:Nat):Int),.str k,sn,sv,.str []]):=by
 refine .Kq 16 T.mix T.c69 ?_;intro ts hlen t0 t1 t2 t3;unfold fn69 gA;have e5:=wrapN (n:=L.length) Om;exact Rs (A8 t0 t1 t2 t3 hs.bh e5 @n1 @v1) Tv
def r68{key:Int}{n:Nat}(hk:1<=key/\key<=65536)(hn:n<=40):ao P 68 [.int .i64 key,.int .i64 n] h (λv k=>∃O:List Int,O.Perm ((List.range n).map λi:Nat=>(i:Int))/\aA k v 1 (O.map aB)):=by
 refine .dU 48 T.mix T.c68 ?_;intro ts hlen t0 t1;unfold fn68;refine Rs (A2 t0 t1) ?_;refine WL.inv T.mix (λm ts h'=>∃(i:Nat) (s:AV) (g:af),i<=n/\m=n-i/\h' =h++g/\Fr h.length h' s 1 (((List.range i).map λi:Nat=>(i:Int)).map aB)/\ts.length=48/\slot ts 0=.int .i64 key/\slot ts 1=.int .i64 n/\slot ts 5=s/\slot ts 6=.int .i64 i) n
  ⟨0,.ah,[],Om,rfl,(by rw[TH]),.nil,Sn,(Sq t0),(Sq t1),Sw,my⟩ ?_
 clear t0 t1 hlen;rintro _ ts _ ⟨i,s,g,hi,rfl,rfl,hf,hlen,t0,t1,t5,t6⟩;by_cases hlt:i<n
 ·have e3:=hX hlt;have e5:=wrapN (n:=i) Om;have hyz:aA (h++g++[ai.cells [AV.int .i64 (i:Int)] true true]) (AV.slice (h++g).length 0 1 1) 1 [aB (i:Int)]:=by
   have:=(Fr.push (N:=0) (es:=1) (h:=h++g) (TJ _) [aB (i:Int)] (λx hx=>by rw[TD]at hx;rw[hx];rfl)).aN
   simpa only[Ul,List.flatten_nil,TH,Tl,Tr,TZ]using this
  refine Rs (A5 t0 t1 t5 t6 e3) ?_;refine WR.fN (h0:=h) (cs:=((List.range i).map λi:Nat=>(i:Int)).map aB) (ys:=[aB (i:Int)]) (hf.app _) hyz De Si (by simp only[Tu,List.length_range,Tl,Tr];omega) Xx ?_;intro g' N1 hff hkp;refine Rs (A4 t0 t1 t6 e5) ?_;refine⟨_,Om,i+1,_,g',Om,rfl,rfl,?_,rfl,rfl⟩;rw[List.range_succ,Tx,Tx];exact hff
 ·have e3:=jf hlt;obtain rfl:i=n:=Om
  have w0:IntKind.i64.wrap ((i:Int)-1)=(i:Int)-1-(0:Nat):=by rw[aR Om Om];omega
  refine Rs (A6 t0 t1 t5 t6 e3 @w0) ?_;refine WL.inv T.mix (λm ts h'=>∃(j:Nat) (x:Int) (O:List Int) (g:af),j<=i/\m=i-j/\h' =h++g/\0<=x/\x<2147483647/\O.Perm ((List.range i).map λi:Nat=>(i:Int))/\Fr h.length h' s 1 (O.map aB)/\ts.length=48/\slot ts 1=.int .i64 i/\slot ts 5=s/\slot ts 7=.int .i64 x/\slot ts 8=.int .i64 ((i:Int)-1-j)) i
   ⟨0,key,_,g,Om,rfl,rfl,Om,Om,.refl _,hf,Sn,(Sq t1),(Sq t5),(Sq t0),Sw⟩ ?_
  clear t0 t1 t5 t6 hlen hf e3 w0 g;rintro _ ts _ ⟨j,x,O,g,hj,rfl,rfl,hx0,hx1,hO,hf,hlen,t1,t5,t7,t8⟩;have hOl:O.length=i:=by have:=hO.length_eq;simpa using this
  by_cases hlj:j<i
  ·have e3:decide ((0:Int)<=(i:Int)-1-j)=true:=Tq Om;obtain⟨q,hq⟩:∃q:Nat,(i:Int)-1-j=(q:Int):=⟨i-1-j,Om⟩;have hqi:q<O.length:=Om
   have w1:IntKind.i64.wrap (742938285*x)=742938285*x:=aR Om Om;have r1:=ji (k:=.i64) (a:=742938285*x) (b:=2147483647) De;obtain⟨y,hy⟩:∃y,y=(742938285*x).tmod 2147483647:=⟨_,rfl⟩;have hy0:0<=y:=by rw[hy];exact Int.tmod_nonneg _ Om
   have PI:y<2147483647:=by rw[hy];exact Vn _ Om
   rw[<-hy]at r1;have w2:=wrapN (n:=q) Om;have r2:=ji (k:=.i64) (a:=y) (b:=((q+1:Nat):Int)) Om;obtain⟨k,hk⟩:∃k:Nat,y.tmod ((q+1:Nat):Int)=(k:Int):=⟨(y.tmod ((q+1:Nat):Int)).toNat,by rw[Int.toNat_of_nonneg (Int.tmod_nonneg _ hy0)]⟩;have hkq:k<=q:=by have:=Vn y (b:=((q+1:Nat):Int)) Om;omega
   rw[hk]at r2;have R9:k<O.length:=Om
   have iq:=hf.aN.eX (kk:=.i64) hqi;have ik:=hf.aN.eX (kk:=.i64) R9;have lq:au none (dG s 1 q) (λb=>(h++g)[b]?)=some (.int .i64 O[q],.aq):=hf.aN.kV hqi rfl (Ext.refl _);have lk:au none (dG s 1 k) (λb=>(h++g)[b]?)=some (.int .i64 O[k],.aq):=hf.aN.kV R9 rfl (Ext.refl _);have w3:IntKind.i64.wrap ((q:Int)-1)=(i:Int)-1-((j+1:Nat):Int):=by rw[aR Om Om];omega
   rw[hq]at t8 e3;refine Rs (GG t1 t5 t7 t8 e3 @w1 @r1 @w2 @r2 @iq @ik @lq @lk) ?_;refine WR.rm (h0:=h) (L:=O) (row:=aB) (x':=O[k]) (i:=q) (es:=1) (off:=0) hf hqi De rfl rfl ?_;intro g' NY Ri hk';have hki2:k<(O.set q O[k]).length:=by rw[Um];exact R9
   have ik2:=Ri.aN.eX (kk:=.i64) hki2;refine Rs (A5 t1 t5 t7 t8 @ik2) ?_;refine WR.rm (h0:=h) (L:=O.set q O[k]) (row:=aB) (x':=O[q]) (i:=k) (es:=1) (off:=0) Ri hki2 De rfl rfl ?_;intro g2 Qv PB NG;refine Rs (A5 t1 t5 t7 t8 @w3) ?_;exact⟨_,Om,j+1,y,_,g2,Om,rfl,rfl,hy0,PI,(Fm O q k hqi R9).trans hO,PB,rfl,rfl⟩
  ·have e3:decide ((0:Int)<=(i:Int)-1-j)=false:=Tm Om;refine Rs (A5 t1 t5 t7 t8 e3) ?_;exact⟨O,hO,hf.aN⟩
end
def v7{l:List db}{t:Nat}{n:By}(h:(aT l).2.2=0)(hh:n∈Es (aT l).1.now t):eF l t n=((aT l).1.now,0):=by
 have:ez (aT l).1.now t n=true:=Tq hh;rw[eF,Tt (λz=>z h),this];rfl
def xU{l:List db}{n:By}(h:(aT l).2.2=0)(hh:n∈hC (aT l).1.now):qC l n=(bR (fQ (aT l).1.now n).bQ 0,0):=by
 unfold qC;rw[v7 (t:=4) h hh];exact Tt (λz=>z rfl)
def xL{l:List db}{n:By}(h:(aT l).2.2=0)(hh:n∈kP (aT l).1.now):sW l n=(lF (aT l).1.now n,0):=by
 unfold sW;rw[v7 (t:=5) h hh];exact Tt (λz=>z rfl)
end Go.Abs
