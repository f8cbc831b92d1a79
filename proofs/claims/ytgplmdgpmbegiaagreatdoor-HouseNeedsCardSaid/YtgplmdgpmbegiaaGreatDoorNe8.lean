/- A part of the proof that HouseNeeds holds. No condition. -/
import Derived.Test.YtgplmdgpmbegiaaGreatDoorNe7
import Derived.Lib.Bytealg
import Derived.Test.YtgplmdgpmbegiaaGreatDoorNe6
import Derived.Lib.ItoaNum
import Derived.Lib.ItoaLen
import Derived.Lib.ItoaMem
import Derived.Lib.Join
import Derived.Test.YtgplmdgpmbegiaaGreatDoorNe0
set_option maxHeartbeats 4000000
set_option linter.all false
open Nat (reduceAdd reduceMul reduceLeDiff reduceEqDiff)
namespace Go.Abs
def ne_self{α:Type}[DecidableEq α](a:α):decide (a≠a)=false:=Si
def fV(R:dA):List dN->List dA
 |[]=>[]
 |e::l=>iw R e (kE e)::fV (iw R e (kE e)) l
def EX(R:dA):List dN->Prop
 |[]=>True
 |e::l=>(∃d,jY e d/\d≠.eV)/\gL R e (kE e)=0/\EX (iw R e (kE e)) l
theorem lK:∀(l:List dN) (R:dA) (e:dN),fV R (l++[e])=fV R l++[iw ((fV R l).getLastD R) e (kE e)]
 |[],R,e=>rfl
 |x::l,R,e=>by
  rw[aaS,fV,fV,lK l,List.getLastD_cons];rfl
theorem rB:∀(l:List dN) (R:dA) (e:dN),EX R (l++[e])↔EX R l/\(∃d,jY e d/\d≠.eV)/\gL ((fV R l).getLastD R) e (kE e)=0
 |[],R,e=>by simp[EX,fV]
 |x::l,R,e=>by
  rw[aaS,EX,EX,rB l,fV,List.getLastD_cons];exact⟨λ⟨a,b,c,d,f⟩=>⟨⟨a,b,c⟩,d,f⟩,λ⟨⟨a,b,c⟩,d,f⟩=>⟨a,b,c,d,f⟩⟩
def kI{α:Type}(l:List α):l=[]\/∃m x,l=m++[x]:=by
 rcases List.eq_nil_or_concat l with h|⟨m,x,h⟩
 ·exact .inl h
 ·exact .inr ⟨m,x,by rw[h,List.concat_eq_append]⟩
structure HF(H:iK):Prop where
 rg:H.cM=fV dA.zero H.e8
 ok:EX dA.zero H.e8
theorem HF.zero:HF iK.zero:=⟨rfl,trivial⟩
def HF.add{H:iK}{e:dN}(c:HF H)(w:kY H)(h:fJ H e=0):HF (kX H e):=by
 obtain⟨h1,h2⟩:=DF h;obtain⟨d,we⟩:=uy h1;obtain⟨h3,h4,h5⟩:=DR h2;unfold kX;split
 case isTrue hu=>
  rcases kI H.e8 with hn|⟨m,x,hm⟩
  ·exact absurd hn (h4 hu)
  ·have e1:=c.rg;have e2:=c.ok;rw[hm,lK]at e1;rw[hm,rB]at e2;exact⟨by rw[e1,hm,List.dropLast_concat,List.dropLast_concat],by rw[hm,List.dropLast_concat];exact e2.1⟩
 case isFalse hu=>
  have U8:H.now=(fV dA.zero H.e8).getLastD dA.zero:=by rw[iK.now,c.rg]
  refine⟨?_,?_⟩
  ·show H.cM++_=fV dA.zero (H.e8++[e]);rw[lK,<-U8,c.rg]
  ·show EX dA.zero (H.e8++[e]);rw[rB,<-U8];exact⟨c.ok,⟨d,we,λz=>hu (by rw[we.kE,z])⟩,h5 hu⟩
theorem y8:∀(l:List dN) (H:iK) (i:Nat),HF H->kY H->(jC H l i).2.2=0->HF (jC H l i).1/\kY (jC H l i).1
 |[],H,_,c,w,_=>⟨c,w⟩
 |e::l,H,i,c,w,h=>by
  rw[jC]at h ⊢;by_cases hb:fJ H e=0
  ·rw[ZN (λz=>z hb)]at h ⊢;exact y8 l _ _ (c.add w hb) (w.add hb) h
  ·rw[ZS hb]at h;exact absurd h hb
def ub{l:List dN}(h:(bF l).2.2=0):HF (bF l).1/\kY (bF l).1:=by
 unfold bF at h ⊢;split at h
 ·exact absurd h De
 case isFalse hl=>
 rw[ZN hl];exact y8 l _ _ .zero .zero h
def iO(l:List dN)(n:Int):Bool:=decide ((l.length:Int)<=n)&&l.all λe=>decide (e.kind.length<=40)&&decide (e.names.length<=6)&&decide (e.cB.length<=8)&&decide (e.text.length<=200)&&e.names.all λx=>decide (x.length<=40)
def bM(c:UInt8):By->List (By)
 |[]=>[[]]
 |x::r=>
  if x=c then []::bM c r
  else match bM c r with
   |p::ps=>(x::p)::ps
   |[]=>[[x]]
def j6{c:UInt8}:∀{s:By},bM c s≠[]
 |[]=>by simp[bM]
 |x::r=>by
  unfold bM;split
  ·simp
  ·split<;>simp
theorem tf{c:UInt8}:∀{s:By},c∉s->bM c s=[s]
 |[],_=>rfl
 |x::r,h=>by
  unfold bM;rw[ZN (λe=>h (by simp[e])),tf (λhr=>h (Z8 _ hr))]
theorem rk{c:UInt8}{q:By}:∀{p:By},c∉p->bM c (p++c::q)=p::bM c q
 |[],_=>by simp[bM]
 |x::r,h=>by
  rw[aaS,bM,ZN (λe=>h (by simp[e])),rk (λhr=>h (Z8 _ hr))]
theorem rj{c:UInt8}:∀{s:By},(bM c s).length=s.count c+1
 |[]=>rfl
 |x::r=>by
  have ih:=rj (c:=c) (s:=r);unfold bM;by_cases h:x=c
  ·subst h;rw[ZS rfl,ZG,ih,List.count_cons_self]
  ·rw[ZN h,List.count_cons_of_ne h];cases hs:bM c r with
   |nil=>exact absurd hs j6
   |cons p ps=>rw[hs]at ih;simpa using ih
theorem tg{c:UInt8}:∀{s:By},∀p∈bM c s,p.length<=s.length
 |[]=>by simp[bM]
 |x::r=>by
  have ih:=tg (c:=c) (s:=r);intro p hp;unfold bM at hp;rw[ZG];by_cases h:x=c
  ·rw[ZS h]at hp;rcases aag.1 hp with rfl|hp
   ·simp
   ·have:=ih p hp;omega
  ·rw[ZN h]at hp;cases hs:bM c r with
   |nil=>exact absurd hs j6
   |cons q qs=>
    rw[hs]at hp ih;rcases aag.1 hp with rfl|hp
    ·have:=ih q Si;rw[ZG];omega
    ·have:=ih p (by simp[hp]);omega
def jv(c:UInt8):List (By)->By
 |[]=>[]
 |[p]=>p
 |p::ps=>p++c::jv c ps
def nH{c:UInt8}{p:By}{r:List (By)}(h:r≠[]):jv c (p::r)=p++c::jv c r:=by
 cases r with
 |nil=>exact absurd rfl h
 |cons=>rfl
theorem jO{c:UInt8}:∀{s:By},jv c (bM c s)=s
 |[]=>rfl
 |x::r=>by
  have ih:=jO (c:=c) (s:=r);unfold bM;by_cases h:x=c
  ·subst h;rw[ZS rfl];cases hs:bM x r with
   |nil=>exact absurd hs j6
   |cons p ps=>rw[hs]at ih;rw[jv,ih]<;>simp
  ·rw[ZN h];cases hs:bM c r with
   |nil=>exact absurd hs j6
   |cons p ps=>
    rw[hs]at ih;cases ps with
    |nil=>rw[jv]at ih ⊢;rw[ih]
    |cons q qs=>
     rw[jv]at ih ⊢<;>first|(rw[<-ih];rfl)|simp
theorem He{c:UInt8}:∀{s:By},c∉s->Lib.indexByte s c= -1
 |[],_=>rfl
 |x::r,h=>by
  unfold Lib.indexByte;have h1:(x==c)=false:=by simp;exactλe=>h (by simp[e])
  rw[h1,He (λhr=>h (Z8 _ hr))];rfl
theorem C8{c:UInt8}{q:By}:∀{p:By},c∉p->Lib.indexByte (p++c::q) c=p.length
 |[],_=>by simp[Lib.indexByte]
 |x::r,h=>by
  have ih:=C8 (q:=q) (λhr=>h (Z8 _ hr):c∉r);rw[aaS,Lib.indexByte];have h1:(x==c)=false:=by simp;exactλe=>h (by simp[e])
  rw[h1,ih];have h2:((r.length:Int) == -1)=false:=Si
  rw[h2];simp
def wv(c:UInt8)(s:By):(c∉s/\Lib.indexByte s c= -1)\/∃p q,c∉p/\s=p++c::q/\Lib.indexByte s c=p.length:=by
 by_cases h:c∈s
 ·right
  obtain⟨p,q,rfl,hp⟩:=List.eq_append_cons_of_mem h;exact⟨p,q,hp,rfl,C8 hp⟩
 ·exact .inl ⟨h,He h⟩
def Ds(s:By):Int:=s.foldl (λn c=>10*n+((c.toNat:Int)-48)) 0
def iU(s:By):Bool:=!decide (s.length=0)&&decide (s.length<=9) && !(decide (1<s.length)&&decide (s.head? =some 48))&&s.all fo
def rX(s:By):Bool:=!decide (s=[])&&s.all fo
def lE(s:By):Int:=if iU s then Ds s else 0
def FD:Nat->Nat->By
 | 0,u=>[UInt8.ofNat (48+u)]
 |f+1,u=>
  match Nat.blt u 10 with
  |true=>[UInt8.ofNat (48+u)]
  |false=>FD f (u / 10)++[UInt8.ofNat (48+u%10)]
theorem zJ:∀(f u:Nat),u<10^(f+1)->FD f u=Lib.decDigits u
 | 0,u,h=>by rw[Lib.decDigits,dif_pos (by simpa using h)];rfl
 |f+1,u,h=>by
  unfold FD;cases hb:Nat.blt u 10 with
  |true=>rw[Lib.decDigits,dif_pos (by rw[Nat.blt_eq]at hb;exact hb)]
  |false=>
   have hn:¬u<10:=λx=>by rw[<-Nat.blt_eq,hb]at x;cases x
   rw[Lib.decDigits,dif_neg hn,zJ f (u / 10) (by rw[Nat.pow_succ]at h;omega)]
def jP(n:Int):By:=FD n.toNat n.toNat
def kU(n:Int):jP n=Lib.decDigits n.toNat:=zJ _ _ (Nat.lt_trans (Nat.lt_succ_self _) (Nat.lt_pow_self De))
def iL(s:By):Int:=s.foldl (λx c=>(339*x+(c.toNat:Int)).tmod 9999749) 1
def nR(s:By):By:=List.replicate (7-(jP (iL s)).length) 48++jP (iL s)
def wZ(e:dN):List (By):=[jP e.num,e.kind]++e.names++e.cB.map jP
def iV(e:dN):By:=jv 32 (wZ e)
def vC(e:dN):By:=iV e++[35]++nR (iV e)++[10]
def v8(l:List dN):By:=(l.map vC).flatten
def bT:List (By)->Bool->By×List (By)×Bool
 |[],_=>([],[],true)
 |w::r,wr=>if w=[]then([],[],true)else(w,r,wr)
def de:Nat->List (By)->Bool->List (By)×List (By)×Bool
 | 0,ws,b=>([],ws,b)
 |n+1,ws,b=>((bT ws b).1:: (de n (bT ws b).2.1 (bT ws b).2.2).1,(de n (bT ws b).2.1 (bT ws b).2.2).2)
def fE:Nat->List (By)->Bool->List Int×List (By)×Bool
 | 0,ws,b=>([],ws,b)
 |n+1,ws,b=>(lE (bT ws b).1:: (fE n (bT ws b).2.1 ((bT ws b).2.2 || !iU (bT ws b).1)).1,(fE n (bT ws b).2.1 ((bT ws b).2.2 || !iU (bT ws b).1)).2)
def lP:dN:=⟨0,[],[],[],[]⟩
def eJ(ws:List (By)):dN×Bool:=
 match gU (bT ws false).1 with
 |none=>(lP,false)
 |some d=>
  let n:=de (bJ d).length (bT ws false).2.1 (bT ws false).2.2
  let v:=fE (cD d) n.2.1 n.2.2
  (⟨0,bz d,n.1,v.1,[]⟩,!v.2.2&&decide (v.2.1.length=0))
def fp(c:UInt8):By->By×By×Bool
 |[]=>([],[],false)
 |x::r=>if x=c then([],r,true)else(x:: (fp c r).1,(fp c r).2)
def fY(s:By)(n:Int):dN×Int:=
 if s.length<8 then(lP,25)else
 if s.getD (s.length-8) 0≠35\/¬rX (s.drop (s.length-7))=true then(lP,25)else
 if nR (s.take (s.length-8))≠s.drop (s.length-7)then(lP,27)else
 let h:=fp 32 (s.take (s.length-8))
 let e:=eJ (bM 32 h.2.1)
 if !iU h.1 || !e.2||decide (gW {e.1 with num:=lE h.1}≠0)then(lP,25)else
 ({e.1 with num:=lE h.1},cA (decide (lE h.1≠n)) 11)
def rz:Nat->By->List dN->Nat->List dN×Int×Int
 | 0,_,l,a=>(l,(a:Int),0)
 |f+1,s,l,a=>
  if s=[]then(l,(a:Int),0)else
  if !(fp 10 s).2.2 then(l,(a:Int),28)else
  let e:=fY (fp 10 s).1 ((l.length:Int)+1)
  if e.2≠0 then(l,(a:Int),e.2)else rz f (fp 10 s).2.1 (l++[e.1]) (a+(fp 10 s).1.length+1)
def lL(s:By):List dN×Int×Int:=if 1000000<s.length then([],0,26)else rz (s.length+1) s [] 0
def lD(w:By):Option (Nat×Bool×Nat):=
 if w=[108,101,102,116]then some (0,true,4)else
 if w=[102,114,111,109]then some (1,true,5)else
 if w=[108,105,110,101,115]then some (2,true,3)else
 if w=[117,110,115,97,102,101]then some (3,false,2)else
 if w=[116,97,112,101,115]then some (4,true,2)else
 if w=[114,101,108,101,97,115,101,100]then some (5,false,5)else
 if w=[119,97,110,116]then some (6,true,0)else none
def sK(l:List nP):List (By):=(l.map λp=>if p.rel then [p.name,jP p.iQ]else []).flatten
def kV(R:dA)(n:By):Nat->List (By)
 | 0=>(cI (cW R n).bd 0).map jP
 | 1=>gD R n
 | 2=>(dV R n).map dX.name
 | 3=>kG R R.tick
 | 4=>(rm R n).aG
 | 5=>sK R.aJ
 |_=>[jP (rC R n).length,jP (dq R n).want,if(dq R n).acc then [97,99,99,101,112,116,101,100]else [111,112,101,110]]
def yG(l:List (By)):By:=if l=[]then [110,111,110,101]else jv 32 l
def nM(R:dA)(ws:List (By))(q:Nat×Bool×Nat):By×Int:=
 let n:=if q.2.1=true/\ws.length=2 then ws.getD 1 []else []
 if(q.2.1=true/\¬(ws.length=2/\n≠[]))\/(q.2.1=false/\ws.length≠1)then([],25)else
 if q.2.1=true/\dW R q.2.2 n=false then([],10)else(yG (kV R n q.1),0)
def AS(H:iK)(s:By):iK×By×Int:=
 if 4096<s.length then(H,[],26)else
 if s=[]then(H,[],25)else
 match lD ((bM 32 s).headD [])with
 |some q=>(H,nM H.now (bM 32 s) q)
 |none=>
  match gU ((bM 32 s).headD [])with
  |none=>(H,[],13)
  |some _=>
   if !(eJ (bM 32 s)).2 then(H,[],25)else
   if 1000<=H.da.length then(H,[],5)else
   let e:={ (eJ (bM 32 s)).1 with num:=(H.da.length:Int)+1}
   if fJ H e≠0 then(H,[],fJ H e)else(kX H e,[100,111,110,101,32]++jP e.num,0)
structure DT(P:Program):Prop where
 ib:∀(args:Array Value) (w:World),(callFunc 288 args).run P w=((Extern.BytealgIndexByte.indexByte args).run P w).andThen λv w'=>.ok (.value v) w'
 ct:∀(args:Array Value) (w:World),(callFunc 262 args).run P w=((Extern.BytealgCount.count args).run P w).andThen λv w'=>.ok (.value v) w'
def BM(c:UInt8):(c.toNat:Int).toNat.toUInt8=c:=Si
def rl{s}{n:Nat}{kk}(hn:n<=s.length):vk (.str s) none (some (.int kk (n:Int)))=some (.str (s.take n)):=by
 simp only[vk,jQ hn,aa0,Nat.sub_zero]
def kJ{s}{n:Nat}{kk}(hn:n<=s.length):vk (.str s) (some (.int kk (n:Int))) none=some (.str (s.drop n)):=by
 simp only[vk,mI hn];rw[aal Si]
def tZ{p r kk}:vk (.str (p++r)) none (some (.int kk (p.length:Int)))=some (.str p):=by
 rw[rl Si];simp
def nX{p r c kk}:vk (.str (p++c::r)) (some (.int kk ((p.length+1:Nat):Int))) none=some (.str r):=by
 rw[kJ Si];simp
def y3{α:Type}{don:List α}{z q:α}{m k:Nat}(hk:don.length=k)(hm:0<m):(don++List.replicate m z).set k q=(don++[q])++List.replicate (m-1) z:=by
 subst hk;obtain⟨n,rfl⟩:∃n,m=n+1:=⟨m-1,Om⟩;rw[abe,aaA _ _ (ZO _),aaG];simp
section
variable {P:Program}(X:DT P) {h:ah}
include X
def Oh(s:By)(c:UInt8):bE P (.func (.func 288) [] []) [.str s,.int .u8 c.toNat] h (λv h'=>v=.int .i64 (Lib.indexByte s c)/\h' =h):=by
 refine⟨_,[],?_,rfl,Si⟩;rw[Z6];intro m w cv vs hr hf hargs;rw[VR]at hf;obtain⟨f',a',c',rfl,hfn,ha,hc⟩:=hf;simp only[Bu]at hfn;subst hfn;rw[bB]at ha hc;subst ha;subst hc;obtain⟨v1,vs1,rfl,h1,hargs⟩:=aQ.1 hargs;obtain⟨v2,vs2,rfl,h2,hargs⟩:=aQ.1 hargs;rw[bB]at hargs;subst hargs;have h1:v1=.string ⟨⟨s⟩⟩:=h1;have h2:v2=.int .u8 (c.toNat:Int):=h2;subst h1;subst h2;refine⟨_,λw=>rfl,?_⟩;simp only[invoke];rw[X.ib];have e:=Lib.run_indexByteString (P:=P) ⟨⟨s⟩⟩ (c.toNat:Int) w;rw[BM]at e;have e':(Extern.BytealgIndexByte.indexByte (#[]++#[.string ⟨⟨s⟩⟩,.int .u8 (c.toNat:Int)]++#[])).run P w=.ok (.int .i64 (Lib.indexByte s c)) w:=by simpa using e
 exact z53
def Oi(s:By)(c:UInt8):bE P (.func (.func 262) [] []) [.str s,.int .u8 c.toNat] h (λv h'=>v=.int .i64 (s.count c:Nat)/\h' =h):=by
 refine⟨_,[],?_,rfl,Si⟩;rw[Z6];intro m w cv vs hr hf hargs;rw[VR]at hf;obtain⟨f',a',c',rfl,hfn,ha,hc⟩:=hf;simp only[Bu]at hfn;subst hfn;rw[bB]at ha hc;subst ha;subst hc;obtain⟨v1,vs1,rfl,h1,hargs⟩:=aQ.1 hargs;obtain⟨v2,vs2,rfl,h2,hargs⟩:=aQ.1 hargs;rw[bB]at hargs;subst hargs;have h1:v1=.string ⟨⟨s⟩⟩:=h1;have h2:v2=.int .u8 (c.toNat:Int):=h2;subst h1;subst h2;refine⟨_,λw=>rfl,?_⟩;simp only[invoke];rw[X.ct];have e:=Lib.run_countString (P:=P) ⟨⟨s⟩⟩ (c.toNat:Int) w;rw[BM]at e;have e':(Extern.BytealgCount.count (#[]++#[.string ⟨⟨s⟩⟩,.int .u8 (c.toNat:Int)]++#[])).run P w=.ok (.int .i64 (s.count c:Nat)) w:=by simpa [Lib.countByte]using e
 exact z53
end
attribute [local irreducible] WP WC WE WB WR WF WL WG gk
section
variable {P:Program}(T:fy P) (X:DT P) {h:ah}
include T X
def r272(s:By)(c:UInt8):aA P 272 [.str s,.int .u8 c.toNat] h (λv _=>v=.int .i64 (Lib.indexByte s c)):=by
 refine .of T.mix T.c272 ?_;unfold fn272 Li;refine Wn ?_;refine WF.val (Oh X s c) ?_;rintro _ g ⟨rfl,hg⟩;exact Wn Tv
def r221(s:By)(c:UInt8):aA P 221 [.str s,.str [c]] h (λv _=>v=.int .i64 (s.count c:Nat)):=by
 refine .of T.mix T.c221 ?_;unfold fn221 gA;simp only[aS,aW,bo,bp,reduceAdd,reduceMul,reduceLeDiff,reduceEqDiff,Z4,show decide (((1:Nat):Int)=0)=false from rfl,show decide (((1:Nat):Int)=1)=true from rfl,wq];refine WF.val (Oi X s c) ?_;rintro _ g ⟨rfl,hg⟩;exact Wn Tv
def r253(s:By)(c:UInt8):aA P 253 [.str s,.str [c]] h (λv _=>v=.int .i64 (Lib.indexByte s c)):=by
 refine .of T.mix T.c253 ?_;unfold fn253 gA;by_cases hs:[c]=s
 ·have d1:decide ([c]=s)=true:=ZI hs;have e:Lib.indexByte s c=0:=by rw[<-hs];simp[Lib.indexByte]
  simp only[aS,aW,bo,bp,reduceAdd,reduceMul,reduceLeDiff,reduceEqDiff,Z4,show decide (((1:Nat):Int)=0)=false from rfl,d1,e]
 ·have d1:decide ([c]=s)=false:=ZD hs;simp only[aS,aW,bo,bp,reduceAdd,reduceMul,reduceLeDiff,reduceEqDiff,Z4,show decide (((1:Nat):Int)=0)=false from rfl,show decide (((1:Nat):Int)=1)=true from rfl,d1,wq];refine WF.ce T.c272 (r272 T X s c) λg=>?_
  exact Wn Tv
def r222(s:By)(c:UInt8):aA P 222 [.str s,.str [c]] h (λv _=>v=.int .i64 (Lib.indexByte s c)):=by
 refine .of T.mix T.c222 ?_;unfold fn222 gA;refine Wn ?_;refine WF.ce T.c253 (r253 T X s c) λg=>?_
 exact Wn Tv
set_option maxRecDepth 10000 in
def r128(s:By)(c:UInt8)(hs:s.length<=2^40):aA P 128 [.str s,.str [c],.int .i64 0,.int .i64 (-1)] h (λv h'=>aH h' v 1 ((bM c s).map ao)):=by
 refine .of T.mix T.c128 ?_;obtain⟨ts,Sv⟩:∃ts,ts=aT 66 [.str s,.str [c],.int .i64 0,.int .i64 (-1)]:=⟨_,rfl⟩;have hlen:ts.length=66:=by rw[Sv];rfl
 have t0:slot ts 0=.str s:=by rw[Sv];rfl
 have t1:slot ts 1=.str [c]:=by rw[Sv];rfl
 have t2:slot ts 2=.int .i64 0:=by rw[Sv];rfl
 have t3:slot ts 3=.int .i64 (-1):=by rw[Sv];rfl
 unfold fn128 gA;show WC P bN _ [] (aT 66 [.str s,.str [c],.int .i64 0,.int .i64 (-1)]) h _;rw[<-Sv];clear Sv;have hcnt:s.count c<=s.length:=List.count_le_length;have w1:IntKind.i64.wrap ((s.count c:Int)+1)=((s.count c+1:Nat):Int):=by rw[bj Om Om];omega
 have w2:IntKind.i64.wrap ((s.length:Int)+1)=((s.length+1:Nat):Int):=by rw[bj Om Om];omega
 have e1:min ((s.count c+1:Nat):Int) ((s.length+1:Nat):Int)=((s.count c+1:Nat):Int):=Om
 have w3:IntKind.i64.wrap (((s.count c+1:Nat):Int)-1)=((s.count c:Nat):Int):=by rw[bj Om Om];omega
 have dn:decide ([c]=([] :By))=false:=ZD Si;have d1:decide ((-1:Int)=0)=false:=rfl;have d2:decide (-1<(0:Int))=true:=rfl;refine Rs (A7 t0 t1 t2 t3 @dn @d1 @d2) ?_;refine WF.ce T.c221 (r221 T X s c) λg1=>?_
 repeat (first|simp (config:={maxSteps:=1000000}) only[aS,aW,bo,bp,reduceAdd,reduceMul,reduceLeDiff,reduceEqDiff,bw,hlen,ZY,Z1,t0,t1,t2,t3,w1,w2,e1,w3,om (es:=1) (w:=16) (N0:=(h++g1).length) (n:=s.count c+1) (z:=[AV.str []]) (k:=.i64) (k':=.i64) Om Om]|simp (config:={maxSteps:=1000000}) (disch:=first|(simp only[ZB,ZG,ZJ]<;>omega)|rfl|omega|fail) only[fN,aS,aW,bo,bp,reduceAdd,reduceMul,reduceLeDiff,reduceEqDiff,bw,hlen,ZY,Z1,t0,t1,t2,t3,w1,w2,e1,w3,om (es:=1) (w:=16) (N0:=(h++g1).length) (n:=s.count c+1) (z:=[AV.str []]) (k:=.i64) (k':=.i64) Om Om])
 have hF:=Fr.BG (N:=h.length) (n:=s.count c+1) (h:=h++g1) (z:=[AV.str []]) (es:=1) Si rfl;obtain⟨sv,hsv⟩:∃sv,sv=AV.slice (h++g1).length 0 (s.count c+1) 1:=⟨_,rfl⟩;rw[<-hsv]at hF ⊢;have er:List.replicate (s.count c+1) [AV.str []]=(List.replicate (s.count c+1) ([] :By)).map ao:=by simp[ao]
 rw[er,ZE]at hF;rw[ZE];refine WL.inv T.mix (λn ts' h'=>∃(k:Nat) (don:List (By)) (q:By) (g':ah),don.length=k/\bM c s=don++bM c q/\k+q.count c=s.count c/\n=s.count c-k/\h' =h++g'/\Fr h.length h' sv 1 ((don++List.replicate (s.count c+1-k) ([] :By)).map ao)/\ts'.length=66/\slot ts' 0=.str q/\slot ts' 1=.str [c]/\slot ts' 2=.int .i64 0/\slot ts' 3=.int .i64 ((s.count c:Nat):Int)/\slot ts' 9=sv/\slot ts' 10=.int .i64 k) (s.count c)
  ⟨0,[],s,_,rfl,rfl,Om,rfl,rfl,hF,(Sq t0),(Sq t0),(Sq t1),(Sq t2),(Sq t0),(Sq t0),gP⟩ ?_
 rintro _ ts' _ ⟨k,don,q,g',hdl,Xg,hkc,rfl,rfl,hF',TN,u0,u1,u2,u3,u9,YF⟩;clear hlen t0 t1 t2 t3;have hlen:=TN;have Xm:k<(don++List.replicate (s.count c+1-k) ([] :By)).length:=by simp;omega
 have hql:q.length<=s.length:=by
  have e1:=jO (c:=c) (s:=s);have:∀(d:List (By)) (z:List (By)),(jv c z).length<=(jv c (d++z)).length:=by
   intro d
   induction d with
   |nil=>intro z;exact ZO _
   |cons x d ih=>
    intro z;by_cases hz:d++z=[]
    ·have:z=[]:=by simp at hz;exact hz.2
     subst this;simp[jv]
    ·rw[aaS,nH hz];have:=ih z;simp;omega
  have:=this don (bM c q);rw[<-Xg,jO,jO]at this;exact this
 rcases wv c q with⟨hno,hix⟩|⟨p,q',hp,hq,hix⟩
 ·have hc0:q.count c=0:=List.count_eq_zero.2 hno;have e3:¬(k:Int)<((s.count c:Nat):Int):=Om
  have ek:s.count c+1-k=1:=Om
  have ixk:=hF'.aX.dE (kk:=.i64) Xm;have w4:IntKind.i64.wrap ((k:Int)+1)=((k+1:Nat):Int):=by rw[bj Om Om];omega
  refine Rs (A9 @u0 @u1 @u2 @u3 @u9 @YF e3 @Z9 @ixk) ?_;refine WR.vE (h0:=h) (off:=0) (x':=q) hF' Xm De rfl (by simp[ao]) ?_;intro g3 Zh Yw _;rw[y3 hdl Om,ek]at Yw;simp only[aaG,ab3,Z6]at Yw;have esp:don++[q]=bM c s:=by rw[Xg,tf hno]
  rw[esp]at Yw;have UI:jg none (some (AV.int .i64 ((k+1:Nat):Int))) (bM c s).length=some (0,k+1):=jQ (by rw[<-esp];simp;omega);obtain⟨s',es',Sx⟩:=Yw.aX.GR UI;refine Rs (A8 @u0 @u1 @u2 @u3 @u9 @YF @w4 @es') ?_;have et:List.take (k+1-0) (List.drop 0 (bM c s))=bM c s:=by
   rw[aa0,aal (by rw[<-esp];simp;omega)]
  rw[et]at Sx;exact Sx
 ·have hcq:q.count c=q'.count c+1:=by rw[hq,List.count_append,List.count_eq_zero.2 hp,List.count_cons_self];omega
  have e3:(k:Int)<((s.count c:Nat):Int):=Om
  refine Rs (A8 @u0 @u1 @u2 @u3 @u9 @YF e3 @Z5) ?_;refine WF.ce T.c222 (r222 T X q c) λg2=>?_
  have ixk:=(hF'.app g2).aX.dE (kk:=.i64) Xm;have w4:IntKind.i64.wrap ((k:Int)+1)=((k+1:Nat):Int):=by rw[bj Om Om];omega
  have U5:p.length<q.length:=by rw[hq];simp
  have w5:IntKind.i64.wrap ((p.length:Int)+0)=(p.length:Int):=by rw[bj Om Om];omega
  have w6:IntKind.i64.wrap ((p.length:Int)+((1:Nat):Int))=((p.length+1:Nat):Int):=by rw[bj Om Om];omega
  have dp:decide ((p.length:Int)<0)=false:=ZD Om;have hF2:=hF'.app g2;rw[ZE]at hF2 ⊢;rw[hix];subst hq
  repeat (first|simp (config:={maxSteps:=1000000}) only[aS,aW,bo,bp,reduceAdd,reduceMul,reduceLeDiff,reduceEqDiff,bw,hlen,ZY,Z1,u0,u1,u2,u3,u9,YF,dp,w5,ixk,tZ,Z4,w6,nX]|simp (config:={maxSteps:=1000000}) (disch:=first|(simp only[ZB,ZG,ZJ]<;>omega)|rfl|omega|fail) only[fN,aS,aW,bo,bp,reduceAdd,reduceMul,reduceLeDiff,reduceEqDiff,bw,hlen,ZY,Z1,u0,u1,u2,u3,u9,YF,dp,w5,ixk,tZ,Z4,w6,nX])
  refine WR.vE (h0:=h) (off:=0) (x':=p) hF2 Xm De rfl (by simp[ao]) ?_;intro g3 Zh Yw _;rw[y3 hdl Om]at Yw
  repeat (first|simp (config:={maxSteps:=1000000}) only[aS,aW,bo,bp,reduceAdd,reduceMul,reduceLeDiff,reduceEqDiff,bw,hlen,ZY,Z1,u0,u1,u2,u3,u9,YF,Z4,w6,nX,w4]|simp (config:={maxSteps:=1000000}) (disch:=first|(simp only[ZB,ZG,ZJ]<;>omega)|rfl|omega|fail) only[fN,aS,aW,bo,bp,reduceAdd,reduceMul,reduceLeDiff,reduceEqDiff,bw,hlen,ZY,Z1,u0,u1,u2,u3,u9,YF,Z4,w6,nX,w4])
  have em:s.count c+1-k-1=s.count c+1-(k+1):=Om
  rw[em]at Yw;exact⟨s.count c-(k+1),Om,k+1,don++[p],q',g3,by simp[hdl],by rw[Xg,rk hp];simp,Om,rfl,rfl,Yw,rfl,rfl⟩
def r64(s:By)(c:UInt8)(hs:s.length<=2^40):aA P 64 [.str s,.str [c]] h (λv h'=>aH h' v 1 ((bM c s).map ao)):=by
 refine .of T.mix T.c64 ?_;unfold fn64 gA;refine Wn ?_;refine WF.res T.c128 (r128 T X s c hs) ?_;intro v g hv;refine Wn ?_;exact hv
omit T X in
theorem zK{c}:∀{s},c∉s->fp c s=(s,[],false)
 |[],_=>rfl
 |x::r,h=>by
  simp only[aag,not_or]at h;rw[fp,ZN (λe=>h.1 e.symm),zK h.2]
omit T X in
theorem wW{c}:∀{p q},c∉p->fp c (p++c::q)=(p,q,true)
 |[],q,_=>by rw[abi,fp,ZS rfl]
 |x::r,q,h=>by
  simp only[aag,not_or]at h;rw[aaS,fp,ZN (λe=>h.1 e.symm),wW h.2]
def r188(s:By)(c:UInt8)(hs:s.length<=2^40):aA P 188 [.str s,.str [c]] h (λv _=>v=.dL [.str (fp c s).1,.str (fp c s).2.1,.bool (fp c s).2.2]):=by
 refine .of T.mix T.c188 ?_;unfold fn188 gA;refine Wn ?_;refine WF.ce T.c253 (r253 T X s c) λg=>?_
 rcases wv c s with⟨hno,hix⟩|⟨p,q,hp,hq,hix⟩
 ·refine Ws (A2 @hix (show decide ((0:Int)<=-1)=false from rfl)) ?_;rw[zK hno]
 ·have d1:decide ((0:Int)<=(p.length:Int))=true:=ZI Om;have U5:p.length<s.length:=by rw[hq];simp
  have w6:IntKind.i64.wrap ((p.length:Int)+((1:Nat):Int))=((p.length+1:Nat):Int):=by rw[bj Om Om];omega
  rw[hix];subst hq;simp only[aS,aW,bo,bp,reduceAdd,reduceMul,reduceLeDiff,reduceEqDiff,d1,Z4,w6,tZ,nX];rw[wW hp]
def r98(s:By)(c:UInt8)(hs:s.length<=2^40):aA P 98 [.str s,.str [c]] h (λv _=>v=.dL [.str (fp c s).1,.str (fp c s).2.1,.bool (fp c s).2.2]):=by
 refine .of T.mix T.c98 ?_;unfold fn98 gA;refine Wn ?_;refine WF.ce T.c188 (r188 T X s c hs) λg=>?_
 exact Wn Tv
end
def Pw(h:ah):Prop:=∃mu tl,h[2]? =some (.cells (Lib.pow10Tab.map (AV.int .u64)) mu tl)
def Pw.ext{h k}(o:Pw h)(e:Ext h k):Pw k:=by
 obtain⟨mu,tl,hb⟩:=o;exact⟨mu,tl,e.some hb⟩
structure qC(P:Program):Prop where
 itoa:∀{h:ah}{n:Int},-9223372036854775808<=n->n<=9223372036854775807->Pw h->aA P 113 [.i n] h (λv _=>v=.str (Lib.itoa n))
 join:∀{h:ah}{s:AV}{sep:By}{xs:List (By)},aH h s 1 (xs.map ao)->(Lib.join xs sep).length<=140737488355328/\xs.length<=140737488355328->aA P 114 [s,.str sep] h (λv _=>v=.str (Lib.join xs sep))
 atoi:∀{h:ah}{s:By},s.all fo=true->s≠[]->s.length<=9->aA P 254 [.str s] h (λv _=>v=.dL [.i (Ds s),.kN])
 rep:∀{h:ah}{n:Nat},n<=7->aA P 252 [.str [48],.i (n:Nat)] h (λv _=>v=.str (List.replicate n 48))
def gJ{n}(h:0<=n):Lib.itoa n=jP n:=by rw[kU];unfold Lib.itoa;rw[ZN Om]
theorem mE:∀{k u},u<10^(k+1)->(Lib.decDigits u).length<=k+1
 | 0,u,h=>by rw[Lib.decDigits,dif_pos (by simpa using h)];simp
 |k+1,u,h=>by
  by_cases hu:u<10
  ·rw[Lib.decDigits,dif_pos hu];simp
  ·rw[Lib.decDigits,dif_neg hu,ZB];have:=mE (k:=k) (u:=u / 10) (by rw[Nat.pow_succ]at h;omega);simp;omega
def kT{c}:fo c=true↔48<=c.toNat/\c.toNat<=57:=by simp[fo]
def nh{α:Type}{s:List α}{k:Nat}(hk:k<s.length):s.take (k+1)=s.take k++[s[k]]:=by
 rw[aao,ZH hk];rfl
def gR(sw:AV)(wr:Bool):ak:=.b [sw,.bool wr]
section
variable {P:Program}(T:fy P) {h A B:ah}
include T
set_option maxRecDepth 10000 in
def r189(s:By)(hs:s.length<=2^40):aA P 189 [.str s] h (λv _=>v=.bool (rX s)):=by
 refine .lB 18 T.mix T.c189 ?_;intro ts hlen t0;unfold fn189 gA;refine Rs t0 ?_;refine WL.inv T.mix (λn ts' h'=>∃k:Nat,k<=s.length/\n=s.length-k/\h' =h++[.iter s k]/\(s.take k).all fo=true/\ts'.length=18/\slot ts' 0=.str s/\slot ts' 6=.ptr h.length 0) s.length
  ⟨0,Om,rfl,rfl,rfl,(Sq t0),(Sq t0),(Sq t0)⟩ ?_
 rintro _ ts' _ ⟨k,hk,rfl,rfl,hd,TN,u0,u6⟩;clear hlen t0;have hlen:=TN;by_cases hlt:k<s.length
 ·obtain⟨c,w,UQ,hcw⟩:∃c w,Utf8.decode ⟨⟨s⟩⟩ k=(c,w)/\(c=s[k].toNat/\w=1/\s[k].toNat<128\/128<=c/\128<=s[k].toNat):=by
   by_cases hc:s[k].toNat<128
   ·exact⟨_,_,dec_lt hlt hc,.inl ⟨rfl,rfl,hc⟩⟩
   ·exact z194
  have hall:fo s[k]=false->AV.bool false=AV.bool (rX s):=λhx=>by
   have:s.all fo=false:=by rw[List.all_eq_false];exact⟨s[k],ZR hlt,by simp[hx]⟩
   simp only[rX,this,Bool.and_false]
  by_cases a5:(48:Int)<=c
  ·by_cases a6:(c:Int)<=57
   ·have hc:c=s[k].toNat/\w=1:=Om
    obtain⟨rfl,rfl⟩:=hc;have hy:fo s[k]=true:=kT.2 Om;have d1:decide ((s[k].toNat:Int)<48)=false:=ZD Om;have d2:decide ((57:Int)<(s[k].toNat:Int))=false:=ZD Om
    repeat (first|simp (config:={maxSteps:=1000000}) only[aS,aW,bo,bp,reduceAdd,reduceMul,reduceLeDiff,reduceEqDiff,bw,hlen,ZY,Z1,u0,u6,eo,hlt,Z1,UQ,d1,d2]|simp (config:={maxSteps:=1000000}) (disch:=first|(simp only[ZB,ZG,ZJ]<;>omega)|rfl|omega|fail) only[fN,aS,aW,bo,bp,reduceAdd,reduceMul,reduceLeDiff,reduceEqDiff,bw,hlen,ZY,Z1,u0,u6,eo,hlt,Z1,UQ,d1,d2])
    refine⟨s.length-(k+1),Om,k+1,Om,rfl,rfl,?_,trivial⟩;rw[nh hlt,List.all_append,hd];simp[hy]
   ·have d1:decide ((c:Int)<48)=false:=ZD Om;have d2:decide ((57:Int)<(c:Int))=true:=ZI Om
    repeat (first|simp (config:={maxSteps:=1000000}) only[aS,aW,bo,bp,reduceAdd,reduceMul,reduceLeDiff,reduceEqDiff,bw,hlen,ZY,Z1,u0,u6,eo,hlt,Z1,UQ,d1,d2]|simp (config:={maxSteps:=1000000}) (disch:=first|(simp only[ZB,ZG,ZJ]<;>omega)|rfl|omega|fail) only[fN,aS,aW,bo,bp,reduceAdd,reduceMul,reduceLeDiff,reduceEqDiff,bw,hlen,ZY,Z1,u0,u6,eo,hlt,Z1,UQ,d1,d2])
    exact KT
  ·have d1:decide ((c:Int)<48)=true:=ZI Om
   repeat (first|simp (config:={maxSteps:=1000000}) only[aS,aW,bo,bp,reduceAdd,reduceMul,reduceLeDiff,reduceEqDiff,bw,hlen,ZY,Z1,u0,u6,eo,hlt,Z1,UQ,d1]|simp (config:={maxSteps:=1000000}) (disch:=first|(simp only[ZB,ZG,ZJ]<;>omega)|rfl|omega|fail) only[fN,aS,aW,bo,bp,reduceAdd,reduceMul,reduceLeDiff,reduceEqDiff,bw,hlen,ZY,Z1,u0,u6,eo,hlt,Z1,UQ,d1])
   exact KT
 ·have ek:k=s.length:=Om
  rw[ek,aam]at hd
  repeat (first|simp (config:={maxSteps:=1000000}) only[aS,aW,bo,bp,reduceAdd,reduceMul,reduceLeDiff,reduceEqDiff,bw,hlen,ZY,Z1,u0,u6,eo,hlt,ZY]|simp (config:={maxSteps:=1000000}) (disch:=first|(simp only[ZB,ZG,ZJ]<;>omega)|rfl|omega|fail) only[fN,aS,aW,bo,bp,reduceAdd,reduceMul,reduceLeDiff,reduceEqDiff,bw,hlen,ZY,Z1,u0,u6,eo,hlt,ZY])
  simp only[rX,hd,Bool.and_true,decide_not]
omit T in
theorem AY{s}:iU s=(rX s&&decide (s.length<=9) && !(decide (1<s.length)&&decide (s.head? =some 48))):=by
 unfold iU rX;cases s with
 |nil=>rfl
 |cons x r=>cases (x::r).all fo<;>cases decide ((x::r).length<=9)<;>simp
set_option maxRecDepth 10000 in
def r190(Z:qC P)(s:By)(hs:s.length<=2^40):aA P 190 [.str s] h (λv _=>v=.dL [.i (lE s),.bool (iU s)]):=by
 refine .lB 30 T.mix T.c190 ?_;intro ts hlen t0;unfold fn190 gA;refine Rs t0 ?_;refine WF.ce T.c189 (r189 T s hs) λg=>?_
 have bad:iU s=false->AV.dL [.i 0,.bool false]=AV.dL [.i (lE s),.bool (iU s)]:=λhb=>by unfold lE;rw[hb];rfl
 have e0:=AY (s:=s);cases hd:rX s with
 |false=>
  rw[hd]at e0;refine Rs (A3 t0 @hd @aab) ?_;exact bad (by rw[e0];rfl)
 |true=>
  rw[hd]at e0;have Ta:=hd;unfold rX at Ta;simp only[aad,aaZ,abp]at Ta;by_cases h9:9<s.length
  ·have d9:decide ((9:Int)<s.length)=true:=ZI Om;have q9:decide (s.length<=9)=false:=ZD Om;rw[q9]at e0;refine Rs (A4 t0 @hd @Z7 @d9) ?_;exact bad (by rw[e0];rfl)
  ·have d9:decide ((9:Int)<s.length)=false:=ZD Om;have q9:decide (s.length<=9)=true:=ZI Om;rw[q9]at e0;obtain⟨c,r,rfl⟩:∃c r,s=c::r:=by cases s with|nil=>exact absurd rfl Ta.1|cons c r=>exact⟨c,r,rfl⟩
   by_cases h1:1<(c::r).length
   ·have d1:decide ((1:Int)<((c::r).length:Int))=true:=ZI Om;have q1:decide (1<(c::r).length)=true:=ZI h1;rw[q1]at e0;by_cases h2:c=48
    ·have d2:decide ((c.toNat:Int)=48)=true:=by rw[h2];rfl
     have q2:decide ((c::r).head? =some 48)=true:=by rw[h2];rfl
     rw[q2]at e0;refine Rs (A7 t0 @hd @Z7 @d9 @d1 @wq @d2) ?_;exact bad (by rw[e0];rfl)
    ·have d2:decide ((c.toNat:Int)=48)=false:=ZD λe=>h2 (UInt8.toNat_inj.1 (by simpa using (by omega:c.toNat=48)))
     have q2:decide ((c::r).head? =some 48)=false:=ZD (by simp[h2]);rw[q2]at e0;have e1:iU (c::r)=true:=by rw[e0];rfl
     refine Rs (A7 t0 @hd @Z7 @d9 @d1 @wq @d2) ?_;exact KV
   ·have d1:decide ((1:Int)<((c::r).length:Int))=false:=ZD Om;have q1:decide (1<(c::r).length)=false:=ZD h1;rw[q1]at e0;have e1:iU (c::r)=true:=by rw[e0];rfl
    refine Rs (A5 t0 @hd @Z7 @d9 @d1) ?_;exact KV
set_option maxRecDepth 10000 in
def I0{sw ws wr}(hs:aH A sw 1 (ws.map ao)):
  du P 207 [.ptr A.length 0] (A++[gR sw wr]++B) (λv h'=>∃sw',v=.str (bT ws wr).1/\h' =A++[gR sw' (bT ws wr).2.2]++B/\aH A sw' 1 ((bT ws wr).2.1.map ao)):=by
 refine .of T.mix T.c207 ?_;obtain⟨ts,Sv⟩:∃ts,ts=aT 40 [.ptr A.length 0]:=⟨_,rfl⟩;have hlen:ts.length=40:=by rw[Sv];rfl
 have t0:slot ts 0=.ptr A.length 0:=by rw[Sv];rfl
 unfold fn207 gA;show WC P bN _ [] (aT 40 [.ptr A.length 0]) (A++[gR sw wr]++B) _;rw[<-Sv];clear Sv;unfold gR;have c0:=hs.one;have hsE:∀{k:ah},aH (A++k) sw 1 (ws.map ao):=λ{k}=>hs.ext ⟨k,rfl⟩
 cases ws with
 |nil=>
  have d0:decide ((([] :List (By)).length:Int)=0)=true:=rfl;refine Rs (A4 t0 hs.aK @d0 @c0) ?_;exact⟨.af,by rw[bT];exact⟨rfl,rfl,aH.nil⟩⟩
 |cons w r=>
  have d0:decide (((w::r).length:Int)=0)=false:=ZD (by simp;omega);have ix:=hs.qM (kk:=.i64) Si;have ld:∀{k:ah},Ext A k->aq none (cT sw 1 0) (λb=>k[b]?)=some (.str w,.ay):=λ{k} e=>hs.kg (i:=0) Si rfl e
  by_cases hw:w=[]
  ·have d1:decide (w=[])=true:=ZI hw;refine Rs (A7 t0 hs.aK @d0 ix @ld @d1 @c0) ?_;exact⟨.af,by rw[bT,ZS hw];exact⟨rfl,rfl,aH.nil⟩⟩
  ·have d1:decide (w=[])=false:=ZD hw;have UI:jg (some (AV.i 1)) none (w::r).length=some (1,(w::r).length):=mI (k:=1) Si;obtain⟨s',es',Sx⟩:=hs.GR UI;have et:List.take ((w::r).length-1) (List.drop 1 (w::r))=r:=Si
   rw[et]at Sx;refine Rs (A9 t0 hs.aK @d0 ix @ld @d1 @c0 @es' Sx.one) ?_;exact⟨s',by rw[bT,ZN hw];exact⟨rfl,rfl,Sx⟩⟩
set_option maxRecDepth 10000 in
def PR(Z:qC P){sw ws wr}(hs:aH A sw 1 (ws.map ao))(hl:∀x∈ws,x.length<=2^40):
  du P 208 [.ptr A.length 0] (A++[gR sw wr]++B) (λv h'=>∃(sw':AV) (g:ah),v=.i (lE (bT ws wr).1)/\h' =A++[gR sw' ((bT ws wr).2.2 || !iU (bT ws wr).1)]++(B++g)/\aH A sw' 1 ((bT ws wr).2.1.map ao)):=by
 refine .of T.mix T.c208 ?_;obtain⟨ts,Sv⟩:∃ts,ts=aT 23 [.ptr A.length 0]:=⟨_,rfl⟩;have hlen:ts.length=23:=by rw[Sv];rfl
 have t0:slot ts 0=.ptr A.length 0:=by rw[Sv];rfl
 unfold fn208 gA;show WC P bN _ [] (aT 23 [.ptr A.length 0]) (A++[gR sw wr]++B) _;rw[<-Sv];clear Sv;refine Rs t0 ?_;refine WF.gen T.c207 (I0 T hs) ?_;rintro _ _ ⟨sw',rfl,rfl,Sx⟩;have hwl:(bT ws wr).1.length<=2^40:=by
  cases ws with
  |nil=>simp[bT]
  |cons w r=>
   by_cases hw:w=[]
   ·rw[bT,ZS hw];simp
   ·rw[bT,ZN hw];exact hl w Si
 generalize (bT ws wr).1=w at hwl ⊢;generalize (bT ws wr).2.2=wr' at Sx ⊢;generalize (bT ws wr).2.1=ws' at Sx ⊢;refine Rs t0 ?_;refine WF.ce T.c190 (r190 T Z w hwl) λg=>?_
 unfold gR;have c0:=Sx.one;cases wr' with
 |true=>
  refine Rs (A3 t0 @c0 @Bool.true_or) ?_;exact⟨sw',g,by rw[ZE],Sx⟩
 |false=>
  refine Rs (A3 t0 @c0 @abO) ?_;exact⟨sw',g,by rw[ZE],Sx⟩
end
def uu{α:Type}{p:α->Bool}{L:List α}{k:Nat}(hlt:k<L.length)(hi:L.findIdx? p=((L.drop k).findIdx? p).map (· +k)):(p L[k]=true->dm p L=(k:Int))/\(p L[k]=false->L.findIdx? p=((L.drop (k+1)).findIdx? p).map (· +(k+1))):=by
 have hd:L.drop k=L[k]::L.drop (k+1):=Si
 rw[hd,abS]at hi;constructor
 ·intro hp;rw[hp]at hi;rw[dm,hi];simp
 ·intro hp;rw[hp]at hi;rw[hi];exact Rx
def wQ{α:Type}{p:α->Bool}{L:List α}(hi:L.findIdx? p=((L.drop L.length).findIdx? p).map (· +L.length)):dm p L= -1:=by
 rw[aaF]at hi;rw[dm,hi];rfl
set_option maxRecDepth 10000
section
variable {P:Program}(T:fy P) {h:ah}
include T
def r20(n lo hi:Int):aA P 20 [.i n,.i lo,.i hi] h (λv _=>v=.bool (decide (bg n lo hi≠0))):=by
 refine .nW 15 T.mix T.c20 ?_;intro ts hlen t0 t1 t2;unfold fn20 gA;by_cases h1:n<lo
 ·have q1:decide (n<lo)=true:=ZI h1;refine Rs (A4 t0 t1 t2 q1) ?_;rw[bg,ZS (.inl h1)];rfl
 ·have q1:decide (n<lo)=false:=ZD h1;by_cases h2:hi<n
  ·have q2:decide (hi<n)=true:=ZI h2;refine Rs (A5 t0 t1 t2 q1 q2) ?_;rw[bg,ZS (.inr h2)];rfl
  ·have q2:decide (hi<n)=false:=ZD h2;refine Rs (A5 t0 t1 t2 q1 q2) ?_;rw[bg,ZN Om];rfl
def r35{L:List (By)}{s:AV}(hs:aH h s 1 (L.map ao))(hl:L.length<2^40)(n:By):aA P 35 [s,.str n] h (λv _=>v=.bool (decide (n∈L))):=by
 refine .eP 18 T.mix T.c35 ?_;intro ts hlen t0 t1;unfold fn35 gA;refine Rs (A2 t0 t1) ?_;refine WL.inv T.mix (λm ts h'=>∃k:Nat,k<=L.length/\m=L.length-k/\h' =h/\(n∈L↔n∈L.drop k)/\ts.length=18/\slot ts 0=s/\slot ts 1=.str n/\slot ts 5=.i k) L.length
  ⟨0,Om,rfl,rfl,Iff.rfl,Sn,(Sq t0),(Sq t1),gP⟩ ?_
 rintro _ ts _ ⟨k,hk,rfl,rfl,hi,hlen,t0,t1,t5⟩;by_cases hlt:k<L.length
 ·have hd:L.drop k=L[k]::L.drop (k+1):=Si
  rw[hd,aag]at hi;have e3:=eC hlt;have ix:=hs.dE (kk:=.i64) hlt;have ld:=hs.kg (i:=k) (x:=.str L[k]) hlt rfl (Ext.refl _);have e5:=wrapN (n:=k) Om;by_cases hp:L[k]=n
  ·have q:decide (L[k]=n)=true:=ZI hp;refine Rs (A8 t0 t1 t5 e3 hs.aK ix @ld q) ?_;exact aai AV.bool (ZI (hi.2 (.inl hp.symm))).symm
  ·have q:decide (L[k]=n)=false:=ZD hp;refine Rs (A9 t0 t1 t5 e3 hs.aK ix @ld q e5) ?_;exact⟨_,Om,k+1,Om,rfl,⟨λz=>(hi.1 z).resolve_left λe=>hp e.symm,λz=>hi.2 (.inr z)⟩,rfl⟩
 ·have e3:=ff hlt;have e4:k=L.length:=Om
  refine Rs (A5 t0 t1 t5 e3 hs.aK) ?_;rw[e4,aaF]at hi;exact aai AV.bool (ZD (λz=>by simpa using hi.1 z)).symm
def r25{L M:List (By)}{s t:AV}(hs:aH h s 1 (L.map ao))(ht:aH h t 1 (M.map ao))(hl:L.length<2^40)(hm:M.length<2^40):aA P 25 [s,t] h (λv _=>v=.bool (decide (L=M))):=by
 refine .eP 26 T.mix T.c25 ?_;intro ts hlen t0 t1;unfold fn25 gA;by_cases h1:L.length=M.length
 case neg=>
  have q:decide ((L.length:Int)≠M.length)=true:=ZI Om;refine Rs (A5 t0 t1 hs.aK ht.aK q) ?_;exact aai AV.bool (ZD (λ(e:L=M)=>h1 (by rw[e]))).symm
 have q:decide ((L.length:Int)≠M.length)=false:=ZD Om;refine Rs (A5 t0 t1 hs.aK ht.aK q) ?_;refine WL.inv T.mix (λm ts h'=>∃k:Nat,k<=L.length/\m=L.length-k/\h' =h/\L.take k=M.take k/\ts.length=26/\slot ts 0=s/\slot ts 1=t/\slot ts 5=.i k) L.length
  ⟨0,Om,rfl,rfl,rfl,Sn,(Sq t0),(Sq t1),gP⟩ ?_
 rintro _ ts h' ⟨k,hk,rfl,rfl,hi,hlen,t0,t1,t5⟩;by_cases hlt:k<L.length
 ·have Td:k<M.length:=Om
  have e3:=eC hlt;have ix:=hs.dE (kk:=.i64) hlt;have iy:=ht.dE (kk:=.i64) Td;have ld:∀{kk:ah},Ext h' kk->_:=λ{kk} e=>hs.kg (i:=k) (x:=.str L[k]) (k:=kk) hlt rfl e
  have ly:∀{kk:ah},Ext h' kk->_:=λ{kk} e=>ht.kg (i:=k) (x:=.str M[k]) (k:=kk) Td rfl e
  have e5:=wrapN (n:=k) Om;by_cases hp:L[k]=M[k]
  ·have q:decide (L[k]≠M[k])=false:=ZD (λz=>z hp);refine Rs (mZ t0 t1 t5 e3 hs.aK ix @ld @iy @ly q e5) ?_;refine⟨_,Om,k+1,Om,rfl,?_,rfl⟩;rw[aao,aao,hi,ZH hlt,ZH Td,hp]
  ·have q:decide (L[k]≠M[k])=true:=ZI hp;refine Rs (na t0 t1 t5 e3 hs.aK ix @ld @iy @ly q) ?_;exact aai AV.bool (ZD (λ(e:L=M)=>hp (by simp only[e]))).symm
 ·have e3:=ff hlt;have e4:k=L.length:=Om
  refine Rs (A5 t0 t1 t5 e3 hs.aK) ?_;rw[e4,aam,h1,aam]at hi;exact aai AV.bool (ZI hi).symm
def pP{f i w:Nat}{α:Type}{row:α->List AV}{nm:α->By}{L:List α}{s:AV}{V:RV}(c:bR P f=some (ve i w))(o:aD h V)(hs:aH h s w (L.map row))(hv:V.row[i]? =some s)(hr:∀y,(row y)[0]? =some (.str (nm y)))(hl:L.length<2^30)(n:By):aA P f [.agg V.row,.str n] h (λv _=>v=.i (dm (λy=>decide (nm y=n)) L)):=by
 refine .eP 22 T.mix c ?_;intro ts hlen t0 t1;unfold ve;have Su:=@aD.box _ _ o;refine Rs (A3 t0 t1 @Su) ?_;refine WL.inv T.mix (λm ts h'=>∃k:Nat,k<=L.length/\m=L.length-k/\h' =h++[ak.b V.row]/\L.findIdx? (λy=>decide (nm y=n))=((L.drop k).findIdx? (λy=>decide (nm y=n))).map (· +k)/\ts.length=22/\slot ts 1=.str n/\slot ts 2=.ptr h.length 0/\slot ts 5=.i k) L.length
  ⟨0,Om,rfl,rfl,Si,Sn,(Sq t1),Sw,gP⟩ ?_
 rintro _ ts _ ⟨k,hk,rfl,rfl,hi,hlen,t1,t2,t5⟩;have lb:∀{kk n a},Ext (h++[ak.b V.row]) kk->aq n (.ptr h.length a) (λz=>kk[z]?)=dJ n a (.b V.row):=λ{_ _ _} e=>aB (e.some aV)
 by_cases hlt:k<L.length
 ·have e3:=eC hlt;have ix:=hs.dE (kk:=.i64) hlt;have e5:=wrapN (n:=k) Om;obtain⟨h1,h2⟩:=uu hlt hi;obtain⟨y,hy⟩:∃y,y=L[k]:=⟨_,rfl⟩;have ld:∀{kk:ah},Ext h kk->aq none (mD s w k 0) (λb=>kk[b]?)=some (.str (nm y),.ay):=λ{kk} e=>hs.qz hlt (by rw[<-hy];exact hr y) e
  rw[<-hy]at h1 h2;by_cases hp:nm y=n
  ·have q:decide (nm y=n)=true:=ZI hp;refine Rs (na t1 t2 t5 @lb @hv hs.aK e3 ix @ld q) ?_;rw[h1 q]
  ·have q:decide (nm y=n)=false:=ZD hp;refine Rs (mZ t1 t2 t5 @lb @hv hs.aK e3 ix @ld q e5) ?_;exact⟨_,Om,k+1,Om,rfl,h2 q,rfl⟩
 ·have e3:=ff hlt;have e4:k=L.length:=Om
  refine Rs (A7 t1 t2 t5 @lb @hv hs.aK e3) ?_;subst e4;rw[wQ hi]
def r28{V:RV}(o:aD h V)(l:eO V)(n:By):aA P 28 [.agg V.row,.str n] h (λv _=>v=.i (dm (λy=>decide (y.name=n)) V.lines)):=
 pP T (nm:=λy:dX=>y.name) T.c28 o o.i0 fR (λ_=>rfl) l.l0 n
def r141{V:RV}(o:aD h V)(l:eO V)(n:By):aA P 141 [.agg V.row,.str n] h (λv _=>v=.i (dm (λy=>decide (y.name=n)) V.aG)):=
 pP T (nm:=λy:sH=>y.name) T.c141 o o.i1 lJ (λ_=>rfl) l.l1 n
def r22{V:RV}(o:aD h V)(l:eO V)(n:By):aA P 22 [.agg V.row,.str n] h (λv _=>v=.i (dm (λy:jX×AV=>decide (y.1.name=n)) V.aj)):=
 pP T (nm:=λy:jX×AV=>y.1.name) T.c22 o o.i2 fB (λ_=>rfl) l.l2 n
def r55{V:RV}(o:aD h V)(l:eO V)(n:By):aA P 55 [.agg V.row,.str n] h (λv _=>v=.i (dm (λy:cQ×AV=>decide (y.1.name=n)) V.ar)):=
 pP T (nm:=λy:cQ×AV=>y.1.name) T.c55 o o.i3 fx (λ_=>rfl) l.l3 n
def r56{V:RV}(o:aD h V)(l:eO V)(n:By):aA P 56 [.agg V.row,.str n] h (λv _=>v=.i (dm (λy:kF×AV=>decide (y.1.name=n)) V.aE)):=
 pP T (nm:=λy:kF×AV=>y.1.name) T.c56 o o.i4 ga (λ_=>rfl) l.l4 n
def r57{V:RV}(o:aD h V)(l:eO V)(n:By):aA P 57 [.agg V.row,.str n] h (λv _=>v=.i (dm (λy=>decide (y.name=n)) V.aJ)):=
 pP T (nm:=λy:nP=>y.name) T.c57 o o.i5 gY (λ_=>rfl) l.l5 n
end
def lF(r:Nat×Bool):UInt8:=
 match r.1,r.2 with
 | 0,true=>108
 | 1,true=>116
 | 2,true=>115
 | 3,true=>109
 | 4,true=>106
 |_,true=>112
 | 0,false=>76
 | 1,false=>84
 | 2,false=>83
 | 3,false=>77
 | 4,false=>74
 |_,false=>80
def xY(d:Kd):By:=(bJ d).map lF
def zC(k:By):List AV:=
 match gU k with
 |none=>[.str [],.i 0,.bool false]
 |some d=>[.str (xY d),.i (cD d:Int),.bool true]
def gK(d:Kd):decide (bz d=[108,105,110,101])=decide (d=.line):=by cases d<;>rfl
def iG(d:Kd):decide (bz d=[116,97,112,101])=decide (d=.tape):=by cases d<;>rfl
def rP(d:Kd):decide (bz d=[115,104,111,116])=decide (d=.gp):=by cases d<;>rfl
def wD(d:Kd):decide (bz d=[99,111,112,121])=decide (d=.copy):=by cases d<;>rfl
def rQ(d:Kd):decide (bz d=[97,99,99,101,112,116])=decide (d=.accept):=by cases d<;>rfl
def iC(d:Kd):decide (bz d=[115,111,117,114,99,101])=decide (d=.source):=by cases d<;>rfl
def ki(d:Kd):decide (bz d=[109,111,100,117,108,101])=decide (d=.gg):=by cases d<;>rfl
def jn(d:Kd):decide (bz d=[109,101,114,103,101])=decide (d=.merge):=by cases d<;>rfl
def zA(d:Kd):decide (bz d=[114,117,110])=decide (d=.run):=by cases d<;>rfl
def wA(d:Kd):decide (bz d=[116,105,108,101])=decide (d=.fT):=by cases d<;>rfl
def wC(d:Kd):decide (bz d=[102,97,105,108])=decide (d=.fail):=by cases d<;>rfl
def wB(d:Kd):decide (bz d=[112,105,99,116,117,114,101])=decide (d=.gE):=by cases d<;>rfl
def qN(d:Kd):decide (bz d=[114,101,108,101,97,115,101])=decide (d=.rel):=by cases d<;>rfl
def oG(d:Kd):decide (bz d=[117,110,100,111])=decide (d=.eV):=by cases d<;>rfl
def gV:type_of% (xJ @gK @iG @rP @wD @rQ @iC @ki @jn @zA @wA @wC @wB @qN @oG):=xJ @gK @iG @rP @wD @rQ @iC @ki @jn @zA @wA @wC @wB @qN @oG
def Co:∀r:Nat×Bool,r.1<6->decide (97<=((lF r).toNat:Int))=r.2
 |(0,true),_=>rfl
 |(1,true),_=>rfl
 |(2,true),_=>rfl
 |(3,true),_=>rfl
 |(4,true),_=>rfl
 |(5,true),_=>rfl
 |(0,false),_=>rfl
 |(1,false),_=>rfl
 |(2,false),_=>rfl
 |(3,false),_=>rfl
 |(4,false),_=>rfl
 |(5,false),_=>rfl
def EH(d:Kd):∀r∈bJ d,r.1<6:=by cases d<;>decide
section
variable {P:Program}(T:fy P) {h:ah}
include T
def r101(k:By):aA P 101 [.str k] h (λv _=>v=.agg (zC k)):=by
 refine .lB 47 T.mix T.c101 ?_;intro ts hlen t0;unfold fn101 gA;unfold zC;cases hk:gU k with
 |none=>
  have YM:decide (k=[108,105,110,101])=false:=ZD (dD hk .line);have YI:decide (k=[116,97,112,101])=false:=ZD (dD hk .tape);have YJ:decide (k=[115,104,111,116])=false:=ZD (dD hk .gp);have YO:decide (k=[99,111,112,121])=false:=ZD (dD hk .copy);have V4:decide (k=[97,99,99,101,112,116])=false:=ZD (dD hk .accept);have V3:decide (k=[115,111,117,114,99,101])=false:=ZD (dD hk .source);have YL:decide (k=[109,111,100,117,108,101])=false:=ZD (dD hk .gg);have Xu:decide (k=[109,101,114,103,101])=false:=ZD (dD hk .merge);have q_run:decide (k=[114,117,110])=false:=ZD (dD hk .run);have YH:decide (k=[116,105,108,101])=false:=ZD (dD hk .fT)
  have YN:decide (k=[102,97,105,108])=false:=ZD (dD hk .fail);have YK:decide (k=[112,105,99,116,117,114,101])=false:=ZD (dD hk .gE);have q_rel:decide (k=[114,101,108,101,97,115,101])=false:=ZD (dD hk .rel);have YG:decide (k=[117,110,100,111])=false:=ZD (dD hk .eV);exact Rs (Bv t0 @YM @YI @YJ @YO @V4 @V3 @YL @Xu @q_run @YH @YN @YK @q_rel @YG) Tv
 |some d=>
  have SD:=cj hk;subst SD;clear hk;cases d
  all_goals
   refine pA (A4 t0 @gV @Z5 @Z9) ?_;rfl
def r39{x}(o:bh h x)(hl:x.ev.names.length<=2^40/\x.ev.cB.length<=2^40)(hn:∀n∈x.ev.names,n.length<2^63):aA P 39 [.agg x.row] h (λv _=>v=.i (gW x.ev)):=by
 refine .lB 59 T.mix T.c39 ?_;intro ts hlen t0;unfold fn39 gA;have Su:=@bh.box _ _ o;refine Rs (A3 t0 @Su @nJ) ?_;refine WF.ce T.c20 (r20 T _ _ _) λg1=>?_
 by_cases h0:bg x.ev.num 1 1000=0
 case neg=>
  have e0:decide (bg x.ev.num 1 1000≠0)=true:=ZI h0;refine Rs (A2 t0 e0) ?_;rw[gW,ZS h0]
 have e0:decide (bg x.ev.num 1 1000≠0)=false:=ZD (λz=>z h0);refine Rs (A3 t0 e0 @bA) ?_;refine WF.ce T.c101 (r101 T _) λg2=>?_
 unfold zC;rw[gW,ZN (λz=>z h0)];cases hd:gU x.ev.kind with
 |none=>
  exact Rs (A2 t0 @aab) Tv
 |some d=>
  have T4:(xY d).length=(bJ d).length:=by rw[xY,ZL]
  have hr3:(bJ d).length<=3/\cD d<=3:=by cases d<;>decide
  refine Rs (A7 t0 @Z7 @aO @aY o.n.aK o.v.aK @T4) ?_;by_cases h1:x.ev.names.length=(bJ d).length
  case neg=>
   have q:decide ((x.ev.names.length:Int)≠(bJ d).length)=true:=ZI Om;refine Rs (A2 t0 q) ?_;rw[ZS (.inl h1)]
  have q:decide ((x.ev.names.length:Int)≠(bJ d).length)=false:=ZD Om;by_cases h2:x.ev.cB.length=cD d
  case neg=>
   have q2:decide ((x.ev.cB.length:Int)≠cD d)=true:=ZI Om;refine Rs (A5 t0 @aY q q2 o.v.aK) ?_;rw[ZS (.inr h2)]
  have q2:decide ((x.ev.cB.length:Int)≠cD d)=false:=ZD Om;refine Rs (A5 t0 @aY q q2 o.v.aK) ?_;rw[ZN Om];obtain⟨H,hH⟩:∃H,H=h++[ak.b x.row]++g1++g2++[ak.b [AV.str (xY d),.i (cD d:Int),.bool true]]:=⟨_,rfl⟩;obtain⟨fb,hfb⟩:∃fb,fb=(h++[ak.b x.row]++g1++g2).length:=⟨_,rfl⟩;have Tf:Ext h H:=by rw[hH];exact Xx
  have me:H[h.length]? =some (.b x.row):=by rw[hH];exact(show Ext (h++[ak.b x.row]) _ from Xx).some aV
  have mf:H[fb]? =some (.b [AV.str (xY d),.i (cD d:Int),.bool true]):=by rw[hH,hfb];exact aV
  rw[<-hH,<-hfb];refine WL.inv T.mix (λm ts h'=>∃k:Nat,k<=x.ev.names.length/\m=x.ev.names.length-k/\Ext H h'/\x.ev.names.any (λs=>!dQ s)=(x.ev.names.drop k).any (λs=>!dQ s)/\ts.length=59/\slot ts 1=.ptr h.length 0/\slot ts 3=.ptr fb 0/\slot ts 4=.i k) x.ev.names.length
   ⟨0,Om,rfl,.refl _,rfl,Sn,Sw,Sw,gP⟩ ?_
  rintro _ ts h' ⟨k,hk,rfl,hx,hi,hlen,t1,t3,t4⟩;have le:∀{kk n a},Ext h' kk->aq n (.ptr h.length a) (λz=>kk[z]?)=dJ n a (.b x.row):=λ{_ _ _} e=>aB ((hx.trans e).some me)
  have lf:∀{kk n a},Ext h' kk->aq n (.ptr fb a) (λz=>kk[z]?)=dJ n a (.b [AV.str (xY d),.i (cD d:Int),.bool true]):=λ{_ _ _} e=>aB ((hx.trans e).some mf)
  by_cases hlt:k<x.ev.names.length
  ·have e3:decide ((k:Int)<(bJ d).length)=true:=ZI Om;have e5:=wrapN (n:=k) Om;have ix:=o.n.dE (kk:=.i64) hlt;have ld:∀{kk:ah},Ext h' kk->aq none (cT x.sn 1 k) (λb=>kk[b]?)=some (.str x.ev.names[k],.ay):=λ{kk} e=>o.n.kg hlt rfl ((Tf.trans hx).trans e)
   have XP:x.ev.names.drop k=x.ev.names[k]::x.ev.names.drop (k+1):=Si
   rw[XP,ab1]at hi;have hnk:=hn x.ev.names[k] (ZR _);obtain⟨y,hy⟩:∃y,y=x.ev.names[k]:=⟨_,rfl⟩;rw[<-hy]at ld hi hnk;refine Rs (na t1 t3 t4 @le @lf @T4 e3 @aO ix @ld) ?_;refine WF.ce T.c102 (r102 T y hnk) λg3=>?_
   cases hny:dQ y with
   |false=>
    rw[hny]at hi;have hi:x.ev.names.any (λs=>!dQ s)=true:=hi;refine Rs (A4 t1 t3 t4 @aab) ?_;refine⟨(Tf.trans hx).trans Xx,?_⟩;rw[ZS hi]
   |true=>
    rw[hny]at hi;refine Rs (A5 t1 t3 t4 @Z7 e5) ?_;exact Ks
  ·have e3:decide ((k:Int)<(bJ d).length)=false:=ZD Om;have e4:k=x.ev.names.length:=Om
   have hi0:x.ev.names.any (λs=>!dQ s)=false:=by rw[hi,e4,aaF];rfl
   rw[ZN (by rw[hi0];decide)];refine Rs (A6 t1 t3 t4 @lf @T4 e3) ?_;refine WL.inv T.mix (λm ts XX=>∃k:Nat,k<=x.ev.cB.length/\m=x.ev.cB.length-k/\Ext H XX/\x.ev.cB.any (λn=>decide (bg n 0 999999999≠0))=(x.ev.cB.drop k).any (λn=>decide (bg n 0 999999999≠0))/\ts.length=59/\slot ts 1=.ptr h.length 0/\slot ts 3=.ptr fb 0/\slot ts 5=.i k) x.ev.cB.length
    ⟨0,Om,rfl,hx,rfl,Sn,(Sq t1),(Sq t3),gP⟩ ?_
   clear t1 t3 t4 hlen hlt hi e3 e4 hk le lf hx;clear ts k h';rintro _ ts h' ⟨k,hk,rfl,hx,hi,hlen,t1,t3,t5⟩;have le:∀{kk n a},Ext h' kk->aq n (.ptr h.length a) (λz=>kk[z]?)=dJ n a (.b x.row):=λ{_ _ _} e=>aB ((hx.trans e).some me)
   have lf:∀{kk n a},Ext h' kk->aq n (.ptr fb a) (λz=>kk[z]?)=dJ n a (.b [AV.str (xY d),.i (cD d:Int),.bool true]):=λ{_ _ _} e=>aB ((hx.trans e).some mf)
   by_cases hlt:k<x.ev.cB.length
   ·have e3:decide ((k:Int)<cD d)=true:=ZI Om;have e5:=wrapN (n:=k) Om;have ix:=o.v.dE (kk:=.i64) hlt;have ld:∀{kk:ah},Ext h' kk->aq none (cT x.sv 1 k) (λb=>kk[b]?)=some (.i x.ev.cB[k],.ay):=λ{kk} e=>o.v.kg hlt rfl ((Tf.trans hx).trans e)
    have XP:x.ev.cB.drop k=x.ev.cB[k]::x.ev.cB.drop (k+1):=Si
    rw[XP,ab1]at hi;obtain⟨y,hy⟩:∃y,y=x.ev.cB[k]:=⟨_,rfl⟩;rw[<-hy]at ld hi;refine Rs (A9 t1 t3 t5 @le @lf e3 @aY ix @ld) ?_;refine WF.ce T.c20 (r20 T _ _ _) λg3=>?_
    cases hny:decide (bg y 0 999999999≠0)with
    |true=>
     rw[hny]at hi;have hi:x.ev.cB.any (λn=>decide (bg n 0 999999999≠0))=true:=hi;refine Rs (A3 t1 t3 t5) ?_;refine⟨(Tf.trans hx).trans Xx,?_⟩;rw[ZS hi]
    |false=>
     rw[hny]at hi;refine Rs (A4 t1 t3 t5 e5) ?_;exact Ks
   ·have e3:decide ((k:Int)<cD d)=false:=ZD Om;have e4:k=x.ev.cB.length:=Om
    have hi0:x.ev.cB.any (λn=>decide (bg n 0 999999999≠0))=false:=by rw[hi,e4,aaF];rfl
    rw[ZN (by rw[hi0];decide)];by_cases ht:x.ev.text=[]
    ·have q:decide (x.ev.text≠[])=false:=ZD (λz=>z ht);refine Rs (A8 t1 t3 t5 @lf @le e3 @yy q) ?_;refine⟨Tf.trans hx,?_⟩;rw[ZN (λz=>z ht)]
    ·have q:decide (x.ev.text≠[])=true:=ZI ht;refine Rs (A8 t1 t3 t5 @lf @le e3 @yy q) ?_;refine⟨Tf.trans hx,?_⟩;rw[ZS ht]
end
def El(R:dA)(e:dN):List (Nat×Bool)->Bool
 |[]=>false
 |r::_=>!r.2&&dW R r.1 (aL e 0)
def CG{R e d}:kM d R e=if nf R e (bJ d) 0 then 10 else cA (El R e (bJ d)) 9:=by
 have:rf R e (bJ d) 0=El R e (bJ d):=by cases d<;>simp[bJ,rf,El]
 rw[kM,this];rfl
def Bc:∀r:Nat×Bool,r.1<6->r.2=false->IntKind.u8.wrap (IntKind.u8.wrap (((lF r).toNat:Int)+97)-65)=((lF (r.1,true)).toNat:Int)
 |(0,false),_,_=>rfl
 |(1,false),_,_=>rfl
 |(2,false),_,_=>rfl
 |(3,false),_,_=>rfl
 |(4,false),_,_=>rfl
 |(5,false),_,_=>rfl
section
variable {P:Program}(T:fy P) {h:ah}
include T
def Sj{V}(o:aD h V)(l:eO V)(n:By):aA P 195 [.agg V.row,.int .u8 ((lF (0,true)).toNat:Int),.str n] h (λv _=>∃i,v=.i i/\decide (0<=i)=dW V.an 0 n):=by
 refine .nW 36 T.mix T.c195 ?_;intro ts hlen t0 t1 t2;unfold fn195 gA;have Su:=@aD.box _ _ o;have q0:decide (((lF (0,true)).toNat:Int)=108)=true:=rfl;refine Rs (A6 t0 t1 t2 @Su q0 @aF) ?_;refine WF.ce T.c28 (r28 T (o.ext Xx) l n) λg1=>?_
 refine Rs t0 ?_;exact⟨_,rfl,fO (f:=λy:dX=>y.name)⟩
def Sh{V}(o:aD h V)(l:eO V)(n:By):aA P 195 [.agg V.row,.int .u8 ((lF (1,true)).toNat:Int),.str n] h (λv _=>∃i,v=.i i/\decide (0<=i)=dW V.an 1 n):=by
 refine .nW 36 T.mix T.c195 ?_;intro ts hlen t0 t1 t2;unfold fn195 gA;have Su:=@aD.box _ _ o;have q0:decide (((lF (1,true)).toNat:Int)=108)=false:=rfl;have q1:decide (((lF (1,true)).toNat:Int)=116)=true:=rfl;refine Rs (A7 t0 t1 t2 @Su q0 q1 @aF) ?_;refine WF.ce T.c141 (r141 T (o.ext Xx) l n) λg1=>?_
 refine Rs t0 ?_;exact⟨_,rfl,fO (f:=λy:sH=>y.name)⟩
def Sg{V}(o:aD h V)(l:eO V)(n:By):aA P 195 [.agg V.row,.int .u8 ((lF (2,true)).toNat:Int),.str n] h (λv _=>∃i,v=.i i/\decide (0<=i)=dW V.an 2 n):=by
 refine .nW 36 T.mix T.c195 ?_;intro ts hlen t0 t1 t2;unfold fn195 gA;have Su:=@aD.box _ _ o;have q0:decide (((lF (2,true)).toNat:Int)=108)=false:=rfl;have q1:decide (((lF (2,true)).toNat:Int)=116)=false:=rfl;have q2:decide (((lF (2,true)).toNat:Int)=115)=true:=rfl;refine Rs (A8 t0 t1 t2 @Su q0 q1 q2 @aF) ?_;refine WF.ce T.c22 (r22 T (o.ext Xx) l n) λg1=>?_
 refine Rs t0 ?_;refine⟨_,rfl,(fO (f:=λy:jX×AV=>y.1.name)).trans ?_⟩;rw[<-ka];rfl
def Sf{V}(o:aD h V)(l:eO V)(n:By):aA P 195 [.agg V.row,.int .u8 ((lF (3,true)).toNat:Int),.str n] h (λv _=>∃i,v=.i i/\decide (0<=i)=dW V.an 3 n):=by
 refine .nW 36 T.mix T.c195 ?_;intro ts hlen t0 t1 t2;unfold fn195 gA;have Su:=@aD.box _ _ o;have q0:decide (((lF (3,true)).toNat:Int)=108)=false:=rfl;have q1:decide (((lF (3,true)).toNat:Int)=116)=false:=rfl;have q2:decide (((lF (3,true)).toNat:Int)=115)=false:=rfl;have q3:decide (((lF (3,true)).toNat:Int)=109)=true:=rfl;refine Rs (A9 t0 t1 t2 @Su q0 q1 q2 q3 @aF) ?_;refine WF.ce T.c55 (r55 T (o.ext Xx) l n) λg1=>?_
 refine Rs t0 ?_;refine⟨_,rfl,(fO (f:=λy:cQ×AV=>y.1.name)).trans ?_⟩;rw[<-iE];rfl
def Se{V}(o:aD h V)(l:eO V)(n:By):aA P 195 [.agg V.row,.int .u8 ((lF (4,true)).toNat:Int),.str n] h (λv _=>∃i,v=.i i/\decide (0<=i)=dW V.an 4 n):=by
 refine .nW 36 T.mix T.c195 ?_;intro ts hlen t0 t1 t2;unfold fn195 gA;have Su:=@aD.box _ _ o;have q0:decide (((lF (4,true)).toNat:Int)=108)=false:=rfl;have q1:decide (((lF (4,true)).toNat:Int)=116)=false:=rfl;have q2:decide (((lF (4,true)).toNat:Int)=115)=false:=rfl;have q3:decide (((lF (4,true)).toNat:Int)=109)=false:=rfl;have q4:decide (((lF (4,true)).toNat:Int)=106)=true:=rfl;refine Rs (na t0 t1 t2 @Su q0 q1 q2 q3 q4 @aF) ?_;refine WF.ce T.c56 (r56 T (o.ext Xx) l n) λg1=>?_
 refine Rs t0 ?_;refine⟨_,rfl,(fO (f:=λy:kF×AV=>y.1.name)).trans ?_⟩;rw[<-iF];rfl
def Sd{V}(o:aD h V)(l:eO V)(n:By):aA P 195 [.agg V.row,.int .u8 ((lF (5,true)).toNat:Int),.str n] h (λv _=>∃i,v=.i i/\decide (0<=i)=dW V.an 5 n):=by
 refine .nW 36 T.mix T.c195 ?_;intro ts hlen t0 t1 t2;unfold fn195 gA;have Su:=@aD.box _ _ o;have q0:decide (((lF (5,true)).toNat:Int)=108)=false:=rfl;have q1:decide (((lF (5,true)).toNat:Int)=116)=false:=rfl;have q2:decide (((lF (5,true)).toNat:Int)=115)=false:=rfl;have q3:decide (((lF (5,true)).toNat:Int)=109)=false:=rfl;have q4:decide (((lF (5,true)).toNat:Int)=106)=false:=rfl;refine Rs (na t0 t1 t2 @Su q0 q1 q2 q3 q4 @aF) ?_;refine WF.ce T.c57 (r57 T (o.ext Xx) l n) λg1=>?_
 refine Rs t0 ?_;exact⟨_,rfl,fO (f:=λy:nP=>y.name)⟩
def r195{V}(o:aD h V)(l:eO V){t}(ht:t<6)(n:By):aA P 195 [.agg V.row,.int .u8 ((lF (t,true)).toNat:Int),.str n] h (λv _=>∃i,v=.i i/\decide (0<=i)=dW V.an t n):=by
 match t,ht with
 | 0,_=>exact Sj T o l n
 | 1,_=>exact Sh T o l n
 | 2,_=>exact Sg T o l n
 | 3,_=>exact Sf T o l n
 | 4,_=>exact Se T o l n
 | 5,_=>exact Sd T o l n
def r223{V x d}(o:aD h V)(l:eO V)(ox:bh h x)(wx:jY x.ev d):aA P 223 [.agg V.row,.agg x.row] h (λv _=>v=.i (kM d V.an x.ev)):=by
 refine .eP 55 T.mix T.c223 ?_;intro ts hlen t0 t1;unfold fn223;have Su:=@aD.box _ _ o;have hex:=@bh.box _ _ ox;refine Rs (A5 t0 t1 @Su @hex @bA) ?_;refine WF.ce T.c101 (r101 T _) λg1=>?_
 unfold zC;rw[wx.kd];obtain⟨L,hL⟩:∃L,L=bJ d:=⟨_,rfl⟩;have hnl:x.ev.names.length=L.length:=by rw[hL];exact wx.nl
 have XW:L.length<=3:=by rw[hL];cases d<;>decide
 have Yt:∀r∈L,r.1<6:=by rw[hL];exact EH d
 have T4:(xY d).length=L.length:=by rw[xY,ZL,hL]
 refine Rs (A2 t0 t1) ?_;obtain⟨H,hH⟩:∃H,H=h++[ak.b V.row]++[ak.b x.row]++g1:=⟨_,rfl⟩;obtain⟨eb,heb⟩:∃eb,eb=(h++[ak.b V.row]).length:=⟨_,rfl⟩;have Tf:Ext h H:=by rw[hH];exact Xx
 have mr:H[h.length]? =some (.b V.row):=by rw[hH];exact(show Ext (h++[ak.b V.row]) _ from Xx).some aV
 have me:H[eb]? =some (.b x.row):=by rw[hH,heb];exact(show Ext (h++[ak.b V.row]++[ak.b x.row]) _ from Xx).some aV
 rw[<-hH,<-heb];have Vs:∀(i:Nat) (hi:i<L.length),aZ 1 x.sn (.i (i:Int))=some (cT x.sn 1 i,.ay):=λi hi=>ox.n.dE Om
 have hld:∀(i:Nat) (hi:i<L.length) (k':ah),Ext h k'->aq none (cT x.sn 1 i) (λb=>k'[b]?)=some (.str (aL x.ev i),.ay):=λi hi k' e=>by
  exact z75
 have hixs:∀(i:Nat) (hi:i<L.length),wu (.str (xY d)) (.i (i:Int))=some (.int .u8 ((lF L[i]).toNat:Int)):=λi hi=>by
  have hi':i<(xY d).length:=Om
  rw[jU hi'];have:(xY d)[i]=lF L[i]:=by simp only[xY,hL,aaN]
  rw[this]
 refine WL.inv T.mix (λm ts h'=>∃k:Nat,k<=L.length/\m=L.length-k/\Ext H h'/\nf V.an x.ev L 0=nf V.an x.ev (L.drop k) k/\ts.length=55/\slot ts 2=.ptr h.length 0/\slot ts 3=.ptr eb 0/\slot ts 5=.str (xY d)/\slot ts 6=.i k) L.length
  ⟨0,Om,rfl,.refl _,rfl,Sn,Sw,Sw,Sw,gP⟩ ?_
 clear t0 t1 hlen Su hex;clear ts;rintro _ ts h' ⟨k,hk,rfl,hx,hu,hlen,t2,t3,t5,t6⟩;have le:∀{kk n a},Ext h' kk->aq n (.ptr eb a) (λz=>kk[z]?)=dJ n a (.b x.row):=λ{_ _ _} e=>aB ((hx.trans e).some me)
 have lr:∀{kk n a},Ext h' kk->aq n (.ptr h.length a) (λz=>kk[z]?)=dJ n a (.b V.row):=λ{_ _ _} e=>aB ((hx.trans e).some mr)
 by_cases hlt:k<L.length
 ·have e3:=eC hlt;have e5:=wrapN (n:=k) Om;have iy:=Vs k hlt;have ly:∀{k'},Ext h' k'->aq none (cT x.sn 1 k) (λb=>k'[b]?)=some (.str (aL x.ev k),.ay):=λ{k'} e=>hld k hlt k' ((Tf.trans hx).trans e)
  have ii:=hixs k hlt;have hd:L.drop k=L[k]::L.drop (k+1):=Si
  obtain⟨r,VO⟩:∃r,r=L[k]:=⟨_,rfl⟩;have Xh:r.1<6:=by rw[VO];exact Yt _ (ZR _)
  rw[hd,<-VO,nf]at hu;rw[<-VO]at ii;have qg:=Co r Xh;cases TK:r.2 with
  |false=>
   rw[TK]at hu qg;refine Rs (A9 t2 t3 t5 t6 @T4 e3 @ii @qg e5) ?_;exact Kw
  |true=>
   rw[TK]at hu qg;have er:r=(r.1,true):=by rw[<-TK]
   rw[er]at ii qg;refine Rs (xJ t2 t3 t5 t6 @T4 e3 @ii @qg @le @lr @aF @aO @iy @ly) ?_;refine WF.res T.c195 (r195 T ((o.ext (Tf.trans hx)).ext Xx) l Xh _) ?_;rintro _ g3 ⟨i,rfl,hi⟩;have qi:decide (i<0)= !dW V.an r.1 (aL x.ev k):=by rw[<-hi];by_cases h0:0<=i<;>simp[h0]<;>omega
   cases hh:dW V.an r.1 (aL x.ev k)with
   |true=>
    rw[hh]at hu qi;have qi:decide (i<0)=false:=qi;refine Rs (A6 t2 t3 t5 t6 @qi e5) ?_;exact Kw
   |false=>
    rw[hh]at hu qi;have qi:decide (i<0)=true:=qi;have hu1:nf V.an x.ev L 0=true:=by rw[hu];rfl
    refine Rs (A5 t2 t3 t5 t6 @qi) ?_;refine⟨(Tf.trans hx).trans Xx,?_⟩;rw[CG,<-hL,ZS hu1]
 ·have e3:=ff hlt;have e4:k=L.length:=Om
  have Vp:nf V.an x.ev L 0=false:=by rw[hu,e4,aaF];rfl
  have Xd:=Tf.trans hx;rw[CG,<-hL,ZN (by rw[Vp];decide)];refine Rs (A6 t2 t3 t5 t6 @T4 e3) ?_;cases hLc:L with
  |nil=>
   have q0:decide ((0:Int)<(([] :List (Nat×Bool)).length:Int))=false:=rfl;refine Rs (A5 t2 t3 t5 t6 q0) ?_;exact⟨Xd,rfl⟩
  |cons r rest=>
   rw[El];have q0:decide ((0:Int)<((r::rest).length:Int))=true:=ZI (by simp only[ZG];omega);have XL:0<L.length:=by rw[hLc];simp
   have ii:wu (.str (xY d)) (.i 0)=some (.int .u8 ((lF r).toNat:Int)):=by
    have:=hixs 0 XL;simp only[hLc,abR]at this;exact this
   have Xh:r.1<6:=Yt r (by rw[hLc];simp);have qg:=Co r Xh;have qM:aZ 1 x.sn (.i 0)=some (cT x.sn 1 0,.ay):=Vs 0 XL;have ld0:∀{k':ah},Ext h' k'->aq none (cT x.sn 1 0) (λb=>k'[b]?)=some (.str (aL x.ev 0),.ay):=λ{k'} e=>hld 0 XL k' (Xd.trans e)
   cases TK:r.2 with
   |true=>
    rw[TK]at qg;have qg2:decide (((lF r).toNat:Int)<97)=false:=ZD (by have:=aaU qg;omega);refine Rs (A7 t2 t3 t5 t6 q0 @ii @qg2) ?_;exact⟨Xd,rfl⟩
   |false=>
    rw[TK]at qg;have qg2:decide (((lF r).toNat:Int)<97)=true:=ZI (by have:=of_decide_eq_false qg;omega);have ew:=Bc r Xh TK;refine Rs (xJ t2 t3 t5 t6 q0 @ii @qg2 @le @lr @aF @aO @qM @ld0 @ew) ?_;refine WF.res T.c195 (r195 T (o.ext Xd) l Xh _) ?_;rintro _ g3 ⟨i,rfl,hi⟩;cases hh:dW V.an r.1 (aL x.ev 0)with
    |true=>
     exact z157
    |false=>
     exact z157
end
section
variable {P:Program}(T:fy P) {h:ah}
include T
def r84{V}(o:aD h V)(l:eO V){n}(hn:n∈jT V.an)(t:Int):aA P 84 [.agg V.row,.str n,.i t] h (λv _=>v=.bool (jJ V.an t n)):=by
 refine .nW 17 T.mix T.c84 ?_;intro ts hlen t0 t1 t2;unfold fn84;have Su:=@aD.box _ _ o;have hlt:=cL hn;have Td:a8 (jT V.an) n<V.aG.length:=by simpa [jT,RV.an]using hlt
 have ix:aZ 2 V.s1 (.i ((a8 (jT V.an) n:Nat):Int))=some (cT V.s1 2 (a8 (jT V.an) n),.ay):=o.i1.dE Td;have ev:jH V.an n=V.aG[a8 (jT V.an) n]:=cS (f:=sH.name) (l:=V.aG) hn;have ld:∀{k':ah},Ext h k'->aq none (mD V.s1 2 (a8 (jT V.an) n) 1) (λb=>k'[b]?)=some (.i (jH V.an n).last,.ay):=λ{k'} e=>by
  rw[ev];exact o.i1.qz Td rfl e
 refine Rs (A6 t0 t1 t2 @Su @lJ @aF) ?_;refine WF.ce T.c141 (r141 T (o.ext Xx) l n) λg1=>?_
 have ei:dm (λy:sH=>decide (y.name=n)) V.aG=(a8 (jT V.an) n:Int):=fk (f:=λy:sH=>y.name) hn;rw[ei];refine Rs (A5 t0 t1 t2 ix @ld) ?_;rfl
def r23{V}(o:aD h V)(l:eO V){x}(hx:aH h x.2 1 (x.1.aG.map ao))(hl:x.1.aG.length<2^30)(hk:∀n∈x.1.aG,n∈jT V.an)(t:Int):
  aA P 23 [.agg V.row,.agg (bf x),.i t] h (λv _=>v=.bool (gX V.an x.1 t)):=by
 refine .nW 23 T.mix T.c23 ?_;intro ts hlen t0 t1 t2;unfold fn23 gA;have Su:=@aD.box _ _ o;have ox:=hx.one;unfold bf at t1;refine Rs (A5 t0 t1 t2 @Su @ox) ?_;obtain⟨H,hH⟩:∃H,H=h++[ak.b V.row]++[ak.b [AV.str x.1.name,.str x.1.line,x.2]]:=⟨_,rfl⟩;obtain⟨sb,hsb⟩:∃sb,sb=(h++[ak.b V.row]).length:=⟨_,rfl⟩;have Tf:Ext h H:=by rw[hH];exact Xx
 have mr:H[h.length]? =some (.b V.row):=by rw[hH];exact(show Ext (h++[ak.b V.row]) _ from Xx).some aV
 have ms:H[sb]? =some (.b [AV.str x.1.name,.str x.1.line,x.2]):=by rw[hH,hsb];exact aV
 rw[<-hH,<-hsb];refine WL.inv T.mix (λn ts h'=>∃k:Nat,k<=x.1.aG.length/\n=x.1.aG.length-k/\Ext H h'/\gX V.an x.1 t=(x.1.aG.drop k).any (jJ V.an t)/\
   ts.length=23/\slot ts 2=.i t/\slot ts 3=.ptr h.length 0/\slot ts 4=.ptr sb 0/\slot ts 7=.i k) x.1.aG.length
  ⟨0,Om,rfl,.refl _,rfl,Sn,(Sq t2),Sw,Sw,gP⟩ ?_
 rintro _ ts h' ⟨k,Sz,rfl,he,hi,hlen,t2,t3,t4,t7⟩;have lr:∀{kk n a},Ext h' kk->aq n (.ptr h.length a) (λz=>kk[z]?)=dJ n a (.b V.row):=λ{_ _ _} e=>aB ((he.trans e).some mr)
 have ls:∀{kk n a},Ext h' kk->aq n (.ptr sb a) (λz=>kk[z]?)=dJ n a (.b [AV.str x.1.name,.str x.1.line,x.2]):=λ{_ _ _} e=>aB ((he.trans e).some ms)
 by_cases hlt:k<x.1.aG.length
 ·have e3:=eC hlt;have e5:=wrapN (n:=k) Om;have ix:=hx.dE (kk:=.i64) hlt;have hd:x.1.aG.drop k=x.1.aG[k]::x.1.aG.drop (k+1):=Si
  have hm:=hk x.1.aG[k] (ZR _);have ld:∀{kk:ah},Ext h' kk->aq none (cT x.2 1 k) (λb=>kk[b]?)=some (.str x.1.aG[k],.ay):=λ{kk} e=>hx.kg hlt rfl ((Tf.trans he).trans e)
  rw[hd,ab1]at hi;obtain⟨y,hy⟩:∃y,y=x.1.aG[k]:=⟨_,rfl⟩;rw[<-hy]at ld hi hm;refine Rs (mZ t2 t3 t4 t7 @ls @lr hx.aK e3 ix @ld @aF) ?_;refine WF.ce T.c84 (r84 T ((o.ext (Tf.trans he)).ext Xx) l hm t) λg3=>?_
  cases hr:jJ V.an t y with
  |true=>
   rw[hr]at hi;refine Rs (A4 t2 t3 t4 t7) ?_;refine⟨(Tf.trans he).trans Xx,?_⟩;rw[hi];rfl
  |false=>
   rw[hr]at hi;refine Rs (A5 t2 t3 t4 t7 e5) ?_;exact⟨_,Om,k+1,Om,rfl,he.trans Xx,hi,rfl⟩
 ·have e3:=ff hlt;have e4:k=x.1.aG.length:=Om
  refine Rs (A7 t2 t3 t4 t7 @ls hx.aK e3) ?_;refine⟨Tf.trans he,?_⟩;rw[hi,e4,aaF];rfl
end
def any_eq{α:Type}{p:α->Bool}{L:List α}{k:Nat}(hlt:k<L.length):(L.drop k).any p=(p L[k]||(L.drop (k+1)).any p):=by
 have hd:L.drop k=L[k]::L.drop (k+1):=Si
 rw[hd,ab1]
section
variable {P:Program}(T:fy P) {h:ah}
include T
def r263(n:Int):aA P 263 [.i n] h (λv _=>v=.dL [.str (ng n),.str (jW n)]):=by
 refine .lB 11 T.mix T.c263 ?_;intro ts hlen t0;unfold fn263 gA;by_cases h1:n=1
 ·have q1:decide (n=1)=true:=ZI h1;refine Rs (A2 t0 q1) ?_;subst h1;rfl
 have q1:decide (n=1)=false:=ZD h1;by_cases h2:n=2
 ·have q2:decide (n=2)=true:=ZI h2;refine Rs (A3 t0 q1 q2) ?_;subst h2;rfl
 have q2:decide (n=2)=false:=ZD h2;by_cases h3:n=3
 ·have q3:decide (n=3)=true:=ZI h3;refine Rs (A4 t0 q1 q2 q3) ?_;subst h3;rfl
 have q3:decide (n=3)=false:=ZD h3;refine Rs (A4 t0 q1 q2 q3) ?_;rw[ng,ZN h1,ZN h2,ZN h3,jW,ZN h1,ZN h2];rfl
def r265{V:RV}(o:aD h V)(l:eO V)(n:By):aA P 265 [.agg V.row,.str n] h (λv _=>v=.bool (lz V.an n)):=by
 refine .eP 21 T.mix T.c265 ?_;intro ts hlen t0 t1;unfold fn265 gA;have Su:=@aD.box _ _ o;have hl:=l.l5;refine Rs (A3 t0 t1 @Su) ?_;refine WL.inv T.mix (λm ts h'=>∃k:Nat,k<=V.aJ.length/\m=V.aJ.length-k/\h' =h++[ak.b V.row]/\lz V.an n=(V.aJ.drop k).any (λp=>decide (p.jw=n))/\ts.length=21/\slot ts 1=.str n/\slot ts 2=.ptr h.length 0/\slot ts 5=.i k) V.aJ.length
  ⟨0,Om,rfl,rfl,rfl,Sn,(Sq t1),Sw,gP⟩ ?_
 rintro _ ts _ ⟨k,hk,rfl,rfl,hi,hlen,t1,t2,t5⟩;have lb:∀{kk n a},Ext (h++[ak.b V.row]) kk->aq n (.ptr h.length a) (λz=>kk[z]?)=dJ n a (.b V.row):=λ{_ _ _} e=>aB (e.some aV)
 by_cases hlt:k<V.aJ.length
 ·have e3:=eC hlt;have ix:=o.i5.dE (kk:=.i64) hlt;have e5:=wrapN (n:=k) Om;rw[any_eq hlt]at hi;obtain⟨y,hy⟩:∃y,y=V.aJ[k]:=⟨_,rfl⟩;have ld:∀{kk:ah},Ext h kk->aq none (mD V.s5 4 k 1) (λb=>kk[b]?)=some (.str y.jw,.ay):=λ{kk} e=>o.i5.qz hlt (by rw[<-hy];rfl) e
  rw[<-hy]at hi;cases hp:decide (y.jw=n)with
  |true=>
   rw[hp]at hi;refine Rs (na t1 t2 t5 @lb @gY o.i5.aK e3 ix @ld @hp) ?_;rw[hi];rfl
  |false=>
   rw[hp]at hi;refine Rs (mZ t1 t2 t5 @lb @gY o.i5.aK e3 ix @ld @hp e5) ?_;exact⟨_,Om,k+1,Om,rfl,hi,rfl⟩
 ·have e3:=ff hlt;have e4:k=V.aJ.length:=Om
  refine Rs (A7 t1 t2 t5 @lb @gY o.i5.aK e3) ?_;rw[hi,e4,aaF];rfl
def r264{V}(o:aD h V)(l:eO V){n}(hn:n∈fL V.an):aA P 264 [.agg V.row,.str n] h (λv _=>v=.str (gT V.an n).gives):=by
 refine .eP 13 T.mix T.c264 ?_;intro ts hlen t0 t1;unfold fn264;have Su:=@aD.box _ _ o;have hlt:=cL hn;have Td:a8 (fL V.an) n<V.ar.length:=by simpa [fL,RV.an]using hlt
 have ix:aZ 4 V.s3 (.i ((a8 (fL V.an) n:Nat):Int))=some (cT V.s3 4 (a8 (fL V.an) n),.ay):=o.i3.dE Td;have ev:gT V.an n=(V.ar[a8 (fL V.an) n]).1:=by
  rw[gT,cS (f:=cQ.name) (l:=V.an.ar) (d:=yp) hn];exact Eh
 have ld:∀{k':ah},Ext h k'->aq none (mD V.s3 4 (a8 (fL V.an) n) 1) (λb=>k'[b]?)=some (.str (gT V.an n).gives,.ay):=λ{k'} e=>by
  rw[ev];exact o.i3.qz Td rfl e
 refine Rs (A5 t0 t1 @Su @fx @aF) ?_;refine WF.ce T.c55 (r55 T (o.ext Xx) l n) λg1=>?_
 have ei:dm (λy:cQ×AV=>decide (y.1.name=n)) V.ar=(a8 (fL V.an) n:Int):=by
  rw[iE];exact fk (f:=λy:cQ×AV=>y.1.name) (by rw[<-iE];exact hn)
 exact z119
def r31{s l}(hs:aH h s 1 (l.map aM))(hl:l.length<2^30)(hb:∀s∈l,-1<=s/\s<=999999999):aA P 31 [s] h (λv _=>v=.i (fP l)):=by
 refine .lB 20 T.mix T.c31 ?_;intro ts hlen t0;unfold fn31 gA;refine Rs t0 ?_;refine WL.inv T.mix (λn ts h'=>∃k:Nat,k<=l.length/\n=l.length-k/\h' =h/\ts.length=20/\slot ts 0=s/\slot ts 3=.i (fP (l.take k))/\slot ts 4=.i k) l.length
  ⟨0,Om,rfl,rfl,Sn,(Sq t0),gP,gP⟩ ?_
 rintro _ ts h' ⟨k,hk,rfl,rfl,hlen,t0,t3,t4⟩;by_cases hlt:k<l.length
 ·have e3:=eC hlt;have e5:=wrapN (n:=k) Om;have ix:=hs.dE (kk:=.i64) hlt;have ld:=hs.kg (i:=k) (x:=.i l[k]) hlt rfl (Ext.refl _);have hd:=ux (l.take k) 1 (λs hs=>hb s (aaD hs)) De De;have UM:=hb _ (ZR hlt);have Ta:-16777213<fP (l.take k)/\fP (l.take k)<16777213:=hd;have w1:IntKind.i64.wrap (257*fP (l.take k))=257*fP (l.take k):=bj Om Om;have w2:IntKind.i64.wrap (257*fP (l.take k)+l[k])=257*fP (l.take k)+l[k]:=bj Om Om;have er:=oZ (k:=.i64) (a:=257*fP (l.take k)+l[k]) (b:=16777213) De;have SU:fP (l.take (k+1))=(257*fP (l.take k)+l[k]).tmod 16777213:=by
   exact KJ
  rw[<-SU]at er;refine Rs (mZ t0 t3 t4 hs.aK e3 ix @ld @w1 @w2 @er e5) ?_;exact⟨_,Om,k+1,Om,rfl,rfl,rfl⟩
 ·have e3:=ff hlt;have e4:k=l.length:=Om
  refine Rs (A5 t0 t3 t4 hs.aK e3) ?_;rw[e4,aam]
def r60{x}(hx:aH h x.2 1 (x.1.bd.map aM))(hl:x.1.bd.length<2^30):aA P 60 [.agg (bK x)] h (λv h'=>aH h' v 1 ((cI x.1.bd 0).map aM)):=by
 refine .lB 23 T.mix T.c60 ?_;intro ts hlen t0;unfold fn60 gA;have ox:=hx.one;unfold bK at t0;refine Rs (A2 t0 @ox) ?_;obtain⟨H0,WU⟩:∃H0,H0=h++[ak.b [AV.str x.1.name,.str x.1.mod,x.2]]:=⟨_,rfl⟩;have e0:Ext h H0:=by rw[WU];exact Xx
 have lb:∀{k n a},Ext H0 k->aq n (.ptr h.length a) (λz=>k[z]?)=dJ n a (.b [AV.str x.1.name,.str x.1.mod,x.2]):=λ{_ _ _} e=>aB (e.some (by rw[WU];exact aV))
 rw[<-WU];refine WL.inv T.mix (λn ts h'=>∃(k:Nat) (out:AV),k<=x.1.bd.length/\n=x.1.bd.length-k/\Ext H0 h'/\Fr H0.length h' out 1 ((cI (x.1.bd.take k) 0).map aM)/\
   ts.length=23/\slot ts 1=.ptr h.length 0/\slot ts 3=out/\slot ts 4=.i k) x.1.bd.length
  ⟨0,.af,Om,rfl,Ext.refl _,.nil,Sn,(Sq t0),(Sq t0),gP⟩ ?_
 rintro _ ts _ ⟨k,out,hk',rfl,⟨g,rfl⟩,hfr,hlen,t1,t3,t4⟩;by_cases hlt:k<x.1.bd.length
 ·have e3:=eC hlt;have ix:=hx.dE (kk:=.i64) hlt;have ld:∀{k':ah},Ext H0 k'->aq none (cT x.2 1 k) (λb=>k'[b]?)=some (.i x.1.bd[k],.ay):=λ{k'} e=>hx.kg hlt rfl (e0.trans e)
  have e5:=wrapN (n:=k) Om;have SU:cI (x.1.bd.take (k+1)) 0=cI (x.1.bd.take k) 0++(if x.1.bd[k]<0 then [(k:Int)]else []):=by
   exact Rb
  by_cases hn:x.1.bd[k]<0
  ·have q:decide (x.1.bd[k]<0)=true:=ZI hn;rw[ZS hn]at SU;refine Rs (A9 t1 t3 t4 @lb hx.aK e3 ix @ld q) ?_;have UL:=ke (l:=x.1.bd.take k) (i:=0);refine WR.fZ (h0:=H0) (cs:=(cI (x.1.bd.take k) 0).map aM) (ys:=[aM (k:Int)]) (hfr.app _) (Fr.push (N:=0) (aac _) [aM (k:Int)] Si).aX De Si (by simp only[ZL,aaB,ZG,ZJ]at UL ⊢;omega) Xx ?_;intro g' SI hff hkp;have hrow:(cI (x.1.bd.take k) 0).map aM++[aM (k:Int)]=(cI (x.1.bd.take (k+1)) 0).map aM:=by rw[SU,ZM];rfl
   rw[hrow]at hff;rw[hrow];refine Rs (A4 t1 t3 t4 e5) ?_;exact z49
  ·have q:decide (x.1.bd[k]<0)=false:=ZD hn;rw[ZN hn,Z6]at SU;refine Rs (na t1 t3 t4 @lb hx.aK e3 ix @ld q e5) ?_;refine⟨_,Om,k+1,out,Om,rfl,?_,rfl,rfl⟩;rw[SU];exact hfr
 ·have e3:=ff hlt;have e4:k=x.1.bd.length:=Om
  refine Rs (A6 t1 t3 t4 @lb hx.aK e3) ?_;rw[e4,aam]at hfr;exact⟨e0.trans Xx,hfr.aX⟩
def r127{V:RV}(o:aD h V)(l:eO V){M:List (By)}{s:AV}(hs:aH h s 1 (M.map ao))(hM:M.length<2^40):aA P 127 [.agg V.row,s] h (λv h'=>aH h' v 1 (((V.an.aj.filter λx=>decide (x.line∈M)).map jX.name).map ao)):=by
 refine .eP 32 T.mix T.c127 ?_;intro ts hlen t0 t1;unfold fn127 gA;have Su:=@aD.box _ _ o;refine Rs (A3 t0 t1 @Su) ?_;obtain⟨H,hH⟩:∃H,H=h++[ak.b V.row]:=⟨_,rfl⟩;have Tf:Ext h H:=by rw[hH];exact Xx
 have mr:H[h.length]? =some (.b V.row):=by rw[hH];exact aV
 rw[<-hH];have eu:(V.an.aj.filter λx=>decide (x.line∈M)).map jX.name=(V.aj.filter λx=>decide (x.1.line∈M)).map λx=>x.1.name:=by
  simp only[RV.an,abw,abj];rfl
 rw[eu];refine WL.inv T.mix (λn ts h'=>∃(k:Nat) (out:AV),k<=V.aj.length/\n=V.aj.length-k/\Ext H h'/\Fr H.length h' out 1 ((((V.aj.take k).filter λx=>decide (x.1.line∈M)).map λx=>x.1.name).map ao)/\
   ts.length=32/\slot ts 1=s/\slot ts 2=.ptr h.length 0/\slot ts 5=out/\slot ts 6=.i k) V.aj.length
  ⟨0,.af,Om,rfl,.refl _,.nil,Sn,(Sq t1),Sw,Sw,gP⟩ ?_
 rintro _ ts h' ⟨k,out,Sz,rfl,⟨g,rfl⟩,hfr,hlen,t1,t2,t5,t6⟩;have he:Ext H (H++g):=⟨_,rfl⟩;have lr:∀{kk n a},Ext (H++g) kk->aq n (.ptr h.length a) (λz=>kk[z]?)=dJ n a (.b V.row):=λ{_ _ _} e=>aB ((he.trans e).some mr)
 have UL:=l.l2;by_cases hlt:k<V.aj.length
 ·have e3:=eC hlt;have e5:=wrapN (n:=k) Om;have ix:=o.i2.dE (kk:=.i64) hlt;obtain⟨y,hy⟩:∃y,y=V.aj[k]:=⟨_,rfl⟩;have lf:∀{kk:ah},Ext (H++g) kk->aq none (mD V.s2 3 k 0) (λb=>kk[b]?)=some (.str y.1.name,.ay):=λ{kk} e=>o.i2.qz hlt (by rw[<-hy];rfl) ((Tf.trans he).trans e)
  have lg:∀{kk:ah},Ext (H++g) kk->aq none (mD V.s2 3 k 1) (λb=>kk[b]?)=some (.str y.1.line,.ay):=λ{kk} e=>o.i2.qz hlt (by rw[<-hy];rfl) ((Tf.trans he).trans e)
  have SU:V.aj.take (k+1)=V.aj.take k++[y]:=by rw[hy,aao,ZH hlt];rfl
  refine Rs (na t1 t2 t5 t6 @lr @fB o.i2.aK e3 ix @lg) ?_;refine WF.ce T.c35 (r35 T (hs.ext (Tf.trans he)) hM _) λg3=>?_
  cases hd:decide (y.1.line∈M)with
  |false=>
   refine Rs (A5 t1 t2 t5 t6 e5) ?_;exact Rg
  |true=>
   refine Rs (A8 t1 t2 t5 t6 @lr @fB ix @lf) ?_;have S4:((V.aj.take k).filter λx=>decide (x.1.line∈M)).length<=V.aj.length:=aat (aaj _ _) (by rw[aaB];omega);refine WR.fZ (h0:=H) (cs:=(((V.aj.take k).filter λx=>decide (x.1.line∈M)).map λx=>x.1.name).map ao) (ys:=[ao y.1.name]) ((hfr.app _).app _) (Fr.push (N:=0) (aac _) [ao y.1.name] (by simp[ao])).aX De Si (by simp only[ZL,ZG,ZJ];omega) (by rw[ZE,ZE];exact⟨_,rfl⟩) ?_;intro g' SI hff hkp;have hrow:(((V.aj.take k).filter λx=>decide (x.1.line∈M)).map λx=>x.1.name).map ao++[ao y.1.name]=(((V.aj.take (k+1)).filter λx=>decide (x.1.line∈M)).map λx=>x.1.name).map ao:=by
    exact N6
   rw[hrow]at hff;rw[hrow];refine Rs (A5 t1 t2 t5 t6 e5) ?_;exact z49
 ·have e3:=ff hlt;have e4:k=V.aj.length:=Om
  refine Rs (A8 t1 t2 t5 t6 @lr @fB o.i2.aK e3) ?_;rw[e4,aam]at hfr;exact⟨Tf.trans he,hfr.aX⟩
end
end Go.Abs
namespace Go.Abs
section
variable {P:Program}{ro:Option Nat->Prop}{ks:List Kt}{ts:TS}{Q:Ex->TS->ah->Prop}
def WR.Gf{h s y es cs ys h0 w d l}
  (hs:Fr h0.length h s es cs) (hy:aH h y es ys) (hes:0<es) (eG:(cs.length+ys.length)*w<=2^46) (he:Ext h0 h)
  (K:∀s' g,Fr h0.length (h0++g) s' es (cs++ys)->(∀b,b<h.length->sB s≠some b->(h0++g)[b]? =h[b]?)->h.length<=(h0++g).length->WP P ro l ks (put ts d s') (h0++g) Q):
  WR P ro (pR es w s y (λb=>h[b]?) h.length) false d l ks ts h Q:=by
 by_cases hn:ys.length=0
 ·have hys:ys=[]:=aay.1 hn;subst hys;obtain⟨g,rfl⟩:=he;rw[Z6]at K;have e:pR es w s y (λb=>(h0++g)[b]?) (h0++g).length=some (s,.ay):=by
   simp only[pR,hy.fq];cases hs with
   |nil=>simp
   |mk hN hb h'=>simp
  rw[e,ji];exact K s g hs (λ_ _ _=>rfl) (ZO _)
 ·refine WR.fZ hs hy hes Om eG he λg h1 h2 h3=>K _ g h2 (λb hb hne=>h3 b hb λb0 o n e Y8 hbb=>hne (by rw[Y8,hbb];rfl)) Om
end
def Fa{R}(w:eD R){x}(hx:x∈R.ar):gT R x.name=x:=jd (f:=cQ.name) w.n3.nd hx
def qb{m l x}:cp m (l++[x])=if x.name∈cp m l then cp m l++x.aI else cp m l:=by
 rw[cp,List.foldl_append];rfl
def vU{m}:∀{l},(∀x∈l,x.aI.length<=2)->(cp m l).length<=1+2*l.length:=by
 intro l;have key:∀(l:List cQ) (a:List (By)),(∀x∈l,x.aI.length<=2)->(l.foldl (λn x=>if x.name∈n then n++x.aI else n) a).length<=a.length+2*l.length:=by
  intro l
  induction l with
  |nil=>intro a _;simp
  |cons x l ih=>
   intro a hl;have h1:=hl x Si;have:=ih (if x.name∈a then a++x.aI else a) (λy hy=>hl y (Z8 _ hy));rw[abV];refine aat this ?_;split<;>simp only[ZB,ZG]<;>omega
 intro hl;exact key l [m] hl
set_option maxRecDepth 10000
attribute [local irreducible] WP WC WE WB WR WF WL WG gk WM
section
variable {P:Program}(T:fy P) {h:ah}
include T
def r58{V}(o:aD h V)(w:eD V.an)(m:By):aA P 58 [.agg V.row,.str m] h (λv h'=>aH h' v 1 (((dP V.an m).map cQ.name).map ao)):=by
 refine .eP 60 T.mix T.c58 ?_;intro ts hlen t0 t1;unfold fn58 gA;have Su:=@aD.box _ _ o;have l:=w.len;have hn32:V.ar.length<=32:=by have:=w.l3;simpa [RV.an]using this
 have hin:∀x∈V.an.ar,x.aI.length<=2:=λx hx=>(w.md x hx).2.1
 have hml:V.an.ar.length=V.ar.length:=by simp[RV.an]
 have ew:IntKind.i64.wrap ((V.ar.length:Int)-1)=(V.ar.length:Int)-1:=bj Om Om;have lb0:∀{kk n a},Ext (h++[ak.b V.row]) kk->aq n (.ptr h.length a) (λz=>kk[z]?)=dJ n a (.b V.row):=λ{_ _ _} e=>aB (e.some aV)
 refine Rs (A7 t0 t1 @Su @lb0 @fx o.i3.aK @ew) ?_;obtain⟨H,hH⟩:∃H,H=h++[ak.b V.row]:=⟨_,rfl⟩;have Tf:Ext h H:=by rw[hH];exact Xx
 have mr:H[h.length]? =some (.b V.row):=by rw[hH];exact aV
 rw[<-hH];refine WL.inv T.mix (λn ts h'=>∃(k:Nat) (ws:AV),k<=V.ar.length/\n=V.ar.length-k/\Ext H h'/\aH h' ws 1 ((cp m (V.an.ar.reverse.take k)).map ao)/\
   ts.length=60/\slot ts 2=.ptr h.length 0/\slot ts 5=ws/\slot ts 6=.i ((V.ar.length:Int)-1-k)) V.ar.length
  ⟨0,.slice H.length 0 1 1,Om,rfl,⟨_,rfl⟩,(Fr.push (N:=0) (aac _) [ao m] (by simp[ao])).aX,Sn,Sw,Sw,(by simp only[aS,aW,bo,bp,reduceAdd,reduceMul,reduceLeDiff,reduceEqDiff,bw,hlen,ZY,Z1];simp)⟩ ?_
 clear t0 t1 hlen lb0;clear ts;rintro _ ts h' ⟨k,ws,hk,rfl,⟨g,rfl⟩,V9,hlen,t2,t5,t6⟩;have he:Ext H (H++g):=⟨_,rfl⟩;have lr:∀{kk n a},Ext (H++g) kk->aq n (.ptr h.length a) (λz=>kk[z]?)=dJ n a (.b V.row):=λ{_ _ _} e=>aB ((he.trans e).some mr)
 have hwl:=vU (m:=m) (l:=V.an.ar.reverse.take k) (λx hx=>hin x (List.mem_reverse.1 (aaD hx)));have htl:(V.an.ar.reverse.take k).length<=32:=by rw[aaB,abx];omega
 by_cases hlt:k<V.ar.length
 ·have hi:V.ar.length-1-k<V.ar.length:=Om
  have ei:(V.ar.length:Int)-1-k=((V.ar.length-1-k:Nat):Int):=Om
  have e3:decide (0<=(V.ar.length:Int)-1-k)=true:=ZI Om;have e5:IntKind.i64.wrap ((V.ar.length:Int)-1-k-1)=(V.ar.length:Int)-1-((k+1:Nat):Int):=by rw[bj Om Om];omega
  have ix:aZ 4 V.s3 (.i ((V.ar.length:Int)-1-k))=some (cT V.s3 4 (V.ar.length-1-k),.ay):=by rw[ei];exact o.i3.dE hi
  obtain⟨y,hy⟩:∃y,y=V.ar[V.ar.length-1-k]:=⟨_,rfl⟩;have UU:y∈V.ar:=by rw[hy];exact ZR _
  have ld:∀{kk:ah},Ext (H++g) kk->aq (some 4) (cT V.s3 4 (V.ar.length-1-k)) (λb=>kk[b]?)=some (.agg (aP y),.ay):=λ{kk} e=>by rw[hy];exact o.i3.kf hi ((Tf.trans he).trans e)
  have SU:V.an.ar.reverse.take (k+1)=V.an.ar.reverse.take k++[y.1]:=by
   have hk':k<V.an.ar.reverse.length:=by rw[abx];omega
   rw[aao,ZH hk',List.getElem_reverse];simp only[RV.an,aaN,ZL,Option.toList_some,hy]
  have oy:=(o.e3 y UU).one;have hy3:=o.e3 y UU;unfold aP at ld;refine Rs (A9 t2 t5 t6 e3 @lr @fx ix @ld @oy) ?_;refine WF.ce T.c35 (r35 T (V9.ext Xx) Om _) λg3=>?_
  cases hd:decide (y.1.name∈cp m (V.an.ar.reverse.take k))with
  |false=>
   refine Rs (A4 t2 t5 t6 e5) ?_;refine⟨_,Om,k+1,ws,Om,rfl,?_,rfl,rfl⟩;rw[SU,qb,ZN (of_decide_eq_false hd)];exact V9.ext Xx
  |true=>
   refine Rs (A3 t2 t5 t6) ?_;obtain⟨H1,Xs⟩:∃H1,H1=H++g++[ak.b [AV.str y.1.name,.str y.1.gives,.str y.1.line,y.2]]++g3:=⟨_,rfl⟩;obtain⟨bx,Su⟩:∃bx,bx=(H++g).length:=⟨_,rfl⟩;have TW:Ext (H++g) H1:=by rw[Xs];exact Xx
   have mx:H1[bx]? =some (.b [AV.str y.1.name,.str y.1.gives,.str y.1.line,y.2]):=by rw[Xs,Su];exact(show Ext (H++g++[ak.b [AV.str y.1.name,.str y.1.gives,.str y.1.line,y.2]]) _ from Xx).some aV
   have hbl:bx<H1.length:=(ZC.1 mx).1;rw[<-Xs,<-Su];refine pr (λh=>h[bx]? =some (.b [AV.str y.1.name,.str y.1.gives,.str y.1.line,y.2])) ?_;refine db mx rfl rfl ?_;refine Rs t2 ?_;have x2:Ext H1 (H1++[ak.b []]):=⟨_,rfl⟩;have m2:(λh:ah=>h[bx]? =some (.b [AV.str y.1.name,.str y.1.gives,.str y.1.line,y.2])) (H1++[ak.b []]):=x2.some mx;refine db m2 rfl rfl ?_;refine Rs (A2 t2 t5) ?_;refine db m2 rfl rfl ?_;refine Rs (A2 t2 t5) ?_;refine WR.pQ (N:=H1.length) aV (ZO _) (V9.ext (TW.trans x2)) (by simp only[ZL];omega) λs' g5 Zo=>?_
   have x3:Ext H1 (H1++[ak.b []]++g5):=Xx;have m3:(λh:ah=>h[bx]? =some (.b [AV.str y.1.name,.str y.1.gives,.str y.1.line,y.2])) (H1++[ak.b []]++g5):=x3.some mx;refine Rs (A2 t2 t5) ?_;refine db m3 rfl rfl ?_;refine Rs (A2 t2 t5) ?_;refine lA m3 (v:=y.2) (λz hz=>?_) ?_
   ·simp only[aS,aW,bo,bp,reduceAdd,reduceMul,reduceLeDiff,reduceEqDiff,bw,hlen,ZY,Z1,t2,aB hz]
   refine Rs (A2 t2 t5) ?_;refine db m3 rfl rfl ?_;refine Rs (A2 t2 t5) ?_;have Uf:y.1.aI.length<=2:=hin y.1 (ZT UU);refine WR.Gf (h0:=H1) (ys:=y.1.aI.map ao) Zo (hy3.ext (((Tf.trans he).trans TW).trans x3)) De (by simp only[ZL];omega) x3 λs6 g6 hf6 hk6 hl6=>?_
   have m6:(λh:ah=>h[bx]? =some (.b [AV.str y.1.name,.str y.1.gives,.str y.1.line,y.2])) (H1++g6):=(Ext.app g6 (Ext.refl H1)).some mx;refine Rs (A2 t2 t5) ?_;refine pq m6 rfl ?_;refine Rs (A4 t2 t5 t6 e5) ?_;refine⟨_,Om,k+1,s6,Om,rfl,⟨_,by rw[Xs];simp only[ZE];rfl⟩,?_,rfl,rfl⟩;rw[SU,qb,ZS (aaU hd),ZM];exact hf6.aX
 ·have e3:decide (0<=(V.ar.length:Int)-1-k)=false:=ZD Om;have e4:k=V.ar.length:=Om
  refine Rs (A4 t2 t5 t6 e3) ?_;have hns:cp m (V.an.ar.reverse.take k)=cp m V.an.ar.reverse:=by rw[e4,<-hml,<-abx,aam]
  rw[hns]at V9 hwl;have eu:(dP V.an m).map cQ.name=(V.ar.filter λx=>decide (x.1.name∈cp m V.an.ar.reverse)).map λx=>x.1.name:=by
   rw[<-pH,iS,abj];rfl
  rw[eu];obtain⟨W,hW⟩:∃W,W=cp m V.an.ar.reverse:=⟨_,rfl⟩;rw[<-hW]at V9 hwl ⊢;have hwl2:W.length<=65:=Om
  clear hwl;refine WL.inv T.mix (λn ts h'=>∃(k:Nat) (out:AV),k<=V.ar.length/\n=V.ar.length-k/\Ext (H++g) h'/\Fr (H++g).length h' out 1 ((((V.ar.take k).filter λx=>decide (x.1.name∈W)).map λx=>x.1.name).map ao)/\
    ts.length=60/\slot ts 2=.ptr h.length 0/\slot ts 5=ws/\slot ts 8=out/\slot ts 9=.i k) V.ar.length
   ⟨0,.af,Om,rfl,.refl _,.nil,Sn,(Sq t2),(Sq t5),Sw,gP⟩ ?_
  clear t2 t5 t6 hlen lr hlt e3 e4 hk htl hns;clear ts k;rintro _ ts _ ⟨k,out,Sz,rfl,⟨g2,rfl⟩,hfr,hlen,t2,t5,t8,t9⟩;have SH:Ext (H++g) (H++g++g2):=⟨_,rfl⟩;have lr:∀{kk n a},Ext (H++g++g2) kk->aq n (.ptr h.length a) (λz=>kk[z]?)=dJ n a (.b V.row):=λ{_ _ _} e=>aB (((he.trans SH).trans e).some mr)
  by_cases hlt:k<V.ar.length
  ·have e3:=eC hlt;have e5:=wrapN (n:=k) Om;have ix:=o.i3.dE (kk:=.i64) hlt;obtain⟨y,hy⟩:∃y,y=V.ar[k]:=⟨_,rfl⟩;have lf:∀{kk:ah},Ext (H++g++g2) kk->aq none (mD V.s3 4 k 0) (λb=>kk[b]?)=some (.str y.1.name,.ay):=λ{kk} e=>o.i3.qz hlt (by rw[<-hy];rfl) (((Tf.trans he).trans SH).trans e)
   have SU:V.ar.take (k+1)=V.ar.take k++[y]:=by rw[hy,aao,ZH hlt];rfl
   refine Rs (na t2 t5 t8 t9 @lr @fx o.i3.aK e3 ix @lf) ?_;refine WF.ce T.c35 (r35 T (V9.ext SH) Om _) λg3=>?_
   cases hd:decide (y.1.name∈W)with
   |false=>
    refine Rs (A5 t2 t5 t8 t9 e5) ?_;exact Rg
   |true=>
    refine Rs (A8 t2 t5 t8 t9 @lr @fx ix @lf) ?_;have S4:((V.ar.take k).filter λx=>decide (x.1.name∈W)).length<=V.ar.length:=aat (aaj _ _) (by rw[aaB];omega);refine WR.fZ (h0:=H++g) (cs:=(((V.ar.take k).filter λx=>decide (x.1.name∈W)).map λx=>x.1.name).map ao) (ys:=[ao y.1.name]) ((hfr.app _).app _) (Fr.push (N:=0) (aac _) [ao y.1.name] (by simp[ao])).aX De Si (by simp only[ZL,ZG,ZJ];omega) (by rw[ZE,ZE];exact⟨_,rfl⟩) ?_;intro g' SI hff hkp;have hrow:(((V.ar.take k).filter λx=>decide (x.1.name∈W)).map λx=>x.1.name).map ao++[ao y.1.name]=(((V.ar.take (k+1)).filter λx=>decide (x.1.name∈W)).map λx=>x.1.name).map ao:=by
     exact N6
    rw[hrow]at hff;rw[hrow];refine Rs (A5 t2 t5 t8 t9 e5) ?_;exact z49
  ·have e3:=ff hlt;have e4:k=V.ar.length:=Om
   refine Rs (A8 t2 t5 t8 t9 @lr @fx o.i3.aK e3) ?_;rw[e4,aam]at hfr;exact⟨(Tf.trans he).trans SH,hfr.aX⟩
def r59{V}(o:aD h V)(w:eD V.an)(m:By):aA P 59 [.agg V.row,.str m] h (λv h'=>aH h' v 1 (((dV V.an m).map dX.name).map ao)):=by
 refine .eP 64 T.mix T.c59 ?_;intro ts hlen t0 t1;unfold fn59 gA;have Su:=@aD.box _ _ o;have l:=w.len;have hn32:V.ar.length<=32:=by have:=w.l3;simpa [RV.an]using this
 have hml:V.an.ar.length=V.ar.length:=by simp[RV.an]
 refine Rs (A4 t0 t1 @Su @aF) ?_;refine WF.res T.c58 (r58 T (o.ext Xx) w m) ?_;rintro ns g0 hns;obtain⟨M,hM⟩:∃M,M=dP V.an m:=⟨_,rfl⟩;rw[<-hM]at hns;have hMm:∀x∈M,x∈V.an.ar:=λx hx=>by rw[hM]at hx;exact(aaq.1 hx).1
 have hMl:M.length<=32:=by
  have h1:M.length<=V.an.ar.length:=by rw[hM];unfold dP;exact aaj _ _
  omega
 obtain⟨H,hH⟩:∃H,H=h++[ak.b V.row]++g0:=⟨_,rfl⟩;have Tf:Ext h H:=by rw[hH];exact Xx
 have mr:H[h.length]? =some (.b V.row):=by rw[hH];exact(show Ext (h++[ak.b V.row]) _ from Xx).some aV
 rw[<-hH]at hns ⊢;rw[abj]at hns;refine Rs (A2 t0 t1) ?_;obtain⟨F,hF⟩:∃F:List cQ->List (By),F=λl=>(l.filter λx=>decide (x.aI=[])).map cQ.line:=⟨_,rfl⟩
 refine WL.inv T.mix (λn ts h'=>∃(k:Nat) (out:AV),k<=M.length/\n=M.length-k/\Ext H h'/\Fr H.length h' out 1 ((F (M.take k)).map ao)/\
   ts.length=64/\slot ts 2=.ptr h.length 0/\slot ts 5=ns/\slot ts 6=out/\slot ts 7=.af/\slot ts 8=.i k) M.length
  ⟨0,.af,Om,rfl,.refl _,(by rw[hF];exact .nil),Sn,Sw,Sw,Sw,Sw,gP⟩ ?_
 rintro _ ts _ ⟨k,out,hk,rfl,⟨g,rfl⟩,hfr,hlen,t2,t5,t6,t7,t8⟩;have he:Ext H (H++g):=⟨_,rfl⟩;have lr:∀{kk n a},Ext (H++g) kk->aq n (.ptr h.length a) (λz=>kk[z]?)=dJ n a (.b V.row):=λ{_ _ _} e=>aB ((he.trans e).some mr)
 have hFl:∀j,(F (M.take j)).length<=M.length:=λj=>by
  rw[hF];simp only[ZL];exact aat (aaj _ _) (by rw[aaB];omega)
 by_cases hlt:k<M.length
 ·have e3:=eC hlt;have e5:=wrapN (n:=k) Om;have ix:=hns.dE (kk:=.i64) hlt;obtain⟨x,hx⟩:∃x,x=M[k]:=⟨_,rfl⟩;have Tm:x∈V.an.ar:=hMm x (by rw[hx];exact ZR _);have lf:∀{kk:ah},Ext (H++g) kk->aq none (cT ns 1 k) (λb=>kk[b]?)=some (.str x.name,.ay):=λ{kk} e=>hns.kg hlt (by rw[<-hx];rfl) (he.trans e)
  have Wh:x.name∈fL V.an:=ZT Tm;have hps:=cL Wh;have UK:a8 (fL V.an) x.name<V.ar.length:=by simpa [fL,RV.an]using hps
  have iy:aZ 4 V.s3 (.i ((a8 (fL V.an) x.name:Nat):Int))=some (cT V.s3 4 (a8 (fL V.an) x.name),.ay):=o.i3.dE UK;obtain⟨y,hy⟩:∃y,y=V.ar[a8 (fL V.an) x.name]:=⟨_,rfl⟩;have UU:y∈V.ar:=by rw[hy];exact ZR _
  have YW:y.1=x:=by
   have e1:=Fa w Tm;rw[gT,cS (f:=cQ.name) (l:=V.an.ar) (d:=yp) Wh]at e1;rw[<-e1,hy];exact Eh
  have ly:∀{kk:ah},Ext (H++g) kk->aq (some 4) (cT V.s3 4 (a8 (fL V.an) x.name)) (λb=>kk[b]?)=some (.agg (aP y),.ay):=λ{kk} e=>by rw[hy];exact o.i3.kf UK ((Tf.trans he).trans e)
  have SU:M.take (k+1)=M.take k++[x]:=by rw[hx,aao,ZH hlt];rfl
  have oy:=o.e3 y UU;have UJ:=oy.one;unfold aP at ly;refine Rs (pB t2 t5 t6 t7 t8 hns.aK e3 @lr @fx @aF ix @lf) ?_;refine WF.ce T.c55 (r55 T ((o.ext (Tf.trans he)).ext Xx) l _) λg1=>?_
  have ei:dm (λy:cQ×AV=>decide (y.1.name=x.name)) V.ar=(a8 (fL V.an) x.name:Int):=by
   rw[iE];exact fk (f:=λy:cQ×AV=>y.1.name) (by rw[<-iE];exact Wh)
  rw[ei];refine Rs (A9 t2 t5 t6 t7 t8 @iy @ly @UJ oy.aK) ?_;rw[YW];by_cases hin:x.aI=[]
  ·have q:decide ((x.aI.length:Int)=0)=true:=ZI (by rw[hin];rfl);refine Rs (A6 t2 t5 t6 t7 t8 q) ?_;have S4:=hFl k;refine WR.fZ (h0:=H) (cs:=(F (M.take k)).map ao) (ys:=[ao x.line]) (((hfr.app _).app _).app _) (Fr.push (N:=0) (aac _) [ao x.line] (by simp[ao])).aX De Si (by simp only[ZL,ZG,ZJ];omega) (by simp only[ZE];exact⟨_,rfl⟩) ?_;intro g' SI hff hkp;have hrow:(F (M.take k)).map ao++[ao x.line]=(F (M.take (k+1))).map ao:=by
    rw[SU,hF];simp only[aaL,aaM,ab8,hin,Z5,Z1,ZM,aar,abn]
   rw[hrow]at hff;rw[hrow];refine Rs (A6 t2 t5 t6 t7 t8 e5) ?_;exact z49
  ·have q:decide ((x.aI.length:Int)=0)=false:=ZD (λz=>hin (aay.1 Om));refine Rs (A7 t2 t5 t6 t7 t8 q e5) ?_;refine⟨_,Om,k+1,out,Om,rfl,?_,rfl,rfl⟩;have:F (M.take (k+1))=F (M.take k):=by
    rw[SU,hF];simp only[aaL,aaM,ab8,hin,Z9,aav,ZY,Z6]
   rw[this];exact(hfr.app _).app _
 ·have e3:=ff hlt;have e4:k=M.length:=Om
  rw[e4,aam]at hfr;have S4:=hFl M.length;rw[aam]at S4;have hsrc:∀y∈V.lines,decide (y.name∈F M)=decide (y.name∈(dP V.an m).map cQ.line):=λy hy=>by
   refine abd.2 ?_;rw[<-hM,hF];simp only[Z3,aaq,aah];constructor
   ·rintro⟨x,⟨h1,_⟩,h2⟩;exact⟨x,h1,h2⟩
   ·rintro⟨x,h1,h2⟩;refine⟨x,⟨h1,?_⟩,h2⟩;rcases(w.md x (hMm x h1)).1 with⟨a,_⟩|⟨_,a⟩
    ·exact a
    ·have hnn:=w.n0.nm y.name (ZT hy);rw[<-h2,a]at hnn;cases hnn
  have eu:(dV V.an m).map dX.name=(V.lines.filter λy=>decide (y.name∈F M)).map dX.name:=by
   rw[dV];congr 1;exact(abH λy hy=>hsrc y hy).symm
  rw[eu];obtain⟨W,hW⟩:∃W,W=F M:=⟨_,rfl⟩;rw[<-hW]at hfr S4 ⊢;have V9:=hfr.aX;refine Rs (A7 t2 t5 t6 t7 t8 hns.aK e3) ?_;refine WL.inv T.mix (λn ts h'=>∃(k:Nat) (res:AV),k<=V.lines.length/\n=V.lines.length-k/\Ext (H++g) h'/\Fr (H++g).length h' res 1 ((((V.lines.take k).filter λy=>decide (y.name∈W)).map dX.name).map ao)/\
    ts.length=64/\slot ts 2=.ptr h.length 0/\slot ts 6=out/\slot ts 7=res/\slot ts 10=.i k) V.lines.length
   ⟨0,.af,Om,rfl,.refl _,.nil,Sn,(Sq t2),(Sq t6),(Sq t7),gP⟩ ?_
  clear t2 t5 t6 t7 t8 hlen lr hlt e3 e4 hk;clear ts k;rintro _ ts _ ⟨k,res,Sz,rfl,⟨g2,rfl⟩,Vb,hlen,t2,t6,t7,t10⟩;have SH:Ext (H++g) (H++g++g2):=⟨_,rfl⟩;have lr:∀{kk n a},Ext (H++g++g2) kk->aq n (.ptr h.length a) (λz=>kk[z]?)=dJ n a (.b V.row):=λ{_ _ _} e=>aB (((he.trans SH).trans e).some mr)
  have UL:=l.l0;by_cases hlt:k<V.lines.length
  ·have e3:=eC hlt;have e5:=wrapN (n:=k) Om;have ix:=o.i0.dE (kk:=.i64) hlt;obtain⟨y,hy⟩:∃y,y=V.lines[k]:=⟨_,rfl⟩;have lf:∀{kk:ah},Ext (H++g++g2) kk->aq none (mD V.s0 3 k 0) (λb=>kk[b]?)=some (.str y.name,.ay):=λ{kk} e=>o.i0.qz hlt (by rw[<-hy];rfl) (((Tf.trans he).trans SH).trans e)
   have SU:V.lines.take (k+1)=V.lines.take k++[y]:=by rw[hy,aao,ZH hlt];rfl
   refine Rs (na t2 t6 t7 t10 @lr @fR o.i0.aK e3 ix @lf) ?_;refine WF.ce T.c35 (r35 T (V9.ext SH) Om _) λg3=>?_
   cases hd:decide (y.name∈W)with
   |false=>
    refine Rs (A5 t2 t6 t7 t10 e5) ?_;refine⟨_,Om,k+1,res,Om,rfl,?_,rfl,rfl⟩;rw[SU,aaL];simp only[aaM,ab8,hd,aav,ZY,Z6];exact Vb.app _
   |true=>
    refine Rs (A8 t2 t6 t7 t10 @lr @fR ix @lf) ?_;have hfl2:((V.lines.take k).filter λy=>decide (y.name∈W)).length<=V.lines.length:=aat (aaj _ _) (by rw[aaB];omega);refine WR.fZ (h0:=H++g) (cs:=(((V.lines.take k).filter λy=>decide (y.name∈W)).map dX.name).map ao) (ys:=[ao y.name]) ((Vb.app _).app _) (Fr.push (N:=0) (aac _) [ao y.name] (by simp[ao])).aX De Si (by simp only[ZL,ZG,ZJ];omega) (by rw[ZE,ZE];exact⟨_,rfl⟩) ?_;intro g' SI hff hkp;have hrow:(((V.lines.take k).filter λy=>decide (y.name∈W)).map dX.name).map ao++[ao y.name]=(((V.lines.take (k+1)).filter λy=>decide (y.name∈W)).map dX.name).map ao:=by
     exact N6
    rw[hrow]at hff;rw[hrow];refine Rs (A5 t2 t6 t7 t10 e5) ?_;exact z49
  ·have e3:=ff hlt;have e4:k=V.lines.length:=Om
   refine Rs (A8 t2 t6 t7 t10 @lr @fR o.i0.aK e3) ?_;rw[e4,aam]at Vb;exact⟨(Tf.trans he).trans SH,Vb.aX⟩
end
def vh{s c}:iL (s++[c])=(339*iL s+(c.toNat:Int)).tmod 9999749:=by simp[iL]
theorem yV:∀(s:By) (a:Int),0<=a/\a<9999749->0<=s.foldl (λx c=>(339*x+(c.toNat:Int)).tmod 9999749) a/\s.foldl (λx c=>(339*x+(c.toNat:Int)).tmod 9999749) a<9999749
 |[],_,h=>h
 |c::s,a,h=>by
  rw[abV];exact yV s _ ⟨Int.tmod_nonneg _ Om,Int.tmod_lt_of_pos _ Om⟩
def nS(s:By):0<=iL s/\iL s<9999749:=yV s 1 Om
def tY(s:By):(jP (iL s)).length<=7:=by
 have:=nS s;rw[kU];exact mE (k:=6) Om
def vg(s:By):(nR s).length=7:=by
 have:=tY s;unfold nR;rw[ZB,aaK];omega
theorem rN{c}:∀{xs},Lib.join xs [c]=jv c xs
 |[]=>rfl
 |[x]=>Lib.join_one x [c]
 |x::y::r=>by
  rw[nH Si,<-rN (xs:=y::r),Lib.join_cons,Lib.join_cons];simp[Lib.joinTail]
def C7:∀{xs},Lib.join xs []=xs.flatten
 |[]=>rfl
 |x::r=>by rw[Lib.join_cons];simp[Lib.joinTail]
section
variable {P:Program}(T:fy P) (Z:qC P) {h:ah}
include T Z
set_option maxRecDepth 10000 in
def r187(s:By)(hs:s.length<=2^40)(w:Pw h):aA P 187 [.str s] h (λv _=>v=.str (nR s)):=by
 refine .lB 28 T.mix T.c187 ?_;intro ts hlen t0;unfold fn187 gA;refine Rs t0 ?_;refine WL.inv T.mix (λn ts' h'=>∃k:Nat,k<=s.length/\n=s.length-k/\h' =h/\ts'.length=28/\slot ts' 0=.str s/\slot ts' 3=.i (iL (s.take k))/\slot ts' 7=.i s.length/\slot ts' 8=.i k) s.length
  ⟨0,Om,rfl,rfl,(Sq t0),(Sq t0),gP,(Sq t0),gP⟩ ?_
 rintro _ ts' _ ⟨k,hk,rfl,rfl,TN,u0,u3,u7,u8⟩;clear hlen t0;have hlen:=TN;by_cases hlt:k<s.length
 ·have e3:=eC hlt;have hb:=nS (s.take k);have hcn:=UInt8.toNat_lt s[k];have w1:IntKind.i64.wrap (339*iL (s.take k))=339*iL (s.take k):=bj Om Om;have w2:IntKind.i64.wrap (s[k].toNat:Int)=(s[k].toNat:Int):=bj Om Om;have w3:IntKind.i64.wrap (339*iL (s.take k)+(s[k].toNat:Int))=339*iL (s.take k)+(s[k].toNat:Int):=bj Om Om;have er:=oZ (k:=.i64) (a:=339*iL (s.take k)+(s[k].toNat:Int)) (b:=9999749) De;rw[<-vh,<-nh hlt]at er
  repeat (first|simp (config:={maxSteps:=1000000}) only[aS,aW,bo,bp,reduceAdd,reduceMul,reduceLeDiff,reduceEqDiff,bw,hlen,ZY,Z1,u0,u3,u7,u8,e3,jU hlt,w1,w2,w3,er,wrapN (show k+1<2^63 by omega)]|simp (config:={maxSteps:=1000000}) (disch:=first|(simp only[ZB,ZG,ZJ]<;>omega)|rfl|omega|fail) only[fN,aS,aW,bo,bp,reduceAdd,reduceMul,reduceLeDiff,reduceEqDiff,bw,hlen,ZY,Z1,u0,u3,u7,u8,e3,jU hlt,w1,w2,w3,er,wrapN (show k+1<2^63 by omega)])
  exact KC
 ·have e3:=ff hlt;have ek:k=s.length:=Om
  rw[ek,aam]at u3;have hb:=nS s;have hl:=tY s;refine Rs (A5 @u0 @u3 @u7 @u8 e3) ?_;refine WF.ce T.c113 (Z.itoa Om Om w) λg=>?_
  rw[gJ hb.1];have w1:IntKind.i64.wrap (7-((jP (iL s)).length:Int))=((7-(jP (iL s)).length:Nat):Int):=by rw[bj Om Om];omega
  refine Rs (A2 @u0 @w1) ?_;refine WF.ce T.c252 (Z.rep Om) λg2=>?_
  refine Rs (A2 @u0 (jR (show(List.replicate (7-(jP (iL s)).length) (48:UInt8)).length+(jP (iL s)).length<2^62 by rw[aaK];omega))) ?_;rfl
def yQ{x}(h0:0<=x)(h1:x<2^62)(w:Pw h):bE P (.func (.func 113) [] []) [.i x] h (λv _=>v=.str (jP x)):=by
 rw[<-gJ h0];exact bE.of (a:=[]) (c:=[]) T.c113 (Z.itoa Om Om w)
end
structure Q2(e:dN):Prop where
 num:0<=e.num/\e.num<2^62
 cB:∀x∈e.cB,0<=x/\x<2^62
 nl:e.names.length<=2^30
 vl:e.cB.length<=2^30
 bl:(iV e).length<=2^38
section
variable {P:Program}(T:fy P) (Z:qC P) {h:ah}
include T Z
set_option maxRecDepth 10000 in
def r186{x}(ox:bh h x)(en:Q2 x.ev)(w:Pw h):aA P 186 [.agg x.row] h (λv _=>v=.str (iV x.ev)):=by
 refine .lB 19 T.mix T.c186 ?_;intro ts hlen t0;unfold fn186 gA;have Su:=@bh.box _ _ ox;have hnl:=en.nl;have Tp:=en.vl;refine Rs (A5 t0 @Su @nJ @bA @aO) ?_;refine WF.ce T.c113 (Z.itoa (by have:=en.num;omega) (by have:=en.num;omega) (w.ext Xx)) λg1=>?_
 rw[gJ en.num.1];refine Rs (A4 t0 @nJ @bA @aO) ?_;have hF:=Fr.push (N:=h.length) (h:=h++[ak.b x.row]++g1) (es:=1) (by simp only[ZB];omega) (([jP x.ev.num,x.ev.kind] :List (By)).map ao) (by simp[ao]);refine WR.Gf (h0:=h) (cs:=([jP x.ev.num,x.ev.kind] :List (By)).map ao) (ys:=x.ev.names.map ao) hF (ox.n.ext Xx) De (by simp;omega) Xx ?_;intro s' g hfr hkp hle;rw[<-ZM]at hfr;have S9:(h++g)[h.length]? =some (.b x.row):=by
  rw[hkp _ (by simp only[ZB,Z4];omega) (λe=>by have e2:(h++[ak.b x.row]++g1).length=h.length:=aaE e;simp only[ZB,Z4]at e2;omega)];simp
 have lb:∀{k:ah}{n':Option Nat}{a:Nat},Ext (h++g) k->aq n' (.ptr h.length a) (λz=>k[z]?)=dJ n' a (.b x.row):=λe=>aB (e.some S9)
 refine Rs (A3 t0 @lb @aY) ?_;refine WF.res T.c199 (r199 T (ox.v.ext Xx) Om jP (λy hy k ek=>yQ T Z (en.cB y hy).1 (en.cB y hy).2 (w.ext (Ext.trans Xx ek)))) ?_;intro v g2 hv;refine Rs t0 ?_;refine WR.Gf (h0:=h) (hfr.app g2) hv.aX De (by simp;omega) Xx ?_;intro s2 g3 Vb hkp2 Va;rw[<-ZM]at Vb;refine Rs t0 ?_;have hbl:=en.bl;refine WF.ce T.c114 (Z.join Vb.aX ⟨by rw[rN];show(iV x.ev).length<=_;omega,by simp;omega⟩) λg4=>?_
 refine Rs t0 ?_;rw[rN];rfl
set_option maxRecDepth 10000 in
def r97{x}(ox:bh h x)(en:Q2 x.ev)(w:Pw h):aA P 97 [.agg x.row] h (λv _=>v=.str (vC x.ev)):=by
 refine .lB 12 T.mix T.c97 ?_;intro ts hlen t0;unfold fn97 gA;have Su:=@bh.box _ _ ox;have hbl:=en.bl;refine Rs (A3 t0 @Su @b9) ?_;refine WF.ce T.c186 (r186 T Z (ox.ext Xx) en (w.ext Xx)) λg=>?_
 refine Rs (A2 t0 (jR (show(iV x.ev).length+([35] :By).length<2^62 by simp;omega))) ?_;refine WF.ce T.c187 (r187 T Z _ Om (w.ext Xx)) λg2=>?_
 have h7:=vg (iV x.ev);refine Rs (A3 t0 (jR (show(iV x.ev++[35]).length+(nR (iV x.ev)).length<2^62 by simp;omega)) (jR (show(iV x.ev++[35]++nR (iV x.ev)).length+([10] :By).length<2^62 by simp;omega))) ?_;rfl
theorem Cu{e}:(vC e).length=(iV e).length+9:=by
 have:=vg (iV e);unfold vC;simp;omega
end
def Ext.hP{h W b X}(e:Ext h W)(hb:h.length<=b):Ext h (W.set b X):=by
 obtain⟨g,rfl⟩:=e;exact⟨g.set (b-h.length) X,aaA _ _ hb⟩
structure fc(B W0:ah)(b:Nat)(K:Nat->Prop)(W:ah)(U:RV):Prop where
 bk:bX B.length W b U
 ex:Ext B W
 ln:W0.length<=W.length
 kp:∀i,K i->W[i]? =W0[i]?
 kl:∀i,K i->i<W0.length/\i≠b/\some i∉U.bl
section
variable {B W0 W W2:ah}{b:Nat}{K:Nat->Prop}{U:RV}(s:fc B W0 b K W U)
include s
def fc.grow(e:Ext W W2):fc B W0 b K W2 U:=by
 obtain⟨g,rfl⟩:=e;refine⟨s.bk.app g,s.ex.trans ⟨g,rfl⟩,aat s.ln Si,λi hi=>?_,s.kl⟩;rw[ZF (aax (s.kl i hi).1 s.ln)];exact s.kp i hi
omit s in
theorem QG{L s' i}(h:some i∈{U with lines:=L,s0:=s'}.bl):some i∈U.bl\/sB s' =some i:=by
 exact J0
def fc.p0{L s'}(hff:Fr B.length W2 s' 3 (L.map bV))(hn:∀i,sB s' =some i->sB U.s0=some i\/W.length<=i)(hk:∀i,i<W.length->sB U.s0≠some i->W2[i]? =W[i]?)(hx:Ext B W2)(hl:W.length<=W2.length):
  fc B W0 b K (W2.set b (.b (U.row.set 1 s'))) {U with lines:=L,s0:=s'}:=by
 have hbl:=s.bk.lt;have SM:sB U.s0≠some b:=λz=>s.bk.ne (by rw[<-z];simp[RV.bl])
 have hsb:∀i,sB s' =some i->i≠b:=λi hi z=>by
  exact JY
 obtain⟨X,hX⟩:∃X,X=ak.b (U.row.set 1 s'):=⟨_,rfl⟩;rw[<-hX];have g2:∀i,i≠b->(W2.set b X)[i]? =W2[i]? :=λi hi=>ZV (aa3 hi)
 have gb:(W2.set b X)[b]? =some X:=ZU Om;refine⟨s.bk.NO (hff.aC λi hi=>g2 i (hsb i hi)) hn (by rw[hX]at gb ⊢;exact gb) (λi hi h1 h2=>(g2 i h2).trans (hk i hi h1)),hx.hP s.bk.hN,by rw[aap];exact aat s.ln hl,λi hi=>?_,λi hi=>?_⟩
 ·exact J1
 ·obtain⟨h1,h2,h3⟩:=s.kl i hi;refine⟨h1,h2,λhm=>?_⟩;rcases QG hm with z|z
  ·exact h3 z
  ·exact NY
def fc.q0{L}(hff:Fr B.length W2 U.s0 3 (L.map bV))(hk:∀i,i<W.length->sB U.s0≠some i->W2[i]? =W[i]?)(hx:Ext B W2)(hl:W.length<=W2.length):fc B W0 b K W2 {U with lines:=L}:=by
 have hbl:=s.bk.lt;have SM:sB U.s0≠some b:=λz=>s.bk.ne (by rw[<-z];simp[RV.bl])
 refine⟨s.bk.NO (s:=U.s0) hff (λi hi=>.inl hi) ((hk b hbl SM).trans s.bk.m) (λi hi h1 _=>hk i hi h1),hx,aat s.ln hl,λi hi=>?_,s.kl⟩;exact K5
omit s in
theorem QF{L s' i}(h:some i∈{U with aG:=L,s1:=s'}.bl):some i∈U.bl\/sB s' =some i:=by
 exact J0
def fc.p1{L s'}(hff:Fr B.length W2 s' 2 (L.map dY))(hn:∀i,sB s' =some i->sB U.s1=some i\/W.length<=i)(hk:∀i,i<W.length->sB U.s1≠some i->W2[i]? =W[i]?)(hx:Ext B W2)(hl:W.length<=W2.length):
  fc B W0 b K (W2.set b (.b (U.row.set 2 s'))) {U with aG:=L,s1:=s'}:=by
 have hbl:=s.bk.lt;have SM:sB U.s1≠some b:=λz=>s.bk.ne (by rw[<-z];simp[RV.bl])
 have hsb:∀i,sB s' =some i->i≠b:=λi hi z=>by
  exact JY
 obtain⟨X,hX⟩:∃X,X=ak.b (U.row.set 2 s'):=⟨_,rfl⟩;rw[<-hX];have g2:∀i,i≠b->(W2.set b X)[i]? =W2[i]? :=λi hi=>ZV (aa3 hi)
 have gb:(W2.set b X)[b]? =some X:=ZU Om;refine⟨s.bk.RI (hff.aC λi hi=>g2 i (hsb i hi)) hn (by rw[hX]at gb ⊢;exact gb) (λi hi h1 h2=>(g2 i h2).trans (hk i hi h1)),hx.hP s.bk.hN,by rw[aap];exact aat s.ln hl,λi hi=>?_,λi hi=>?_⟩
 ·exact J1
 ·obtain⟨h1,h2,h3⟩:=s.kl i hi;refine⟨h1,h2,λhm=>?_⟩;rcases QF hm with z|z
  ·exact h3 z
  ·exact NY
omit s in
theorem QB{L s' i}(h:some i∈{U with aJ:=L,s5:=s'}.bl):some i∈U.bl\/sB s' =some i:=by
 exact J0
def fc.p5{L s'}(hff:Fr B.length W2 s' 4 (L.map cF))(hn:∀i,sB s' =some i->sB U.s5=some i\/W.length<=i)(hk:∀i,i<W.length->sB U.s5≠some i->W2[i]? =W[i]?)(hx:Ext B W2)(hl:W.length<=W2.length):
  fc B W0 b K (W2.set b (.b (U.row.set 6 s'))) {U with aJ:=L,s5:=s'}:=by
 have hbl:=s.bk.lt;have SM:sB U.s5≠some b:=λz=>s.bk.ne (by rw[<-z];simp[RV.bl])
 have hsb:∀i,sB s' =some i->i≠b:=λi hi z=>by
  exact JY
 obtain⟨X,hX⟩:∃X,X=ak.b (U.row.set 6 s'):=⟨_,rfl⟩;rw[<-hX];have g2:∀i,i≠b->(W2.set b X)[i]? =W2[i]? :=λi hi=>ZV (aa3 hi)
 have gb:(W2.set b X)[b]? =some X:=ZU Om;refine⟨s.bk.NN (hff.aC λi hi=>g2 i (hsb i hi)) hn (by rw[hX]at gb ⊢;exact gb) (λi hi h1 h2=>(g2 i h2).trans (hk i hi h1)),hx.hP s.bk.hN,by rw[aap];exact aat s.ln hl,λi hi=>?_,λi hi=>?_⟩
 ·exact J1
 ·obtain⟨h1,h2,h3⟩:=s.kl i hi;refine⟨h1,h2,λhm=>?_⟩;rcases QB hm with z|z
  ·exact h3 z
  ·exact NY
def fc.q5{L}(hff:Fr B.length W2 U.s5 4 (L.map cF))(hk:∀i,i<W.length->sB U.s5≠some i->W2[i]? =W[i]?)(hx:Ext B W2)(hl:W.length<=W2.length):fc B W0 b K W2 {U with aJ:=L}:=by
 have hbl:=s.bk.lt;have SM:sB U.s5≠some b:=λz=>s.bk.ne (by rw[<-z];simp[RV.bl])
 refine⟨s.bk.NN (s:=U.s5) hff (λi hi=>.inl hi) ((hk b hbl SM).trans s.bk.m) (λi hi h1 _=>hk i hi h1),hx,aat s.ln hl,λi hi=>?_,s.kl⟩;exact K5
omit s in
theorem QE{y t s' i}(h:some i∈{U with aj:=U.aj++[(y,t)],s2:=s'}.bl):some i∈U.bl\/sB s' =some i\/sB t=some i:=by
 exact J0
def fc.p2{y t s'}(hff:Fr B.length W2 s' 3 ((U.aj++[(y,t)]).map bf))(ht:Fr B.length W2 t 1 (y.aG.map ao))(hn:∀i,sB s' =some i->sB U.s2=some i\/W.length<=i)(hnt:∀i,sB t=some i->W.length<=i/\sB s'≠some i)(hk:∀i,i<W.length->sB U.s2≠some i->W2[i]? =W[i]?)(hx:Ext B W2)(hl:W.length<=W2.length):
  fc B W0 b K (W2.set b (.b (U.row.set 3 s'))) {U with aj:=U.aj++[(y,t)],s2:=s'}:=by
 have hbl:=s.bk.lt;have SM:sB U.s2≠some b:=λz=>s.bk.ne (by rw[<-z];simp[RV.bl])
 have hsb:∀i,sB s' =some i->i≠b:=λi hi z=>by
  exact JY
 have htb:∀i,sB t=some i->i≠b:=λi hi z=>by
  exact Ag
 obtain⟨X,hX⟩:∃X,X=ak.b (U.row.set 3 s'):=⟨_,rfl⟩;rw[<-hX];have g2:∀i,i≠b->(W2.set b X)[i]? =W2[i]? :=λi hi=>ZV (aa3 hi)
 have gb:(W2.set b X)[b]? =some X:=ZU Om;refine⟨s.bk.RH (hff.aC λi hi=>g2 i (hsb i hi)) (ht.aC λi hi=>g2 i (htb i hi)) hn hnt (by rw[hX]at gb ⊢;exact gb) (λi hi h1 h2=>(g2 i h2).trans (hk i hi h1)),hx.hP s.bk.hN,by rw[aap];exact aat s.ln hl,λi hi=>?_,λi hi=>?_⟩
 ·exact J1
 ·obtain⟨h1,h2,h3⟩:=s.kl i hi;have XK:=s.ln;refine⟨h1,h2,λhm=>?_⟩;rcases QE hm with z|z|z
  ·exact h3 z
  ·rcases hn i z with z|z
   ·exact NX
   ·omega
  ·have:=(hnt i z).1;omega
omit s in
theorem QD{y t s' i}(h:some i∈{U with ar:=U.ar++[(y,t)],s3:=s'}.bl):some i∈U.bl\/sB s' =some i\/sB t=some i:=by
 exact J0
def fc.p3{y t s'}(hff:Fr B.length W2 s' 4 ((U.ar++[(y,t)]).map aP))(ht:Fr B.length W2 t 1 (y.aI.map ao))(hn:∀i,sB s' =some i->sB U.s3=some i\/W.length<=i)(hnt:∀i,sB t=some i->W.length<=i/\sB s'≠some i)(hk:∀i,i<W.length->sB U.s3≠some i->W2[i]? =W[i]?)(hx:Ext B W2)(hl:W.length<=W2.length):
  fc B W0 b K (W2.set b (.b (U.row.set 4 s'))) {U with ar:=U.ar++[(y,t)],s3:=s'}:=by
 have hbl:=s.bk.lt;have SM:sB U.s3≠some b:=λz=>s.bk.ne (by rw[<-z];simp[RV.bl])
 have hsb:∀i,sB s' =some i->i≠b:=λi hi z=>by
  exact JY
 have htb:∀i,sB t=some i->i≠b:=λi hi z=>by
  exact Ag
 obtain⟨X,hX⟩:∃X,X=ak.b (U.row.set 4 s'):=⟨_,rfl⟩;rw[<-hX];have g2:∀i,i≠b->(W2.set b X)[i]? =W2[i]? :=λi hi=>ZV (aa3 hi)
 have gb:(W2.set b X)[b]? =some X:=ZU Om;refine⟨s.bk.RG (hff.aC λi hi=>g2 i (hsb i hi)) (ht.aC λi hi=>g2 i (htb i hi)) hn hnt (by rw[hX]at gb ⊢;exact gb) (λi hi h1 h2=>(g2 i h2).trans (hk i hi h1)),hx.hP s.bk.hN,by rw[aap];exact aat s.ln hl,λi hi=>?_,λi hi=>?_⟩
 ·exact J1
 ·obtain⟨h1,h2,h3⟩:=s.kl i hi;have XK:=s.ln;refine⟨h1,h2,λhm=>?_⟩;rcases QD hm with z|z|z
  ·exact h3 z
  ·rcases hn i z with z|z
   ·exact NX
   ·omega
  ·have:=(hnt i z).1;omega
omit s in
theorem QC{y t s' i}(h:some i∈{U with aE:=U.aE++[(y,t)],s4:=s'}.bl):some i∈U.bl\/sB s' =some i\/sB t=some i:=by
 exact J0
def fc.p4{y t s'}(hff:Fr B.length W2 s' 3 ((U.aE++[(y,t)]).map bK))(ht:Fr B.length W2 t 1 (y.bd.map aM))(hn:∀i,sB s' =some i->sB U.s4=some i\/W.length<=i)(hnt:∀i,sB t=some i->W.length<=i/\sB s'≠some i)(hk:∀i,i<W.length->sB U.s4≠some i->W2[i]? =W[i]?)(hx:Ext B W2)(hl:W.length<=W2.length):
  fc B W0 b K (W2.set b (.b (U.row.set 5 s'))) {U with aE:=U.aE++[(y,t)],s4:=s'}:=by
 have hbl:=s.bk.lt;have SM:sB U.s4≠some b:=λz=>s.bk.ne (by rw[<-z];simp[RV.bl])
 have hsb:∀i,sB s' =some i->i≠b:=λi hi z=>by
  exact JY
 have htb:∀i,sB t=some i->i≠b:=λi hi z=>by
  exact Ag
 obtain⟨X,hX⟩:∃X,X=ak.b (U.row.set 5 s'):=⟨_,rfl⟩;rw[<-hX];have g2:∀i,i≠b->(W2.set b X)[i]? =W2[i]? :=λi hi=>ZV (aa3 hi)
 have gb:(W2.set b X)[b]? =some X:=ZU Om;refine⟨s.bk.RF (hff.aC λi hi=>g2 i (hsb i hi)) (ht.aC λi hi=>g2 i (htb i hi)) hn hnt (by rw[hX]at gb ⊢;exact gb) (λi hi h1 h2=>(g2 i h2).trans (hk i hi h1)),hx.hP s.bk.hN,by rw[aap];exact aat s.ln hl,λi hi=>?_,λi hi=>?_⟩
 ·exact J1
 ·obtain⟨h1,h2,h3⟩:=s.kl i hi;have XK:=s.ln;refine⟨h1,h2,λhm=>?_⟩;rcases QC hm with z|z|z
  ·exact h3 z
  ·rcases hn i z with z|z
   ·exact NX
   ·omega
  ·have:=(hnt i z).1;omega
def fc.qJ{i}(hi:i<U.aE.length){y}(hy:y.name=U.aE[i].1.name/\y.mod=U.aE[i].1.mod)(hf:Fr B.length W2 U.aE[i].2 1 (y.bd.map aM))(hk:∀j,j<W.length->sB U.aE[i].2≠some j->W2[j]? =W[j]?)(hx:Ext B W2)(hl:W.length<=W2.length):
  fc B W0 b K W2 {U with aE:=U.aE.set i (y,U.aE[i].2) }:=by
 have T8:sB U.aE[i].2∈U.bl:=by simp only[RV.bl,ZK,Z3];exact .inr ⟨_,ZR hi,rfl⟩
 have hbl:{U with aE:=U.aE.set i (y,U.aE[i].2) }.bl=U.bl:=by
  simp only[RV.bl,abJ];congr 1;have:sB U.aE[i].2=(U.aE.map λx=>sB x.2)[i]'(by simpa using hi):=Si
  exact HJ
 refine⟨s.bk.RE hi hy hf hk,hx,aat s.ln hl,λj hj=>?_,λj hj=>by rw[hbl];exact s.kl j hj⟩;obtain⟨h1,h2,h3⟩:=s.kl j hj;rw[hk j (aax h1 s.ln) (λz=>h3 (by rw[<-z];exact T8))];exact s.kp j hj
omit s in
theorem QA{i j y t}(h:some j∈{U with aj:=U.aj.set i (y,t) }.bl):some j∈U.bl\/sB t=some j:=by
 simp only[RV.bl,ZK,Z3]at h ⊢;rcases h with((h|⟨x,hx,h⟩)|h)|h
 ·exact .inl (.inl (.inl (.inl h)))
 ·rcases aaQ hx with hx|hx
  ·exact .inl (.inl (.inl (.inr ⟨x,hx,h⟩)))
  ·rw[hx]at h;exact .inr h
 ·exact .inl (.inl (.inr h))
 ·exact .inl (.inr h)
def fc.qS{i}(hi:i<U.aj.length){y t}(hs:Fr B.length W2 U.s2 3 ((U.aj.set i (y,t)).map bf))(ht:Fr B.length W2 t 1 (y.aG.map ao))(hnt:∀j,sB t=some j->W.length<=j)
  (hk:∀j,j<W.length->sB U.s2≠some j->sB U.aj[i].2≠some j->W2[j]? =W[j]?) (hx:Ext B W2) (hl:W.length<=W2.length):fc B W0 b K W2 {U with aj:=U.aj.set i (y,t) }:=by
 have m1:sB U.s2∈U.bl:=by simp[RV.bl]
 have m2:sB U.aj[i].2∈U.bl:=by simp only[RV.bl,ZK,Z3];exact .inl (.inl (.inr ⟨_,ZR hi,rfl⟩))
 refine⟨s.bk.RD hi hs ht hnt hk,hx,aat s.ln hl,λj hj=>?_,λj hj=>?_⟩
 ·obtain⟨h1,h2,h3⟩:=s.kl j hj;rw[hk j (aax h1 s.ln) (λz=>h3 (by rw[<-z];exact m1)) (λz=>h3 (by rw[<-z];exact m2))];exact s.kp j hj
 ·obtain⟨h1,h2,h3⟩:=s.kl j hj;refine⟨h1,h2,λhm=>?_⟩;rcases QA hm with z|z
  ·exact h3 z
  ·have:=hnt j z;have:=s.ln;omega
end
def ow(k:Nat):ai:=((fn224).body.dr k).hd
def qH(k:Nat):ai:=(fn224).body.dr k
def OU:qH 9=.seq (ow 9) .ret:=rfl
def OV:qH 8=.seq (ow 8) (qH 9):=rfl
def OW:qH 7=.seq (ow 7) (qH 8):=rfl
def OX:qH 6=.seq (ow 6) (qH 7):=rfl
def OY:qH 5=.seq (ow 5) (qH 6):=rfl
def OZ:qH 4=.seq (ow 4) (qH 5):=rfl
def O0:qH 3=.seq (ow 3) (qH 4):=rfl
def O1:qH 2=.seq (ow 2) (qH 3):=rfl
def O2:qH 1=.seq (ow 1) (qH 2):=rfl
def O3:fn224=⟨100,1,[(2,some (some 7))],.seq (ow 0) (qH 1)⟩:=rfl
def k9:List AV:=[.i 0,.af,.af,.af,.af,.af,.af]
def So(h:ah)(i:Nat):Prop:=i<h.length\/i=h.length+1
def xI(h:ah)(r:ak)(W:ah)(U:RV):Prop:=fc h (h++[r]++[.b k9]) h.length (So h) W U
def xI.rb{h W r U}(s:xI h r W U):W[h.length+1]? =some (.b k9):=by
 rw[fc.kp s _ (.inr rfl)];simp
def Kc(h:ah)(V:RV):AV->ah->Prop:=λv h'=>Ext h h'/\∃V':RV,V'.an=V.an/\v=.agg V'.row/\cJ h.length h' V'
section
variable {P:Program}(T:fy P) {h W:ah}{ts:TS}{V U:RV}{r:ak}
include T
def R7(s:xI h r W U)(hr:U.an=V.an)(hlen:ts.length=100)(t1:slot ts 1=.ptr h.length 0)(t2:slot ts 2=.ptr (h.length+1) 0):
  WC P bN (qH 9) [] ts W (FQ [(2,some (some 7))] (Kc h V)):=by
 have:=T.mix;rw[OU];unfold ow fn224 gA;simp only[ai.j,ai.s,ai.r,ai.dr,ai.tl,ai.hd];have lb:=@eQ _ _ _ s.bk.m;have sb:=@aN 7 (h.length+1) 0 (.agg U.row) (λz=>W[z]?) _ s.rb;have st:=@aD.st _ _ s.bk.o.ok;unfold k9 at sb;rw[st]at sb;have hl:=(ZC.1 s.rb).1;have gm:(W.set (h.length+1) (.b U.row))[h.length+1]? =some (.b U.row):=ZU hl
 repeat (first|simp (config:={maxSteps:=1000000}) only[aS,aW,bo,bp,reduceAdd,reduceMul,reduceLeDiff,reduceEqDiff,bw,hlen,ZY,Z1,t1,t2,lb,sb,aF,aB gm]|simp (config:={maxSteps:=1000000}) (disch:=first|(simp only[ZB,ZG,ZJ]<;>omega)|rfl|omega|fail) only[fN,aS,aW,bo,bp,reduceAdd,reduceMul,reduceLeDiff,reduceEqDiff,bw,hlen,ZY,Z1,t1,t2,lb,sb,aF,aB gm])
 refine⟨s.ex.hP Om,U,hr,rfl,s.bk.o.ay λi hi=>?_⟩;have:i≠h.length+1:=λe=>(s.kl _ (.inr rfl)).2.2 (e▸hi)
 rw[ZV (aa3 this)]
def O4(o:aD h V)(w:eD V.an)(hj:∀x∈V.aE,x.1.bd.length<=2^30)(s:xI h r W U)(hr:U.an={V.an with aE:=V.an.aE.take 0})(hlen:ts.length=100)(t1:slot ts 1=.ptr h.length 0)(t2:slot ts 2=.ptr (h.length+1) 0)(t5:slot ts 5=V.s4):
  WC P bN (qH 8) [] ts W (FQ [(2,some (some 7))] (Kc h V)):=by
 have hL:V.aE.length<=16:=by have:=w.l4;simpa [RV.an]using this
 have Yq:V.an.aE.length=V.aE.length:=by simp[RV.an]
 rw[OV];unfold ow fn224 gA;simp only[ai.j,ai.s,ai.r,ai.dr,ai.tl,ai.hd];refine Rs (A3 t1 t2 t5) ?_;refine WL.inv T.mix (λm ts h'=>∃(k:Nat) (U:RV),k<=V.aE.length/\m=V.aE.length-k/\xI h r h' U/\U.an={V.an with aE:=V.an.aE.take k}/\ts.length=100/\slot ts 1=.ptr h.length 0/\slot ts 2=.ptr (h.length+1) 0/\slot ts 5=V.s4/\slot ts 10=.i k) V.aE.length
  ⟨0,U,Om,rfl,s,hr,Sn,(Sq t1),(Sq t2),(Sq t5),gP⟩ ?_
 clear t1 t2 t5 hlen s hr;rintro _ ts W ⟨k,U,hk,rfl,s,hr,hlen,t1,t2,t5,t10⟩;have oW:=o.ext s.ex;by_cases hlt:k<V.aE.length
 ·have e3:=eC hlt;have e5:=wrapN (n:=k) Om;have ix:=oW.i4.dE (kk:=.i64) hlt;obtain⟨y,hy⟩:∃y,y=V.aE[k]:=⟨_,rfl⟩;have Ui:y∈V.aE:=by rw[hy];exact ZR _
  have ld:∀{k':ah},Ext W k'->aq (some 3) (cT V.s4 3 k) (λb=>k'[b]?)=some (.agg (bK y),.ay):=λ{k'} e=>by rw[hy];exact oW.i4.kf hlt e
  have oy:=oW.e4 y Ui;have UJ:=oy.one;unfold bK at ld;obtain⟨n,hn⟩:∃n,n=W.length:=⟨_,rfl⟩;refine Rs (A9 t1 t2 t5 t10 oW.i4.aK e3 ix @ld @UJ) ?_;refine WR.pQ (N:=n+1) aV (by rw[hn];simp) (oy.ext Xx) (by have:=hj y Ui;simp only[ZL];omega) λt g f=>?_
  have p1:=f.aX.one;rw[<-hn];obtain⟨W3,SR⟩:∃W3,W3=W++[ak.b [AV.str y.1.name,AV.str y.1.mod,y.2]]++[.b []]++g:=⟨_,rfl⟩;rw[<-SR]at f ⊢;have Yy:Ext W W3:=by rw[SR];exact Xx
  have l3:n+2<=W3.length:=by rw[SR,hn];simp only[ZB,ZG,ZJ];omega
  have m3:W3[n]? =some (.b [AV.str y.1.name,AV.str y.1.mod,y.2]):=by rw[SR,hn];exact(show Ext (W++[ak.b [AV.str y.1.name,AV.str y.1.mod,y.2]]) _ from Xx).some aV
  have X3:aU 1 (.ptr n 2) t (λz=>W3[z]?)=some (az,.set n (.b [AV.str y.1.name,AV.str y.1.mod,t])):=(aN m3).trans (bW p1 (by show 2+1<=3;omega));refine Rs (A6 t1 t2 t5 t10 @X3 @p1) ?_;obtain⟨W4,Ts⟩:∃W4,W4=W3.set n (.b [AV.str y.1.name,AV.str y.1.mod,t]):=⟨_,rfl⟩;rw[<-Ts];have l4:W4.length=W3.length:=by rw[Ts,aap]
  have k4:∀i,i≠n->W4[i]? =W3[i]? :=λi hi=>by rw[Ts,ZV (aa3 hi)]
  have m4:W4[n]? =some (.b [AV.str y.1.name,AV.str y.1.mod,t]):=by rw[Ts,ZU Om]
  have e4:Ext W W4:=by rw[Ts];exact Yy.hP Om
  have s4:xI h r W4 U:=s.grow e4;have f4:Fr (n+1) W4 t 1 (y.1.bd.map aM):=f.aC λi hi=>k4 i (by have:=(f.bP hi).1;omega)
  have lr:=@eQ _ _ _ s4.bk.m;have ln4:=@eQ _ _ _ m4;clear Yy m3 X3 f Ts SR;refine Rs (A8 t1 t2 t5 t10 @lr @ln4 @ga @p1) ?_;have UC:U.aE.length<=16:=by
   have h1:U.an.aE.length=U.aE.length:=by simp[RV.an]
   exact HO
  obtain⟨z,hz⟩:∃z:List AV,z=bK (y.1,t):=⟨_,rfl⟩;have Ur:[AV.str y.1.name,AV.str y.1.mod,t]=z:=by rw[hz];rfl
  rw[Ur];have YV:aH (W4++[ak.cells z true true]) (AV.slice W4.length 0 1 3) 3 [z]:=by
   exact Q6
  refine WR.fZ (h0:=h) (cs:=U.aE.map bK) (ys:=[z]) ((s4.bk.o.i4).app _) YV De Si (by simp only[ZL,ZG,ZJ];omega) (s4.ex.trans Xx) ?_;intro g' SI hff hkp;have hrow:U.aE.map bK++[z]=(U.aE++[(y.1,t)]).map bK:=by rw[ZM,hz];rfl
  rw[hrow]at hff;rw[hrow];obtain⟨s',Sx⟩:∃s',s' =AV.slice (W4++[ak.cells z true true]).length 0 ((U.aE++[(y.1,t)]).map bK).length 3:=⟨_,rfl⟩;rw[<-Sx]at hff;rw[<-Sx];have Us:sB s' =some (W4.length+1):=by rw[Sx];simp[sB]
  have q1:s'.one=true:=by rw[Sx];rfl
  obtain⟨W5,UY⟩:∃W5,W5=h++g':=⟨_,rfl⟩;rw[<-UY]at SI hff hkp ⊢;have hk1:∀i,i<W4.length->sB U.s4≠some i->W5[i]? =W4[i]? :=λi hi hne=>by
   exact NK
  have hl5:W4.length<=W5.length:=by rw[SI];simp only[ZB];omega
  have htb:∀i,sB t=some i->W.length<=i/\i<W4.length:=λi hi=>by have:=f4.bP hi;omega
  have bS:∀i,sB t=some i->sB U.s4≠some i:=λi hi e=>by
   exact NZ
  have f5:Fr h.length W5 t 1 (y.1.bd.map aM):=(f4.aC λi hi=>hk1 i (htb i hi).2 (bS i hi)).low (by have:=s.bk.lt;omega);have Yx:W.length<=W4.length:=e4.len;have s5:xI h r (W5.set h.length (.b (U.row.set 5 s'))) {U with aE:=U.aE++[(y.1,t)],s4:=s'}:=
   s.p4 hff f5 (λi hi=>.inr (by rw[Us]at hi;cases hi;omega)) (λi hi=>⟨(htb i hi).1,λe=>by rw[Us]at e;cases e;have:=(htb _ hi).2;omega⟩) (λi hi hne=>(hk1 i Om hne).trans (e4.get hi)) (by rw[UY];exact⟨_,rfl⟩) Om
  have mB:W5[h.length]? =some (.b U.row):=(hk1 _ s4.bk.lt (λz=>s4.bk.ne (by rw[<-z];simp[RV.bl]))).trans s4.bk.m;have Ud:aU 1 (.ptr h.length 5) s' (λz=>W5[z]?)=some (az,.set h.length (.b (U.row.set 5 s'))):=(aN mB).trans (bW q1 (by show 5+1<=7;omega));refine Rs (A7 t1 t2 t5 t10 @Ud q1 e5) ?_;refine⟨_,Om,k+1,_,Om,rfl,s5,?_,rfl⟩;have:V.an.aE.take (k+1)=V.an.aE.take k++[y.1]:=by
   exact NJ
  rw[this];have hf:(U.aE++[(y.1,t)]).map Prod.fst=V.an.aE.take k++[y.1]:=by
   have h1:U.an.aE=V.an.aE.take k:=by rw[hr]
   rw[ZM,<-h1];rfl
  have e:({U with aE:=U.aE++[(y.1,t)],s4:=s'}:RV).an={U.an with aE:=(U.aE++[(y.1,t)]).map Prod.fst}:=rfl;rw[e,hf,hr]
 ·have e3:decide ((k:Int)<V.aE.length)=false:=ZD Om;have e4:k=V.aE.length:=Om
  rw[e4,<-Yq,aam]at hr;refine Rs (A6 t1 t2 t5 t10 oW.i4.aK e3) ?_;refine R7 T s hr Sn (Sq t1) (Sq t2)
def O5(o:aD h V)(w:eD V.an)(hm:∀x∈V.ar,x.1.aI.length<=2^30)(hj:∀x∈V.aE,x.1.bd.length<=2^30)(s:xI h r W U)(hr:U.an={V.an with ar:=V.an.ar.take 0,aE:=[] })(hlen:ts.length=100)(t1:slot ts 1=.ptr h.length 0)(t2:slot ts 2=.ptr (h.length+1) 0)(t4:slot ts 4=V.s3)(t5:slot ts 5=V.s4):
  WC P bN (qH 7) [] ts W (FQ [(2,some (some 7))] (Kc h V)):=by
 have hL:V.ar.length<=32:=by have:=w.l3;simpa [RV.an]using this
 have Yq:V.an.ar.length=V.ar.length:=by simp[RV.an]
 rw[OW];unfold ow fn224 gA;simp only[ai.j,ai.s,ai.r,ai.dr,ai.tl,ai.hd];refine Rs (A3 t1 t2 t4) ?_;refine WL.inv T.mix (λm ts h'=>∃(k:Nat) (U:RV),k<=V.ar.length/\m=V.ar.length-k/\xI h r h' U/\U.an={V.an with ar:=V.an.ar.take k,aE:=[] }/\ts.length=100/\slot ts 1=.ptr h.length 0/\slot ts 2=.ptr (h.length+1) 0/\slot ts 4=V.s3/\slot ts 5=V.s4/\slot ts 8=.i k) V.ar.length
  ⟨0,U,Om,rfl,s,hr,Sn,(Sq t1),(Sq t2),(Sq t4),(Sq t5),gP⟩ ?_
 clear t1 t2 t4 t5 hlen s hr;rintro _ ts W ⟨k,U,hk,rfl,s,hr,hlen,t1,t2,t4,t5,t8⟩;have oW:=o.ext s.ex;by_cases hlt:k<V.ar.length
 ·have e3:=eC hlt;have e5:=wrapN (n:=k) Om;have ix:=oW.i3.dE (kk:=.i64) hlt;obtain⟨y,hy⟩:∃y,y=V.ar[k]:=⟨_,rfl⟩;have Ui:y∈V.ar:=by rw[hy];exact ZR _
  have ld:∀{k':ah},Ext W k'->aq (some 4) (cT V.s3 4 k) (λb=>k'[b]?)=some (.agg (aP y),.ay):=λ{k'} e=>by rw[hy];exact oW.i3.kf hlt e
  have oy:=oW.e3 y Ui;have UJ:=oy.one;unfold aP at ld;obtain⟨n,hn⟩:∃n,n=W.length:=⟨_,rfl⟩;refine Rs (na t1 t2 t4 t5 t8 oW.i3.aK e3 ix @ld @UJ) ?_;refine WR.pQ (N:=n+1) aV (by rw[hn];simp) (oy.ext Xx) (by have:=hm y Ui;simp only[ZL];omega) λt g f=>?_
  have p1:=f.aX.one;rw[<-hn];obtain⟨W3,SR⟩:∃W3,W3=W++[ak.b [AV.str y.1.name,AV.str y.1.gives,AV.str y.1.line,y.2]]++[.b []]++g:=⟨_,rfl⟩;rw[<-SR]at f ⊢;have Yy:Ext W W3:=by rw[SR];exact Xx
  have l3:n+2<=W3.length:=by rw[SR,hn];simp only[ZB,ZG,ZJ];omega
  have m3:W3[n]? =some (.b [AV.str y.1.name,AV.str y.1.gives,AV.str y.1.line,y.2]):=by rw[SR,hn];exact(show Ext (W++[ak.b [AV.str y.1.name,AV.str y.1.gives,AV.str y.1.line,y.2]]) _ from Xx).some aV
  have X3:aU 1 (.ptr n 3) t (λz=>W3[z]?)=some (az,.set n (.b [AV.str y.1.name,AV.str y.1.gives,AV.str y.1.line,t])):=(aN m3).trans (bW p1 (by show 3+1<=4;omega));refine Rs (A7 t1 t2 t4 t5 t8 @X3 @p1) ?_;obtain⟨W4,Ts⟩:∃W4,W4=W3.set n (.b [AV.str y.1.name,AV.str y.1.gives,AV.str y.1.line,t]):=⟨_,rfl⟩;rw[<-Ts];have l4:W4.length=W3.length:=by rw[Ts,aap]
  have k4:∀i,i≠n->W4[i]? =W3[i]? :=λi hi=>by rw[Ts,ZV (aa3 hi)]
  have m4:W4[n]? =some (.b [AV.str y.1.name,AV.str y.1.gives,AV.str y.1.line,t]):=by rw[Ts,ZU Om]
  have e4:Ext W W4:=by rw[Ts];exact Yy.hP Om
  have s4:xI h r W4 U:=s.grow e4;have f4:Fr (n+1) W4 t 1 (y.1.aI.map ao):=f.aC λi hi=>k4 i (by have:=(f.bP hi).1;omega)
  have lr:=@eQ _ _ _ s4.bk.m;have ln4:=@eQ _ _ _ m4;clear Yy m3 X3 f Ts SR;refine Rs (A9 t1 t2 t4 t5 t8 @lr @ln4 @fx @p1) ?_;have UC:U.ar.length<=32:=by
   have h1:U.an.ar.length=U.ar.length:=by simp[RV.an]
   exact HO
  obtain⟨z,hz⟩:∃z:List AV,z=aP (y.1,t):=⟨_,rfl⟩;have Ur:[AV.str y.1.name,AV.str y.1.gives,AV.str y.1.line,t]=z:=by rw[hz];rfl
  rw[Ur];have YV:aH (W4++[ak.cells z true true]) (AV.slice W4.length 0 1 4) 4 [z]:=by
   have:=(Fr.push (N:=0) (es:=4) (h:=W4) (aac _) [z] (λx hx=>by rw[ZW]at hx;rw[hx,hz];rfl)).aX
   simpa using this
  refine WR.fZ (h0:=h) (cs:=U.ar.map aP) (ys:=[z]) ((s4.bk.o.i3).app _) YV De Si (by simp only[ZL,ZG,ZJ];omega) (s4.ex.trans Xx) ?_;intro g' SI hff hkp;have hrow:U.ar.map aP++[z]=(U.ar++[(y.1,t)]).map aP:=by rw[ZM,hz];rfl
  rw[hrow]at hff;rw[hrow];obtain⟨s',Sx⟩:∃s',s' =AV.slice (W4++[ak.cells z true true]).length 0 ((U.ar++[(y.1,t)]).map aP).length 4:=⟨_,rfl⟩;rw[<-Sx]at hff;rw[<-Sx];have Us:sB s' =some (W4.length+1):=by rw[Sx];simp[sB]
  have q1:s'.one=true:=by rw[Sx];rfl
  obtain⟨W5,UY⟩:∃W5,W5=h++g':=⟨_,rfl⟩;rw[<-UY]at SI hff hkp ⊢;have hk1:∀i,i<W4.length->sB U.s3≠some i->W5[i]? =W4[i]? :=λi hi hne=>by
   exact NK
  have hl5:W4.length<=W5.length:=by rw[SI];simp only[ZB];omega
  have htb:∀i,sB t=some i->W.length<=i/\i<W4.length:=λi hi=>by have:=f4.bP hi;omega
  have bS:∀i,sB t=some i->sB U.s3≠some i:=λi hi e=>by
   exact NZ
  have f5:Fr h.length W5 t 1 (y.1.aI.map ao):=(f4.aC λi hi=>hk1 i (htb i hi).2 (bS i hi)).low (by have:=s.bk.lt;omega);have Yx:W.length<=W4.length:=e4.len;have s5:xI h r (W5.set h.length (.b (U.row.set 4 s'))) {U with ar:=U.ar++[(y.1,t)],s3:=s'}:=
   s.p3 hff f5 (λi hi=>.inr (by rw[Us]at hi;cases hi;omega)) (λi hi=>⟨(htb i hi).1,λe=>by rw[Us]at e;cases e;have:=(htb _ hi).2;omega⟩) (λi hi hne=>(hk1 i Om hne).trans (e4.get hi)) (by rw[UY];exact⟨_,rfl⟩) Om
  have mB:W5[h.length]? =some (.b U.row):=(hk1 _ s4.bk.lt (λz=>s4.bk.ne (by rw[<-z];simp[RV.bl]))).trans s4.bk.m;have Ud:aU 1 (.ptr h.length 4) s' (λz=>W5[z]?)=some (az,.set h.length (.b (U.row.set 4 s'))):=(aN mB).trans (bW q1 (by show 4+1<=7;omega));refine Rs (A8 t1 t2 t4 t5 t8 @Ud q1 e5) ?_;refine⟨_,Om,k+1,_,Om,rfl,s5,?_,rfl⟩;have:V.an.ar.take (k+1)=V.an.ar.take k++[y.1]:=by
   exact NJ
  rw[this];have hf:(U.ar++[(y.1,t)]).map Prod.fst=V.an.ar.take k++[y.1]:=by
   have h1:U.an.ar=V.an.ar.take k:=by rw[hr]
   rw[ZM,<-h1];rfl
  have e:({U with ar:=U.ar++[(y.1,t)],s3:=s'}:RV).an={U.an with ar:=(U.ar++[(y.1,t)]).map Prod.fst}:=rfl;rw[e,hf,hr]
 ·have e3:decide ((k:Int)<V.ar.length)=false:=ZD Om;have e4:k=V.ar.length:=Om
  rw[e4,<-Yq,aam]at hr;refine Rs (A7 t1 t2 t4 t5 t8 oW.i3.aK e3) ?_;refine O4 T o w hj s hr Sn (Sq t1) (Sq t2) (Sq t5)
def O6(o:aD h V)(w:eD V.an)(hs:∀x∈V.aj,x.1.aG.length<=2^30)(hm:∀x∈V.ar,x.1.aI.length<=2^30)(hj:∀x∈V.aE,x.1.bd.length<=2^30)(s:xI h r W U)(hr:U.an={V.an with aj:=V.an.aj.take 0,ar:=[],aE:=[] })(hlen:ts.length=100)(t1:slot ts 1=.ptr h.length 0)(t2:slot ts 2=.ptr (h.length+1) 0)(t3:slot ts 3=V.s2)(t4:slot ts 4=V.s3)(t5:slot ts 5=V.s4):
  WC P bN (qH 6) [] ts W (FQ [(2,some (some 7))] (Kc h V)):=by
 have hL:V.aj.length<=64:=by have:=w.l2;simpa [RV.an]using this
 have Yq:V.an.aj.length=V.aj.length:=by simp[RV.an]
 rw[OX];unfold ow fn224 gA;simp only[ai.j,ai.s,ai.r,ai.dr,ai.tl,ai.hd];refine Rs (A3 t1 t2 t3) ?_;refine WL.inv T.mix (λm ts h'=>∃(k:Nat) (U:RV),k<=V.aj.length/\m=V.aj.length-k/\xI h r h' U/\U.an={V.an with aj:=V.an.aj.take k,ar:=[],aE:=[] }/\ts.length=100/\slot ts 1=.ptr h.length 0/\slot ts 2=.ptr (h.length+1) 0/\slot ts 3=V.s2/\slot ts 4=V.s3/\slot ts 5=V.s4/\slot ts 6=.i k) V.aj.length
  ⟨0,U,Om,rfl,s,hr,Sn,(Sq t1),(Sq t2),(Sq t3),(Sq t4),(Sq t5),gP⟩ ?_
 clear t1 t2 t3 t4 t5 hlen s hr;rintro _ ts W ⟨k,U,hk,rfl,s,hr,hlen,t1,t2,t3,t4,t5,t6⟩;have oW:=o.ext s.ex;by_cases hlt:k<V.aj.length
 ·have e3:=eC hlt;have e5:=wrapN (n:=k) Om;have ix:=oW.i2.dE (kk:=.i64) hlt;obtain⟨y,hy⟩:∃y,y=V.aj[k]:=⟨_,rfl⟩;have Ui:y∈V.aj:=by rw[hy];exact ZR _
  have ld:∀{k':ah},Ext W k'->aq (some 3) (cT V.s2 3 k) (λb=>k'[b]?)=some (.agg (bf y),.ay):=λ{k'} e=>by rw[hy];exact oW.i2.kf hlt e
  have oy:=oW.e2 y Ui;have UJ:=oy.one;unfold bf at ld;obtain⟨n,hn⟩:∃n,n=W.length:=⟨_,rfl⟩;refine Rs (mZ t1 t2 t3 t4 t5 t6 oW.i2.aK e3 ix @ld @UJ) ?_;refine WR.pQ (N:=n+1) aV (by rw[hn];simp) (oy.ext Xx) (by have:=hs y Ui;simp only[ZL];omega) λt g f=>?_
  have p1:=f.aX.one;rw[<-hn];obtain⟨W3,SR⟩:∃W3,W3=W++[ak.b [AV.str y.1.name,AV.str y.1.line,y.2]]++[.b []]++g:=⟨_,rfl⟩;rw[<-SR]at f ⊢;have Yy:Ext W W3:=by rw[SR];exact Xx
  have l3:n+2<=W3.length:=by rw[SR,hn];simp only[ZB,ZG,ZJ];omega
  have m3:W3[n]? =some (.b [AV.str y.1.name,AV.str y.1.line,y.2]):=by rw[SR,hn];exact(show Ext (W++[ak.b [AV.str y.1.name,AV.str y.1.line,y.2]]) _ from Xx).some aV
  have X3:aU 1 (.ptr n 2) t (λz=>W3[z]?)=some (az,.set n (.b [AV.str y.1.name,AV.str y.1.line,t])):=(aN m3).trans (bW p1 (by show 2+1<=3;omega));refine Rs (A8 t1 t2 t3 t4 t5 t6 @X3 @p1) ?_;obtain⟨W4,Ts⟩:∃W4,W4=W3.set n (.b [AV.str y.1.name,AV.str y.1.line,t]):=⟨_,rfl⟩;rw[<-Ts];have l4:W4.length=W3.length:=by rw[Ts,aap]
  have k4:∀i,i≠n->W4[i]? =W3[i]? :=λi hi=>by rw[Ts,ZV (aa3 hi)]
  have m4:W4[n]? =some (.b [AV.str y.1.name,AV.str y.1.line,t]):=by rw[Ts,ZU Om]
  have e4:Ext W W4:=by rw[Ts];exact Yy.hP Om
  have s4:xI h r W4 U:=s.grow e4;have f4:Fr (n+1) W4 t 1 (y.1.aG.map ao):=f.aC λi hi=>k4 i (by have:=(f.bP hi).1;omega)
  have lr:=@eQ _ _ _ s4.bk.m;have ln4:=@eQ _ _ _ m4;clear Yy m3 X3 f Ts SR;refine Rs (na t1 t2 t3 t4 t5 t6 @lr @ln4 @fB @p1) ?_;have UC:U.aj.length<=64:=by
   have h1:U.an.aj.length=U.aj.length:=by simp[RV.an]
   exact HO
  obtain⟨z,hz⟩:∃z:List AV,z=bf (y.1,t):=⟨_,rfl⟩;have Ur:[AV.str y.1.name,AV.str y.1.line,t]=z:=by rw[hz];rfl
  rw[Ur];have YV:aH (W4++[ak.cells z true true]) (AV.slice W4.length 0 1 3) 3 [z]:=by
   exact Q6
  refine WR.fZ (h0:=h) (cs:=U.aj.map bf) (ys:=[z]) ((s4.bk.o.i2).app _) YV De Si (by simp only[ZL,ZG,ZJ];omega) (s4.ex.trans Xx) ?_;intro g' SI hff hkp;have hrow:U.aj.map bf++[z]=(U.aj++[(y.1,t)]).map bf:=by rw[ZM,hz];rfl
  rw[hrow]at hff;rw[hrow];obtain⟨s',Sx⟩:∃s',s' =AV.slice (W4++[ak.cells z true true]).length 0 ((U.aj++[(y.1,t)]).map bf).length 3:=⟨_,rfl⟩;rw[<-Sx]at hff;rw[<-Sx];have Us:sB s' =some (W4.length+1):=by rw[Sx];simp[sB]
  have q1:s'.one=true:=by rw[Sx];rfl
  obtain⟨W5,UY⟩:∃W5,W5=h++g':=⟨_,rfl⟩;rw[<-UY]at SI hff hkp ⊢;have hk1:∀i,i<W4.length->sB U.s2≠some i->W5[i]? =W4[i]? :=λi hi hne=>by
   exact NK
  have hl5:W4.length<=W5.length:=by rw[SI];simp only[ZB];omega
  have htb:∀i,sB t=some i->W.length<=i/\i<W4.length:=λi hi=>by have:=f4.bP hi;omega
  have bS:∀i,sB t=some i->sB U.s2≠some i:=λi hi e=>by
   exact NZ
  have f5:Fr h.length W5 t 1 (y.1.aG.map ao):=(f4.aC λi hi=>hk1 i (htb i hi).2 (bS i hi)).low (by have:=s.bk.lt;omega);have Yx:W.length<=W4.length:=e4.len;have s5:xI h r (W5.set h.length (.b (U.row.set 3 s'))) {U with aj:=U.aj++[(y.1,t)],s2:=s'}:=
   s.p2 hff f5 (λi hi=>.inr (by rw[Us]at hi;cases hi;omega)) (λi hi=>⟨(htb i hi).1,λe=>by rw[Us]at e;cases e;have:=(htb _ hi).2;omega⟩) (λi hi hne=>(hk1 i Om hne).trans (e4.get hi)) (by rw[UY];exact⟨_,rfl⟩) Om
  have mB:W5[h.length]? =some (.b U.row):=(hk1 _ s4.bk.lt (λz=>s4.bk.ne (by rw[<-z];simp[RV.bl]))).trans s4.bk.m;have Ud:aU 1 (.ptr h.length 3) s' (λz=>W5[z]?)=some (az,.set h.length (.b (U.row.set 3 s'))):=(aN mB).trans (bW q1 (by show 3+1<=7;omega));refine Rs (A9 t1 t2 t3 t4 t5 t6 @Ud q1 e5) ?_;refine⟨_,Om,k+1,_,Om,rfl,s5,?_,rfl⟩;have:V.an.aj.take (k+1)=V.an.aj.take k++[y.1]:=by
   exact NJ
  rw[this];have hf:(U.aj++[(y.1,t)]).map Prod.fst=V.an.aj.take k++[y.1]:=by
   have h1:U.an.aj=V.an.aj.take k:=by rw[hr]
   rw[ZM,<-h1];rfl
  have e:({U with aj:=U.aj++[(y.1,t)],s2:=s'}:RV).an={U.an with aj:=(U.aj++[(y.1,t)]).map Prod.fst}:=rfl;rw[e,hf,hr]
 ·have e3:decide ((k:Int)<V.aj.length)=false:=ZD Om;have e4:k=V.aj.length:=Om
  rw[e4,<-Yq,aam]at hr;refine Rs (A8 t1 t2 t3 t4 t5 t6 oW.i2.aK e3) ?_;refine O5 T o w hm hj s hr Sn (Sq t1) (Sq t2) (Sq t4) (Sq t5)
def O7(o:aD h V)(w:eD V.an)(hs:∀x∈V.aj,x.1.aG.length<=2^30)(hm:∀x∈V.ar,x.1.aI.length<=2^30)(hj:∀x∈V.aE,x.1.bd.length<=2^30)
  {W0}(hW0:W0=h++[.b V.row]++[.b k9]) (hlen:ts.length=100) (t1:slot ts 1=.ptr h.length 0) (t2:slot ts 2=.ptr (h.length+1) 0):
  WC P bN (qH 1) [] ts W0 (FQ [(2,some (some 7))] (Kc h V)):=by
 have nb0:V.lines.length<=16:=w.l0;have nb5:V.aJ.length<=16:=w.l5;have nb1:V.aG.length<=16:=w.l1;have o0:=o.i0.one;have o1:=o.i1.one;have o2:=o.i2.one;have o3:=o.i3.one;have o4:=o.i4.one;have o5:=o.i5.one;have m0:W0[h.length]? =some (.b [AV.i V.tick,V.s0,V.s1,V.s2,V.s3,V.s4,V.s5]):=by rw[hW0];simp;rfl
 have z0:W0[h.length+1]? =some (.b k9):=by rw[hW0];simp
 have e0:Ext h W0:=by rw[hW0];exact Xx
 rw[O2,O1,O0,OZ,OY];unfold ow fn224 gA;simp only[ai.j,ai.s,ai.r,ai.dr,ai.tl,ai.hd];obtain⟨n0,Xj⟩:∃n,n=W0.length:=⟨_,rfl⟩;have lr0:=@eQ _ _ _ m0;refine Rs (A4 t1 t2 @lr0 @o0) ?_;refine WR.pQ (N:=n0) (w:=32) aV (Nat.le_of_eq Xj) ((o.i0.ext e0).ext Xx) (by simp only[ZL];omega) λa0 g0 f0=>?_
 have p0:=f0.aX.one;obtain⟨Y0,hY0⟩:∃Y,Y=W0++[ak.b []]++g0:=⟨_,rfl⟩;rw[<-hY0]at f0 ⊢;have eY0:Ext W0 Y0:=by rw[hY0];exact Xx
 have sb0:aU 1 (.ptr h.length 1) a0 (λz=>Y0[z]?)=some (az,.set h.length (.b [AV.i V.tick,a0,V.s1,V.s2,V.s3,V.s4,V.s5])):=(aN (eY0.some m0)).trans (bW p0 (by show 1+1<=7;omega));refine Rs (A4 t1 t2 @sb0 @p0) ?_;obtain⟨W1,Uo⟩:∃W,W=Y0.set h.length (.b [AV.i V.tick,a0,V.s1,V.s2,V.s3,V.s4,V.s5]):=⟨_,rfl⟩;rw[<-Uo];have l1:W0.length<=W1.length:=by rw[Uo,aap];exact eY0.len
 have k1:∀i,i<W0.length->i≠h.length->W1[i]? =W0[i]? :=λi hi hne=>by rw[Uo,ZV (aa3 hne),eY0.get hi]
 have m1:W1[h.length]? =some (.b [AV.i V.tick,a0,V.s1,V.s2,V.s3,V.s4,V.s5]):=by rw[Uo,ZU (by have:=eY0.len;have:=(ZC.1 m0).1;omega)]
 have e1:Ext h W1:=by rw[Uo];exact(e0.trans eY0).hP (ZO _)
 have z1:W1[h.length+1]? =some (.b k9):=(k1 _ (ZC.1 z0).1 Om).trans z0;have c0:Fr n0 W1 a0 3 (V.lines.map bV):=f0.aC λi hi=>by
  have:=(f0.bP hi).1;have:=(ZC.1 z0).1;rw[Uo,ZV Om]
 clear f0 sb0 lr0;obtain⟨n1,hn1⟩:∃n,n=W1.length:=⟨_,rfl⟩;have lr1:=@eQ _ _ _ m1;refine Rs (A4 t1 t2 @lr1 @o1) ?_;refine WR.pQ (N:=n1) (w:=24) aV (Nat.le_of_eq hn1) ((o.i1.ext e1).ext Xx) (by simp only[ZL];omega) λa1 g1 f1=>?_
 have p1:=f1.aX.one;obtain⟨Y1,WN⟩:∃Y,Y=W1++[ak.b []]++g1:=⟨_,rfl⟩;rw[<-WN]at f1 ⊢;have eY1:Ext W1 Y1:=by rw[WN];exact Xx
 have sb1:aU 1 (.ptr h.length 2) a1 (λz=>Y1[z]?)=some (az,.set h.length (.b [AV.i V.tick,a0,a1,V.s2,V.s3,V.s4,V.s5])):=(aN (eY1.some m1)).trans (bW p1 (by show 2+1<=7;omega));refine Rs (A4 t1 t2 @sb1 @p1) ?_;obtain⟨W2,S0⟩:∃W,W=Y1.set h.length (.b [AV.i V.tick,a0,a1,V.s2,V.s3,V.s4,V.s5]):=⟨_,rfl⟩;rw[<-S0];have l2:W1.length<=W2.length:=by rw[S0,aap];exact eY1.len
 have k2:∀i,i<W1.length->i≠h.length->W2[i]? =W1[i]? :=λi hi hne=>by rw[S0,ZV (aa3 hne),eY1.get hi]
 have m2:W2[h.length]? =some (.b [AV.i V.tick,a0,a1,V.s2,V.s3,V.s4,V.s5]):=by rw[S0,ZU (by have:=eY1.len;have:=(ZC.1 m1).1;omega)]
 have e2:Ext h W2:=by rw[S0];exact(e1.trans eY1).hP (ZO _)
 have z2:W2[h.length+1]? =some (.b k9):=(k2 _ (ZC.1 z1).1 Om).trans z1;have c1:Fr n1 W2 a1 2 (V.aG.map dY):=f1.aC λi hi=>by
  have:=(f1.bP hi).1;have:=(ZC.1 z1).1;rw[S0,ZV Om]
 clear f1 sb1 lr1;obtain⟨n2,hn2⟩:∃n,n=W2.length:=⟨_,rfl⟩;have lr2:=@eQ _ _ _ m2;refine Rs (A4 t1 t2 @lr2 @o5) ?_;refine WR.pQ (N:=n2) (w:=48) aV (Nat.le_of_eq hn2) ((o.i5.ext e2).ext Xx) (by simp only[ZL];omega) λa5 g2 f5=>?_
 have p5:=f5.aX.one;obtain⟨Y2,UX⟩:∃Y,Y=W2++[ak.b []]++g2:=⟨_,rfl⟩;rw[<-UX]at f5 ⊢;have Vm:Ext W2 Y2:=by rw[UX];exact Xx
 have sb2:aU 1 (.ptr h.length 6) a5 (λz=>Y2[z]?)=some (az,.set h.length (.b [AV.i V.tick,a0,a1,V.s2,V.s3,V.s4,a5])):=(aN (Vm.some m2)).trans (bW p5 (by show 6+1<=7;omega));refine Rs (A4 t1 t2 @sb2 @p5) ?_;obtain⟨W3,SR⟩:∃W,W=Y2.set h.length (.b [AV.i V.tick,a0,a1,V.s2,V.s3,V.s4,a5]):=⟨_,rfl⟩;rw[<-SR];have l3:W2.length<=W3.length:=by rw[SR,aap];exact Vm.len
 have k3:∀i,i<W2.length->i≠h.length->W3[i]? =W2[i]? :=λi hi hne=>by rw[SR,ZV (aa3 hne),Vm.get hi]
 have m3:W3[h.length]? =some (.b [AV.i V.tick,a0,a1,V.s2,V.s3,V.s4,a5]):=by rw[SR,ZU (by have:=Vm.len;have:=(ZC.1 m2).1;omega)]
 have e3:Ext h W3:=by rw[SR];exact(e2.trans Vm).hP (ZO _)
 have z3:W3[h.length+1]? =some (.b k9):=(k3 _ (ZC.1 z2).1 Om).trans z2;have c5:Fr n2 W3 a5 4 (V.aJ.map cF):=f5.aC λi hi=>by
  have:=(f5.bP hi).1;have:=(ZC.1 z2).1;rw[SR,ZV Om]
 clear f5 sb2 lr2;have lr3:=@eQ _ _ _ m3;have VE:=(ZC.1 m3).1;have s3:aU 1 (.ptr h.length 3) .af (λz=>W3[z]?)=some (az,.set h.length (.b [AV.i V.tick,a0,a1,.af,V.s3,V.s4,a5])):=(aN m3).trans (bW rfl (by show 3+1<=7;omega));have m4:(W3.set h.length (.b [AV.i V.tick,a0,a1,.af,V.s3,V.s4,a5]))[h.length]? =some (.b [AV.i V.tick,a0,a1,.af,V.s3,V.s4,a5]):=ZU VE;have s4:aU 1 (.ptr h.length 4) .af (λz=>(W3.set h.length (.b [AV.i V.tick,a0,a1,.af,V.s3,V.s4,a5]))[z]?)=some (az,.set h.length (.b [AV.i V.tick,a0,a1,.af,.af,V.s4,a5])):=(aN m4).trans (bW rfl (by show 4+1<=7;omega));have m5:((W3.set h.length (.b [AV.i V.tick,a0,a1,.af,V.s3,V.s4,a5])).set h.length (.b [AV.i V.tick,a0,a1,.af,.af,V.s4,a5]))[h.length]? =some (.b [AV.i V.tick,a0,a1,.af,.af,V.s4,a5]):=ZU (by rw[aap];exact VE)
 have s5:aU 1 (.ptr h.length 5) .af (λz=>((W3.set h.length (.b [AV.i V.tick,a0,a1,.af,V.s3,V.s4,a5])).set h.length (.b [AV.i V.tick,a0,a1,.af,.af,V.s4,a5]))[z]?)=some (az,.set h.length (.b [AV.i V.tick,a0,a1,.af,.af,.af,a5])):=(aN m5).trans (bW rfl (by show 5+1<=7;omega));obtain⟨W6,Ul⟩:∃W,W=W3.set h.length (.b [AV.i V.tick,a0,a1,.af,.af,.af,a5]):=⟨_,rfl⟩;have k6:∀i,i≠h.length->W6[i]? =W3[i]? :=λi hi=>by rw[Ul,ZV (aa3 hi)]
 have m6:W6[h.length]? =some (.b [AV.i V.tick,a0,a1,.af,.af,.af,a5]):=by rw[Ul,ZU VE]
 have l0:n0=h.length+2:=by rw[Xj,hW0];simp
 have r0:∀i,sB a0=some i->n0<=i/\i<W1.length:=λi hi=>c0.bP hi
 have r1:∀i,sB a1=some i->n1<=i/\i<W2.length:=λi hi=>c1.bP hi
 have r5:∀i,sB a5=some i->n2<=i/\i<W3.length:=λi hi=>c5.bP hi
 have fa0:Fr h.length W6 a0 3 (V.lines.map bV):=(c0.aC λi hi=>by
  have:=r0 i hi;rw[k6 i Om,k3 i Om Om,k2 i Om Om]).low Om
 have fa1:Fr h.length W6 a1 2 (V.aG.map dY):=(c1.aC λi hi=>by
  have:=r1 i hi;rw[k6 i Om,k3 i Om Om]).low Om
 have fa5:Fr h.length W6 a5 4 (V.aJ.map cF):=(c5.aC λi hi=>by
  have:=r5 i hi;rw[k6 i Om]).low Om
 obtain⟨U,hU⟩:∃U:RV,U=⟨V.tick,V.lines,V.aG,[],[],[],V.aJ,a0,a1,.af,.af,.af,a5⟩:=⟨_,rfl⟩;have hbl:U.bl=[sB a0,sB a1,none,none,none,sB a5]:=by rw[hU];rfl
 have hlo:∀i,some i∈U.bl->h.length+2<=i:=λi hi=>by
  rw[hbl]at hi;simp only[aag,aaC,abh,reduceCtorEq,false_or]at hi;rcases hi with hi|hi|hi
  ·have:=r0 i hi.symm;omega
  ·have:=r1 i hi.symm;omega
  ·have:=r5 i hi.symm;omega
 have Tq:lG U.bl:=by
  rw[hbl];refine aaH.2 ⟨λy hy b hb e=>?_,aaH.2 ⟨λy hy b hb e=>?_,aaH.2 ⟨(λy hy b hb e=>by cases hb),aaH.2 ⟨(λy hy b hb e=>by cases hb),aaH.2 ⟨(λy hy b hb e=>by cases hb),abg _ _⟩⟩⟩⟩⟩
  ·have h1:=r0 b hb;subst e;simp only[aag,aaC,abh,reduceCtorEq,false_or]at hy;rcases hy with hy|hy
   ·have:=r1 b hy.symm;omega
   ·have:=r5 b hy.symm;omega
  ·have h1:=r1 b hb;subst e;simp only[aag,aaC,abh,reduceCtorEq,false_or]at hy;have:=r5 b hy.symm;omega
 have own:cJ h.length W6 U:=by
  rw[hU]at Tq ⊢;exact⟨fa0,fa1,.nil,.nil,.nil,fa5,(λx hx=>by cases hx),(λx hx=>by cases hx),(λx hx=>by cases hx),Tq⟩
 have s:xI h (.b V.row) W6 U:=by
  refine⟨⟨own,ZO _,by rw[hU];exact m6,λhi=>by have:=hlo _ hi;omega⟩,by rw[Ul];exact e3.hP (ZO _),by rw[<-hW0,Ul,aap];omega,λi hi=>?_,λi hi=>⟨?_,?_,λhm=>?_⟩⟩
  ·have:i≠h.length/\i<W0.length:=by rcases hi with hi|hi<;>omega
   rw[<-hW0,k6 i this.1,k3 i Om this.1,k2 i Om this.1,k1 i Om this.1]
  ·simp only[ZB,ZG,ZJ];rcases hi with hi|hi<;>omega
  ·rcases hi with hi|hi<;>omega
  ·have:=hlo _ hm;rcases hi with hi|hi<;>omega
 clear c0 c1 c5 fa0 fa1 fa5 own Tq;refine Rs (A9 t1 t2 @lr3 @o2 @o3 @o4 @s3 @s4 @s5) ?_;have aW:((W3.set h.length (.b [AV.i V.tick,a0,a1,.af,V.s3,V.s4,a5])).set h.length (.b [AV.i V.tick,a0,a1,.af,.af,V.s4,a5])).set h.length (.b [AV.i V.tick,a0,a1,.af,.af,.af,a5])=W6:=by rw[Ul,List.set_set,List.set_set]
 rw[aW];exact O6 T o w hs hm hj s (by rw[hU];rfl) Sn (Sq t1) (Sq t2) Sw Sw Sw
def r224(o:aD h V)(w:eD V.an):aA P 224 [.agg V.row] h (λv h'=>∃V':RV,V'.an=V.an/\v=.agg V'.row/\cJ h.length h' V'):=by
 have i:=w.zB;have hs:∀x∈V.aj,x.1.aG.length<=2^30:=λx hx=>by have:=(i.sh x hx).2;omega
 have hm:∀x∈V.ar,x.1.aI.length<=2^30:=λx hx=>by have:=(w.md x.1 (ZT hx)).2.1;omega
 have hj:∀x∈V.aE,x.1.bd.length<=2^30:=λx hx=>by have:=(w.jb x.1 (ZT hx)).2.2.1;omega
 refine .of T.mix (acd T.c224 (aai some O3)) ?_;obtain⟨ts,Sv⟩:∃ts,ts=aT 100 [.agg V.row]:=⟨_,rfl⟩;have hlen:ts.length=100:=by rw[Sv];rfl
 have t0:slot ts 0=.agg V.row:=by rw[Sv];rfl
 show WC P bN (.seq (ow 0) (qH 1)) [] (aT 100 [.agg V.row]) h (FQ [(2,some (some 7))] (Kc h V));rw[<-Sv];clear Sv;have Su:=@aD.box _ _ o;unfold ow fn224 gA;simp only[ai.j,ai.s,ai.r,ai.dr,ai.tl,ai.hd];refine Rs (A2 t0 @Su) ?_;refine O7 T o w hs hm hj rfl Sn Sw (by simp only[aS,aW,bo,bp,reduceAdd,reduceMul,reduceLeDiff,reduceEqDiff,bw,hlen,ZY,Z1];simp)
end
end Go.Abs
namespace Go.Abs
def Sm(X:ah)(V:RV)(i:Nat):Prop:=(i<X.length/\some i∉V.bl)\/i=X.length+1\/i=X.length+2
def cG(B X:ah)(x:EV)(V:RV)(W:ah)(U:RV):Prop:=
 fc B (X++[.b V.row]++[.b x.row]++[.b k9]) X.length (Sm X V) W U
def sF(B X:ah)(V:RV)(c:Int)(R':dA):AV->ah->Prop:=λv k=>
 Ext B k/\X.length<=k.length/\(∀i,i<X.length->some i∉V.bl->k[i]? =X[i]?)/\∃V':RV,v=.dL [.agg V'.row,.i c]/\cJ B.length k V'/\(c=0->V'.an=R')/\∀i,some i∈V'.bl->some i∈V.bl\/X.length<=i
section
variable {B X W:ah}{x:EV}{V U:RV}(s:cG B X x V W U)
include s
def cG.lr{k n a}(e:Ext W k):aq n (.ptr X.length a) (λz=>k[z]?)=dJ n a (.b U.row):=aB (e.some s.bk.m)
def cG.MT:W[X.length+1]? =some (.b x.row):=by rw[fc.kp s _ (.inr (.inl rfl))];simp
def cG.MS:W[X.length+2]? =some (.b k9):=by rw[fc.kp s _ (.inr (.inr rfl))];simp
def cG.le{k n a}(e:Ext W k):aq n (.ptr (X.length+1) a) (λz=>k[z]?)=dJ n a (.b x.row):=aB (e.some s.MT)
def cG.sb{k}(e:Ext W k):aU 7 (.ptr (X.length+2) 0) (.agg U.row) (λz=>k[z]?)=some (az,.set (X.length+2) (.b U.row)):=by
 have h1:=@aN 7 (X.length+2) 0 (.agg U.row) (λz=>k[z]?) _ (e.some s.MS);have st:=@aD.st _ _ s.bk.o.ok;unfold k9 at h1;rw[st]at h1;exact h1
def cG.gm{k}(e:Ext W k):aq (some 7) (.ptr (X.length+2) 0) (λz=>(k.set (X.length+2) (.b U.row))[z]?)=some (.agg U.row,.ay):=by
 have hl:=(ZC.1 (e.some s.MS)).1;rw[aB (ZU hl)];rfl
def cG.fa:=A4 (@cG.lr _ _ _ _ _ _ s) (@cG.le _ _ _ _ _ _ s) (@cG.sb _ _ _ _ _ _ s) (@cG.gm _ _ _ _ _ _ s)
def cG.fin{c R'}(hc:c=0->U.an=R'):sF B X V c R' (.dL [.agg U.row,.i c]) (W.set (X.length+2) (.b U.row)):=by
 have hN:B.length<=X.length:=s.bk.hN;have XK:X.length+3<=W.length:=by have:=fc.ln s;simpa using this
 refine⟨s.ex.hP Om,by rw[aap];omega,λi hi hv=>?_,U,rfl,s.bk.o.ay λi hi=>?_,hc,λi hi=>?_⟩
 ·rw[ZV Om,fc.kp s i (.inl ⟨hi,hv⟩)];simp only[ZE];exact ZF hi
 ·have:i≠X.length+2:=λe=>(fc.kl s _ (.inr (.inr rfl))).2.2 (e▸hi)
  rw[ZV (aa3 this)]
 ·by_cases h1:some i∈V.bl
  ·exact .inl h1
  ·by_cases h2:i<X.length
   ·exact absurd hi (fc.kl s i (.inl ⟨h2,h1⟩)).2.2
   ·exact .inr Om
end
def wR{h x d}(o:bh h x)(we:jY x.ev d){i:Nat}(hi:i<(bJ d).length):aZ 1 x.sn (.i (i:Int))=some (cT x.sn 1 i,.ay)/\∀{k},Ext h k->aq none (cT x.sn 1 i) (λb=>k[b]?)=some (.str (aL x.ev i),.ay):=by
 have hi':i<x.ev.names.length:=by rw[we.nl];exact hi
 refine⟨o.n.dE hi',λ{k} e=>?_⟩;have:aL x.ev i=x.ev.names[i]:=by rw[aL,aaf,ZH hi'];rfl
 rw[this];exact o.n.kg hi' rfl e
def bO{h x d}(o:bh h x)(we:jY x.ev d)(i:Nat)(z:Int)(hz:(i:Int)=z)(hi:i<(bJ d).length):aZ 1 x.sn (.i z)=some (cT x.sn 1 i,.ay)/\∀{k},Ext h k->aq none (cT x.sn 1 i) (λb=>k[b]?)=some (.str (aL x.ev i),.ay):=hz▸wR o we hi
def M4{h x d}(o:bh h x)(we:jY x.ev d){i:Nat}(hi:i<cD d):aZ 1 x.sv (.i (i:Int))=some (cT x.sv 1 i,.ay)/\(∀{k},Ext h k->aq none (cT x.sv 1 i) (λb=>k[b]?)=some (.i (bI x.ev i),.ay))/\0<=bI x.ev i/\bI x.ev i<=999999999:=by
 have hi':i<x.ev.cB.length:=by rw[we.vl];exact hi
 have:bI x.ev i=x.ev.cB[i]:=by rw[bI,aaf,ZH hi'];rfl
 refine⟨o.v.dE hi',λ{k} e=>?_,we.vr _ (qD hi')⟩;rw[this];exact o.v.kg hi' rfl e
def cX{h x d}(o:bh h x)(we:jY x.ev d)(i:Nat)(z:Int)(hz:(i:Int)=z)(hi:i<cD d):aZ 1 x.sv (.i z)=some (cT x.sv 1 i,.ay)/\(∀{k},Ext h k->aq none (cT x.sv 1 i) (λb=>k[b]?)=some (.i (bI x.ev i),.ay))/\0<=bI x.ev i/\bI x.ev i<=999999999:=hz▸M4 o we hi
def WR.qB{P ro ks ts Q B Y s es w cs z d l}
  (hs:Fr B.length Y s es cs) (hz:z.length=es) (he:Ext B Y) (hes:0<es) (eG:(cs.length+1)*w<=2^46)
  (K:∀(W5:ah) (s':AV),Ext B W5->Fr B.length W5 s' es (cs++[z])->(∀i,sB s' =some i->Y.length<i)->s'.one=true->Y.length<=W5.length->(∀i,i<Y.length->sB s≠some i->W5[i]? =Y[i]?)->WP P ro l ks (put ts d s') W5 Q):
  WR P ro (pR es w s (.slice Y.length 0 1 es) (λb=>(Y++[ak.cells z true true])[b]?) (Y++[ak.cells z true true]).length) false d l ks ts (Y++[ak.cells z true true]) Q:=by
 have YV:aH (Y++[ak.cells z true true]) (AV.slice Y.length 0 1 es) es [z]:=by
  have:=(Fr.push (N:=0) (es:=es) (h:=Y) (aac _) [z] (λx hx=>by rw[ZW]at hx;rw[hx,hz])).aX
  simpa using this
 refine WR.fZ (h0:=B) (cs:=cs) (ys:=[z]) (hs.app _) YV hes Si (by simpa using eG) (he.trans (Ext.app _ (Ext.refl _))) ?_;intro g' SI hff hkp;refine K _ _ ⟨_,rfl⟩ hff (λi hi=>by cases hi;simp) rfl (by rw[SI];simp only[ZB,Z4];omega) (λi hi hne=>?_);exact NK
def At:ai:=(fn225).body.tl
def OQ:fn225=⟨250,2,[(4,some (some 7)),(5,none)],.seq ((fn225).body.hd) At⟩:=rfl
set_option maxRecDepth 10000
attribute [local irreducible] WP WC WE WB WR WF WL WG gk WM
section
variable {P:Program}(T:fy P) {B X W:ah}{ts:TS}{V:RV}{x:EV}
include T
def EP(w:eD V.an)(ox:bh B x)(we:jY x.ev .line)(nk:sU V.an x.ev .line)(s:cG B X x V W V)(hlen:ts.length=250)(t2:slot ts 2=.ptr X.length 0)(t3:slot ts 3=.ptr (X.length+1) 0)(t4:slot ts 4=.ptr (X.length+2) 0):
  WC P bN At [] ts W (FQ [(4,some (some 7)),(5,none)] (sF B X V (bn V.an x.ev .line) (dt V.an x.ev .line))):=by
 have ow:=ox.ext s.ex;have oV:=s.bk.o.ok;have SD:x.ev.kind=bz .line:=cj we.kd;obtain⟨lr,le,sb,gm⟩:=cG.fa s;obtain⟨i0,d0⟩:=bO ow we 0 0 rfl De;obtain⟨j0,f0,q0⟩:=cX ow we 0 0 rfl De;obtain⟨j1,f1,q1⟩:=cX ow we 1 1 rfl De;unfold At fn225;simp only[ai.tl];refine Rs (Kh t2 t3 t4 @le @lr @bA @aO @aY @fR @aF @SD @gK @j0 @f0 @j1 @f1 @Z5) ?_;refine WF.ce T.c20 (r20 T _ _ _) λg1=>?_
 obtain⟨W2,S0⟩:∃Z,Z=W++g1:=⟨_,rfl⟩;rw[<-S0];have SS:cG B X x V W2 V:=by rw[S0];exact fc.grow s ⟨g1,rfl⟩
 have ow:=ox.ext SS.ex;have oV:=SS.bk.o.ok;obtain⟨lr,le,sb,gm⟩:=cG.fa SS;by_cases h1:bg (bI x.ev 1) 1 64=0
 case neg=>
  have e1:decide (bg (bI x.ev 1) 1 64≠0)=true:=ZI h1;refine Rs (A8 t2 t3 t4 e1 @lr @aF @sb @gm) ?_;rw[bn,ZS h1];exact z87
 have e1:decide (bg (bI x.ev 1) 1 64≠0)=false:=ZD (λz=>z h1);by_cases h2:16<=V.lines.length
 case pos=>
  have e2:decide ((16:Int)<=(V.lines.length:Int))=true:=ZI Om;refine Rs (mZ t2 t3 t4 e1 @fR oV.i0.aK e2 @lr @aF @sb @gm) ?_;rw[bn,ZN (λz=>z h1),ZS (show 16<=V.an.lines.length from h2)];exact z87
 have e2:decide ((16:Int)<=(V.lines.length:Int))=false:=ZD Om;obtain⟨i0,d0⟩:=bO ow we 0 0 rfl De;obtain⟨j1,f1,q1⟩:=cX ow we 1 1 rfl De;refine Rs (Bv t2 t3 t4 e1 @le @lr @fR oV.i0.aK e2 @aO @aY @i0 @d0 @j1 @f1) ?_;have TU:bn V.an x.ev .line=0:=by rw[bn,ZN (λz=>z h1),ZN (show ¬16<=V.an.lines.length from h2)]
 obtain⟨y,hy⟩:∃y:dX,y=⟨aL x.ev 0,bI x.ev 1,false⟩:=⟨_,rfl⟩;obtain⟨z,hz⟩:∃z:List AV,z=bV y:=⟨_,rfl⟩;have Ur:[AV.str (aL x.ev 0),.i (bI x.ev 1),.bool false]=z:=by rw[hz,hy];rfl
 rw[Ur];refine WR.qB (B:=B) (cs:=V.lines.map bV) (SS.bk.o.i0) (by rw[hz];rfl) SS.ex De (by have:=w.len.l0;rw[ZL];omega) ?_;intro W5 s' x5 hff hn5 q5 l5 hk5;have hrow:V.lines.map bV++[z]=(V.lines++[y]).map bV:=by rw[ZM,hz];rfl
 rw[hrow]at hff;have s5:cG B X x V (W5.set X.length (.b (V.row.set 1 s'))) {V with lines:=V.lines++[y],s0:=s'}:=fc.p0 SS hff (λi hi=>.inr (ab5 (hn5 i hi))) hk5 x5 l5;have mB:W5[X.length]? =some (.b V.row):=(hk5 _ SS.bk.lt (λz=>SS.bk.ne (by rw[<-z];simp[RV.bl]))).trans SS.bk.m;have Ud:aU 1 (.ptr X.length 1) s' (λz=>W5[z]?)=some (az,.set X.length (.b (V.row.set 1 s'))):=(aN mB).trans (bW q5 (by show 1+1<=7;omega));refine Rs (A5 t2 t3 t4 @Ud q5) ?_;obtain⟨W6,Ul⟩:∃Z,Z=W5.set X.length (.b (V.row.set 1 s')):=⟨_,rfl⟩;rw[<-Ul]at s5 ⊢;obtain⟨lr,le,sb,gm⟩:=cG.fa s5;refine Rs (A7 t2 t3 t4 @lr @aF @sb @gm) ?_
 rw[TU];exact cG.fin s5 (λ_=>by rw[hy];rfl)
theorem EN(w:eD V.an)(ox:bh B x)(we:jY x.ev .tape)(nk:sU V.an x.ev .tape)(s:cG B X x V W V)(hlen:ts.length=250)(t2:slot ts 2=.ptr X.length 0)(t3:slot ts 3=.ptr (X.length+1) 0)(t4:slot ts 4=.ptr (X.length+2) 0):
  WC P bN At [] ts W (FQ [(4,some (some 7)),(5,none)] (sF B X V (bn V.an x.ev .tape) (dt V.an x.ev .tape))):=by
 have ow:=ox.ext s.ex;have oV:=s.bk.o.ok;have SD:x.ev.kind=bz .tape:=cj we.kd;obtain⟨lr,le,sb,gm⟩:=cG.fa s;obtain⟨i0,d0⟩:=bO ow we 0 0 rfl De;obtain⟨j0,f0,q0⟩:=cX ow we 0 0 rfl De;obtain⟨j1,f1,q1⟩:=cX ow we 1 1 rfl De;unfold At fn225;simp only[ai.tl];by_cases h1:999999999<bI x.ev 0+bI x.ev 1
 case pos=>
  have e1:decide ((999999999:Int)<bI x.ev 0+bI x.ev 1)=true:=ZI h1;have hw:IntKind.i64.wrap (bI x.ev 0+bI x.ev 1)=bI x.ev 0+bI x.ev 1:=bj Om Om;refine pA (Kg t2 t3 t4 @le @lr @bA @aO @aY @aF @SD @gK @iG @Z9 @j0 @f0 @j1 @f1 @Z5 @hw e1 @sb @gm) ?_;rw[bn,ZS h1];exact HL
 have e1:decide ((999999999:Int)<bI x.ev 0+bI x.ev 1)=false:=ZD h1;have hw:IntKind.i64.wrap (bI x.ev 0+bI x.ev 1)=bI x.ev 0+bI x.ev 1:=bj Om Om;by_cases h2:16<=V.aG.length
 case pos=>
  have e2:decide ((16:Int)<=(V.aG.length:Int))=true:=ZI Om
  repeat (first|simp (config:={maxSteps:=1000000}) only[aS,aW,bo,bp,reduceAdd,reduceMul,reduceLeDiff,reduceEqDiff,bw,hlen,ZY,Z1,t2,t3,t4,le,lr,bA,aO,aY,aF,lJ,SD,gK,iG,reduceCtorEq,Z9,j0,f0,j1,f1,Z5,hw,e1,oV.i1.aK,e2,sb,gm]|simp (config:={maxSteps:=1000000}) (disch:=first|(simp only[ZB,ZG,ZJ]<;>omega)|rfl|omega|fail) only[fN,aS,aW,bo,bp,reduceAdd,reduceMul,reduceLeDiff,reduceEqDiff,bw,hlen,ZY,Z1,t2,t3,t4,le,lr,bA,aO,aY,aF,lJ,SD,gK,iG,reduceCtorEq,Z9,j0,f0,j1,f1,Z5,hw,e1,oV.i1.aK,e2,sb,gm])
  rw[bn,ZN h1,ZS (show 16<=V.an.aG.length from h2)];exact HL
 have e2:decide ((16:Int)<=(V.aG.length:Int))=false:=ZD Om
 repeat (first|simp (config:={maxSteps:=1000000}) only[aS,aW,bo,bp,reduceAdd,reduceMul,reduceLeDiff,reduceEqDiff,bw,hlen,ZY,Z1,t2,t3,t4,le,lr,bA,aO,aY,aF,lJ,SD,gK,iG,reduceCtorEq,Z9,j0,f0,j1,f1,Z5,hw,e1,oV.i1.aK,e2,i0,d0]|simp (config:={maxSteps:=1000000}) (disch:=first|(simp only[ZB,ZG,ZJ]<;>omega)|rfl|omega|fail) only[fN,aS,aW,bo,bp,reduceAdd,reduceMul,reduceLeDiff,reduceEqDiff,bw,hlen,ZY,Z1,t2,t3,t4,le,lr,bA,aO,aY,aF,lJ,SD,gK,iG,reduceCtorEq,Z9,j0,f0,j1,f1,Z5,hw,e1,oV.i1.aK,e2,i0,d0])
 have TU:bn V.an x.ev .tape=0:=by rw[bn,ZN h1,ZN (show ¬16<=V.an.aG.length from h2)]
 obtain⟨y,hy⟩:∃y:sH,y=⟨aL x.ev 0,bI x.ev 0+bI x.ev 1⟩:=⟨_,rfl⟩;obtain⟨z,hz⟩:∃z:List AV,z=dY y:=⟨_,rfl⟩;have Ur:[AV.str (aL x.ev 0),.i (bI x.ev 0+bI x.ev 1)]=z:=by rw[hz,hy];rfl
 rw[Ur];refine WR.qB (B:=B) (cs:=V.aG.map dY) (s.bk.o.i1) (by rw[hz];rfl) s.ex De (by have:=w.len.l1;rw[ZL];omega) ?_;intro W5 s' x5 hff hn5 q5 l5 hk5;have hrow:V.aG.map dY++[z]=(V.aG++[y]).map dY:=by rw[ZM,hz];rfl
 rw[hrow]at hff;have s5:cG B X x V (W5.set X.length (.b (V.row.set 2 s'))) {V with aG:=V.aG++[y],s1:=s'}:=fc.p1 s hff (λi hi=>.inr (ab5 (hn5 i hi))) hk5 x5 l5;have mB:W5[X.length]? =some (.b V.row):=(hk5 _ s.bk.lt (λz=>s.bk.ne (by rw[<-z];simp[RV.bl]))).trans s.bk.m;have Ud:aU 1 (.ptr X.length 2) s' (λz=>W5[z]?)=some (az,.set X.length (.b (V.row.set 2 s'))):=(aN mB).trans (bW q5 (by show 2+1<=7;omega));refine Rs (A5 t2 t3 t4 @Ud q5) ?_;obtain⟨W6,Ul⟩:∃Z,Z=W5.set X.length (.b (V.row.set 2 s')):=⟨_,rfl⟩;rw[<-Ul]at s5 ⊢;obtain⟨lr,le,sb,gm⟩:=cG.fa s5;refine Rs (A7 t2 t3 t4 @lr @aF @sb @gm) ?_
 rw[TU];exact cG.fin s5 (λ_=>by rw[hy];rfl)
def EO(w:eD V.an)(ox:bh B x)(we:jY x.ev .gp)(nk:sU V.an x.ev .gp)(s:cG B X x V W V)(hlen:ts.length=250)(t2:slot ts 2=.ptr X.length 0)(t3:slot ts 3=.ptr (X.length+1) 0)(t4:slot ts 4=.ptr (X.length+2) 0):
  WC P bN At [] ts W (FQ [(4,some (some 7)),(5,none)] (sF B X V (bn V.an x.ev .gp) (dt V.an x.ev .gp))):=by
 have ow:=ox.ext s.ex;have oV:=s.bk.o.ok;have SD:x.ev.kind=bz .gp:=cj we.kd;obtain⟨lr,le,sb,gm⟩:=cG.fa s;obtain⟨i0,d0⟩:=bO ow we 0 0 rfl De;obtain⟨i1,d1⟩:=bO ow we 1 1 rfl De;obtain⟨i2,d2⟩:=bO ow we 2 2 rfl De;obtain⟨j0,f0,q0⟩:=cX ow we 0 0 rfl De;unfold At fn225;simp only[ai.tl];have k1:aL x.ev 1∈gq V.an:=nk.kn 1 0 rfl;have k2:aL x.ev 2∈jT V.an:=nk.kn 2 1 rfl;have hlt:a8 (gq V.an) (aL x.ev 1)<V.lines.length:=by have:=cL k1;simpa [gq,RV.an]using this
 have ei:dm (λy:dX=>decide (y.name=aL x.ev 1)) V.lines=(a8 (gq V.an) (aL x.ev 1):Int):=fk (f:=dX.name) k1;have sp:dq V.an (aL x.ev 1)=V.lines[a8 (gq V.an) (aL x.ev 1)]:=cS k1;refine pA (NV t2 t3 t4 @le @lr @bA @aO @aY @aF @fR @SD @gK @iG @rP @Z9 @j0 @f0 @i1 @d1 @Z5) ?_;refine WF.ce T.c28 (r28 T (oV.ext Xx) w.len _) λg1=>?_
 rw[ei];obtain⟨W2,S0⟩:∃Z,Z=W++g1:=⟨_,rfl⟩;rw[<-S0];have SS:cG B X x V W2 V:=by rw[S0];exact fc.grow s ⟨g1,rfl⟩
 have ow:=ox.ext SS.ex;have oV:=SS.bk.o.ok;obtain⟨lr,le,sb,gm⟩:=cG.fa SS;obtain⟨i0,d0⟩:=bO ow we 0 0 rfl De;obtain⟨i1,d1⟩:=bO ow we 1 1 rfl De;obtain⟨i2,d2⟩:=bO ow we 2 2 rfl De;obtain⟨j0,f0,q0⟩:=cX ow we 0 0 rfl De;have ix:aZ 3 V.s0 (.i (a8 (gq V.an) (aL x.ev 1):Int))=some (cT V.s0 3 (a8 (gq V.an) (aL x.ev 1)),.ay):=oV.i0.dE hlt;have l2:∀{k:ah},Ext W2 k->aq none (mD V.s0 3 (a8 (gq V.an) (aL x.ev 1)) 2) (λb=>k[b]?)=some (.bool (dq V.an (aL x.ev 1)).acc,.ay):=λ{k} e=>by rw[sp];exact oV.i0.qz hlt rfl e
 cases h1:(dq V.an (aL x.ev 1)).acc with
 |true=>
  rw[h1]at l2;refine Rs (A9 t2 t3 t4 ix @l2 @lr @aF @sb @gm) ?_;rw[bn,ZS h1];exact z87
 |false=>
 rw[h1]at l2;refine Rs (mZ t2 t3 t4 ix @l2 @le @lr @aF @aO @i2 @d2) ?_;refine WF.ce T.c84 (r84 T (oV.ext Xx) w.len k2 _) λg2=>?_
 obtain⟨W3,SR⟩:∃Z,Z=W2++g2:=⟨_,rfl⟩;rw[<-SR];have SZ:cG B X x V W3 V:=by rw[SR];exact fc.grow SS ⟨g2,rfl⟩
 have ow:=ox.ext SZ.ex;have oV:=SZ.bk.o.ok;obtain⟨lr,le,sb,gm⟩:=cG.fa SZ;obtain⟨i0,d0⟩:=bO ow we 0 0 rfl De;obtain⟨i1,d1⟩:=bO ow we 1 1 rfl De;obtain⟨i2,d2⟩:=bO ow we 2 2 rfl De;obtain⟨j0,f0,q0⟩:=cX ow we 0 0 rfl De;cases h2:jJ V.an (bI x.ev 0) (aL x.ev 2)with
 |false=>
  refine Rs (A8 t2 t3 t4 @aab @lr @aF @sb @gm) ?_;rw[bn,ZN (by rw[h1];decide),ZS (by rw[h2];rfl)];exact Ed
 |true=>
 by_cases h3:64<=V.aj.length
 case pos=>
  have e3:decide ((64:Int)<=(V.aj.length:Int))=true:=ZI Om;refine Rs (mZ t2 t3 t4 @Z7 @fB oV.i2.aK e3 @lr @aF @sb @gm) ?_;rw[bn,ZN (by rw[h1];decide),ZN (by rw[h2];decide),ZS (show 64<=V.an.aj.length by simpa [RV.an]using h3)];exact Ed
 have e3:decide ((64:Int)<=(V.aj.length:Int))=false:=ZD Om;have TU:bn V.an x.ev .gp=0:=by rw[bn,ZN (by rw[h1];decide),ZN (by rw[h2];decide),ZN (show ¬64<=V.an.aj.length by simpa [RV.an]using h3)]
 obtain⟨t,ht⟩:∃t,t=AV.slice W3.length 0 1 1:=⟨_,rfl⟩;have ot:t.one=true:=by rw[ht];rfl
 refine Rs (D8 t2 t3 t4 @Z7 @le @lr @fB oV.i2.aK e3 @aO @i0 @d0 @i1 @d1 @i2 @d2) ?_;rw[<-ht];refine Rs (A4 t2 t3 t4 @ot) ?_;obtain⟨y,hy⟩:∃y:jX,y=⟨aL x.ev 0,aL x.ev 1,[aL x.ev 2]⟩:=⟨_,rfl⟩;obtain⟨z,hz⟩:∃z:List AV,z=bf (y,t):=⟨_,rfl⟩;have Ur:[AV.str (aL x.ev 0),.str (aL x.ev 1),t]=z:=by rw[hz,hy];rfl
 rw[Ur];obtain⟨Y,hY⟩:∃Z,Z=W3++[ak.cells [.str (aL x.ev 2)] true true]:=⟨_,rfl⟩;rw[<-hY];have Tz:Fr W3.length Y t 1 (y.aG.map ao):=by
  rw[ht,hy,hY];exact(Fr.push (h:=W3) (N:=W3.length) (ZO _) [ao (aL x.ev 2)] (by simp[ao]))
 have sY:cG B X x V Y V:=by rw[hY];exact fc.grow SZ ⟨_,rfl⟩
 have lY:W3.length<Y.length:=by rw[hY];simp
 have eY:Ext W3 Y:=by rw[hY];exact⟨_,rfl⟩
 refine WR.qB (B:=B) (cs:=V.aj.map bf) (sY.bk.o.i2) (by rw[hz];rfl) sY.ex De (by have:=w.len.l2;rw[ZL];omega) ?_;intro W5 s' x5 hff hn5 q5 l5 hk5;have hrow:V.aj.map bf++[z]=(V.aj++[(y,t)]).map bf:=by rw[ZM,hz];rfl
 rw[hrow]at hff;have bS:∀i,sB t=some i->sB V.s2≠some i:=λi hi e=>by
  have h1:=(Tz.bP hi).1;have h2:=(SZ.bk.o.dU (b:=i) (by rw[<-e];simp[RV.bl])).2;omega
 have f5:Fr B.length W5 t 1 (y.aG.map ao):=(Tz.aC λi hi=>hk5 i (Tz.bP hi).2 (bS i hi)).low SZ.ex.len;have s5:cG B X x V (W5.set X.length (.b (V.row.set 3 s'))) {V with aj:=V.aj++[(y,t)],s2:=s'}:=fc.p2 SZ hff f5 (λi hi=>.inr (by have:=hn5 i hi;omega)) (λi hi=>⟨(Tz.bP hi).1,λe=>by have:=hn5 i e;have:=(Tz.bP hi).2;omega⟩) (λi hi hne=>(hk5 i Om hne).trans (eY.get hi)) x5 Om;have mB:W5[X.length]? =some (.b V.row):=(hk5 _ sY.bk.lt (λz=>sY.bk.ne (by rw[<-z];simp[RV.bl]))).trans sY.bk.m;have Ud:aU 1 (.ptr X.length 3) s' (λz=>W5[z]?)=some (az,.set X.length (.b (V.row.set 3 s'))):=(aN mB).trans (bW q5 (by show 3+1<=7;omega))
 refine Rs (A5 t2 t3 t4 @Ud q5) ?_;obtain⟨W6,Ul⟩:∃Z,Z=W5.set X.length (.b (V.row.set 3 s')):=⟨_,rfl⟩;rw[<-Ul]at s5 ⊢;obtain⟨lr,le,sb,gm⟩:=cG.fa s5;refine Rs (A7 t2 t3 t4 @lr @aF @sb @gm) ?_;rw[TU];exact cG.fin s5 (λ_=>by simp only[RV.an,ZM,dt,aar,abn,hy])
end
def gG:List AV:=[.int .i64 0,.str [],.af,.af,.str []]
def Dp(kd:By)(sn sv:AV):ak:=.cells [.int .i64 0,.str kd,sn,sv,.str []] true false
structure uW(A:ah)(kd:By)(b8:Nat)(kb:ak)(sw:AV)(wr:Bool)(ws:List (By))(sn sv:AV)(ns:List (By))(vs:List Int)(B:ah):Prop where
 m7:(A++[gR sw wr]++B)[A.length+1]? =some (Dp kd sn sv)
 m8:(A++[gR sw wr]++B)[b8]? =some kb
 l8:A.length+1<b8
 s:aH A sw 1 (ws.map ao)
 wl:∀x∈ws,x.length<=2^40
 n:Fr (A.length+1) (A++[gR sw wr]++B) sn 1 (ns.map ao)
 v:Fr (A.length+1) (A++[gR sw wr]++B) sv 1 (vs.map aM)
 dn:∀i,sB sn=some i->A.length+1<i/\i≠b8
 dv:∀i,sB sv=some i->A.length+1<i/\i≠b8
 dd:∀i,sB sn=some i->sB sv≠some i
section
variable {A B:ah}{kd:By}{b8:Nat}{kb:ak}{sw:AV}{wr:Bool}{ws:List (By)}{sn sv:AV}{ns:List (By)}{vs:List Int}
def wg{x}:(A++[x]).length=A.length+1:=Si
def uW.tk(o:uW A kd b8 kb sw wr ws sn sv ns vs B){sw' wr' ws'}(hs:aH A sw' 1 (ws'.map ao))(hw:∀x∈ws',x.length<=2^40):uW A kd b8 kb sw' wr' ws' sn sv ns vs B:=
 ⟨by rw[qQ (K':=gR sw wr) Om];exact o.m7,by rw[qQ (K':=gR sw wr) (by have:=o.l8;omega)];exact o.m8,o.l8,hs,hw,o.n.swap' wg wg,o.v.swap' wg wg,o.dn,o.dv,o.dd⟩
theorem uW.app(o:uW A kd b8 kb sw wr ws sn sv ns vs B)(g:ah):uW A kd b8 kb sw wr ws sn sv ns vs (B++g):=by
 have e:A++[gR sw wr]++(B++g)=A++[gR sw wr]++B++g:=(ZE _ _ _).symm;exact⟨by rw[e];exact(Ext.app g (Ext.refl _)).some o.m7,by rw[e];exact(Ext.app g (Ext.refl _)).some o.m8,o.l8,o.s,o.wl,by rw[e];exact o.n.app g,by rw[e];exact o.v.app g,o.dn,o.dv,o.dd⟩
def n8{K X g}:(A++[K]++g).set (A.length+1) X=A++[K]++g.set 0 X:=by
 rw[aaA _ _ Si];simp
def uW.OT(o:uW A kd b8 kb sw wr ws sn sv ns vs B){Xc ns' g}(hF:Fr (A.length+1) (A++[gR sw wr]++g) Xc 1 (ns'.map ao))(hlo:∀i,sB Xc=some i->(A++[gR sw wr]++B).length<i)
  (hle:(A++[gR sw wr]++B).length<=(A++[gR sw wr]++g).length) (hk:∀i,i<(A++[gR sw wr]++B).length->sB sn≠some i->(A++[gR sw wr]++g)[i]? =(A++[gR sw wr]++B)[i]?):
  uW A kd b8 kb sw wr ws Xc sv ns' vs (g.set 0 (Dp kd Xc sv)):=by
 have l7:=(ZC.1 o.m7).1;have l8:=(ZC.1 o.m8).1;have h8:=o.l8;have ne:∀i,i≠A.length+1->((A++[gR sw wr]++g).set (A.length+1) (Dp kd Xc sv))[i]? =(A++[gR sw wr]++g)[i]? :=λi hi=>ZV (λe=>hi e.symm)
 refine⟨?_,?_,h8,o.s,o.wl,?_,?_,λi hi=>?_,o.dv,λi hi e=>?_⟩
 ·rw[<-n8,ZU Om]
 ·rw[<-n8,ne _ Om,hk _ l8 (λe=>(o.dn _ e).2 rfl)];exact o.m8
 ·exact KF
 ·rw[<-n8];exact o.v.aC λj hj=>by rw[ne j (by have:=(o.dv j hj).1;omega),hk j (o.v.bP hj).2 (λe=>o.dd j e hj)]
 ·have:=hlo i hi;exact⟨Om,Om⟩
 ·have h1:=hlo i hi;have h2:=(o.v.bP e).2;omega
def uW.OS(o:uW A kd b8 kb sw wr ws sn sv ns vs B){Xa vs' g}(hF:Fr (A.length+1) (A++[gR sw wr]++g) Xa 1 (vs'.map aM))(hlo:∀i,sB Xa=some i->(A++[gR sw wr]++B).length<i)
  (hle:(A++[gR sw wr]++B).length<=(A++[gR sw wr]++g).length) (hk:∀i,i<(A++[gR sw wr]++B).length->sB sv≠some i->(A++[gR sw wr]++g)[i]? =(A++[gR sw wr]++B)[i]?):
  uW A kd b8 kb sw wr ws sn Xa ns vs' (g.set 0 (Dp kd sn Xa)):=by
 have l7:=(ZC.1 o.m7).1;have l8:=(ZC.1 o.m8).1;have h8:=o.l8;have ne:∀i,i≠A.length+1->((A++[gR sw wr]++g).set (A.length+1) (Dp kd sn Xa))[i]? =(A++[gR sw wr]++g)[i]? :=λi hi=>ZV (λe=>hi e.symm)
 refine⟨?_,?_,h8,o.s,o.wl,?_,?_,o.dn,λi hi=>?_,λi hi e=>?_⟩
 ·rw[<-n8,ZU Om]
 ·rw[<-n8,ne _ Om,hk _ l8 (λe=>(o.dv _ e).2 rfl)];exact o.m8
 ·rw[<-n8];exact o.n.aC λj hj=>by rw[ne j (by have:=(o.dn j hj).1;omega),hk j (o.n.bP hj).2 (λe=>o.dd j hj e)]
 ·exact KF
 ·have:=hlo i hi;exact⟨Om,Om⟩
 ·have h1:=hlo i e;have h2:=(o.n.bP hi).2;omega
end
def qY{ws wr}:∀x∈(bT ws wr).2.1,x∈ws:=by
 intro x hx;cases ws with
 |nil=>simp[bT]at hx
 |cons w r=>
  by_cases hw:w=[]
  ·rw[bT,ZS hw]at hx;simp at hx
  ·rw[bT,ZN hw]at hx;exact Z8 _ hx
def NC(h:ah)(ws:List (By))(v:AV)(k:ah):Prop:=Ext h k/\∃x:EV,x.ev=(eJ ws).1/\v=.dL [.agg x.row,.bool (eJ ws).2]/\Fr h.length k x.sn 1 (x.ev.names.map ao)/\Fr h.length k x.sv 1 (x.ev.cB.map aM)
def vA{h k}(e:Ext (h++[ak.cells [.int .i64 0,.str [],.af,.af,.str []] true false]) k):k[h.length]? =some (.cells [.int .i64 0,.str [],.af,.af,.str []] true false):=e.some (by rw[ZP (ZO _)];simp)
def LG{h k}(e:Ext (h++[ak.cells [.int .i64 0,.str [],.af,.af,.str []] true false]) k):aU 5 (.ptr h.length 0) (.agg [.int .i64 0,.str [],.af,.af,.str []]) (λz=>k[z]?)=some (az,.set h.length (.cells [.int .i64 0,.str [],.af,.af,.str []] true false)):=by rw[aN (vA e)];rfl
def LI{h k}(e:Ext (h++[ak.cells [.int .i64 0,.str [],.af,.af,.str []] true false]) k):aq (some 5) (.ptr h.length 0) (λz=>k[z]?)=some (.agg [.int .i64 0,.str [],.af,.af,.str []],.ay):=by rw[aB (vA e)];rfl
def LH{h k}(e:Ext (h++[ak.cells [.int .i64 0,.str [],.af,.af,.str []] true false]) k):k.set h.length (.cells [.int .i64 0,.str [],.af,.af,.str []] true false)=k:=by
 have:=vA e;exact La
def LF{h k x}(ox:bh k x)(e:Ext (h++[ak.cells [.int .i64 0,.str [],.af,.af,.str []] true false]) k):aU 5 (.ptr h.length 0) (.agg x.row) (λz=>k[z]?)=some (az,.set h.length (.cells x.row true false)):=by rw[aN (vA e)];exact ox.st
def LD{h k:ah}{x:EV}(e:Ext (h++[ak.cells [.int .i64 0,.str [],.af,.af,.str []] true false]) k):aq (some 5) (.ptr h.length 0) (λz=>(k.set h.length (.cells x.row true false))[z]?)=some (.agg x.row,.ay):=by
 rw[aB (ZU (ZC.1 (vA e)).1)];rfl
theorem sZ:∀{n}{ws}{wr},(de n ws wr).1.length=n
 | 0,_,_=>rfl
 |n+1,ws,wr=>by rw[de,ZG,sZ]
theorem vL:∀{n}{ws}{wr},(fE n ws wr).1.length=n
 | 0,_,_=>rfl
 |n+1,ws,wr=>by rw[fE,ZG,vL]
def vD(ws:List (By)):(eJ ws).1.names.length<=3/\(eJ ws).1.cB.length<=3:=by
 unfold eJ;cases gU (bT ws false).1 with
 |none=>exact⟨aac _,aac _⟩
 |some d=>
  have h3:(bJ d).length<=3/\cD d<=3:=by cases d<;>decide
  exact⟨by show(de _ _ _).1.length<=3;rw[sZ];exact h3.1,by show(fE _ _ _).1.length<=3;rw[vL];exact h3.2⟩
def xF(k:Nat):ai:=(fn111).body.dr k
def Cv(k:Nat):ai:=(xF k).hd
def OP:fn111=⟨73,1,[(2,some (some 5)),(3,none)],.seq (Cv 0) (.seq (Cv 1) (.seq (Cv 2) (.seq (Cv 3) (.seq (Cv 4) (.seq (Cv 5) (xF 6))))))⟩:=rfl
def OO:xF 6=.seq (Cv 6) (xF 7):=rfl
def ON:xF 7=.seq (Cv 7) (xF 8):=rfl
attribute [local irreducible] WQ
section
variable {P:Program}(T:fy P) {h A B:ah}{kd:By}{b8:Nat}{kb:ak}{sw:AV}{wr:Bool}{ws YE:List (By)}{sn sv:AV}{ns:List (By)}{vs:List Int}{ts:TS}
include T
theorem Ik(hA:A=h++[.cells gG true false])(o:uW A kd b8 kb sw wr ws sn sv ns vs B)(hlen:ts.length=73)(t2:slot ts 2=.ptr h.length 0)(t4:slot ts 4=.ptr A.length 0)(t7:slot ts 7=.ptr (A.length+1) 0)
  (hw:eJ YE=(⟨0,kd,ns,vs,[]⟩,!wr&&decide (ws.length=0))):WC P bN (xF 8) [] ts (A++[gR sw wr]++B) (FQ [(2,some (some 5)),(3,none)] (NC h YE)):=by
 have hAl:A.length=h.length+1:=by rw[hA];simp
 obtain⟨Y,hY⟩:∃Y,Y=A++[gR sw wr]++B:=⟨_,rfl⟩;have UX:Y=h++([ak.cells gG true false]++[gR sw wr]++B):=by rw[hY,hA];simp
 have m2:Y[h.length]? =some (.cells gG true false):=by rw[UX,ZP (ZO _)];simp
 have m4:Y[A.length]? =some (.cells [sw,.bool wr] true false):=by rw[hY];exact Jy
 have m7:Y[A.length+1]? =some (.cells [.int .i64 0,.str kd,sn,sv,.str []] true false):=by rw[hY];exact o.m7
 have ln:=o.n;have lv:=o.v;rw[<-hY]at ln lv ⊢;have x:∃x:EV,x=⟨⟨0,kd,ns,vs,[]⟩,sn,sv⟩:=⟨_,rfl⟩;obtain⟨x,hx⟩:=x;have hrow:x.row=[.int .i64 0,.str kd,sn,sv,.str []]:=by rw[hx];rfl
 have ox:Fr h.length (Y.set h.length (.cells x.row true false)) x.sn 1 (x.ev.names.map ao)/\Fr h.length (Y.set h.length (.cells x.row true false)) x.sv 1 (x.ev.cB.map aM):=by
  rw[hx];exact⟨(ln.aC λj hj=>ZV (by have:=(o.dn j hj).1;omega)).low Om,(lv.aC λj hj=>ZV (by have:=(o.dv j hj).1;omega)).low Om⟩
 have oy:bh Y x:=by rw[hx];exact⟨ln.aX,lv.aX⟩
 have l4:∀{n:Option Nat}{a:Nat},aq n (.ptr A.length a) (λz=>Y[z]?)=dJ n a (.cells [sw,.bool wr] true false):=aB m4;have l7:aq (some 5) (.ptr (A.length+1) 0) (λz=>Y[z]?)=some (.agg x.row,.ay):=by rw[aB m7,hrow];rfl
 have s2:aU 5 (.ptr h.length 0) (.agg x.row) (λz=>Y[z]?)=some (az,.set h.length (.cells x.row true false)):=by rw[aN m2];exact oy.st
 have l2:aq (some 5) (.ptr h.length 0) (λz=>(Y.set h.length (.cells x.row true false))[z]?)=some (.agg x.row,.ay):=by rw[aB (ZU (ZC.1 m2).1)];rfl
 have hlw:=(o.s.aK (row:=ao));have fin:∀b,b=(!wr&&decide (ws.length=0))->NC h YE (.dL [.agg x.row,.bool b]) (Y.set h.length (.cells x.row true false)):=λb hb=>by
  refine⟨⟨([ak.cells gG true false]++[gR sw wr]++B).set 0 (.cells x.row true false),by rw[UX,aaA _ _ (ZO _),aaG]⟩,x,by rw[hw,hx],by rw[hw,hb],ox⟩
 unfold xF fn111;simp only[ai.j,ai.s,ai.r,ai.dr,ai.tl,ai.hd];cases wr with
 |true=>
  repeat (first|simp (config:={maxSteps:=1000000}) only[aS,aW,bo,bp,reduceAdd,reduceMul,reduceLeDiff,reduceEqDiff,bw,hlen,ZY,Z1,t2,t4,t7,l4,l7,s2,Z7,aab,qX,pk,po,pn,qV,pg,uH,zU,uI,qW,mK,zV,uJ,uK,qU,ph,uF,uE]|simp (config:={maxSteps:=1000000}) (disch:=first|(simp only[ZB,ZG,ZJ]<;>omega)|rfl|omega|fail) only[fN,aS,aW,bo,bp,reduceAdd,reduceMul,reduceLeDiff,reduceEqDiff,bw,hlen,ZY,Z1,t2,t4,t7,l4,l7,s2,Z7,aab,qX,pk,po,pn,qV,pg,uH,zU,uI,qW,mK,zV,uJ,uK,qU,ph,uF,uE])
  rw[DU];refine⟨?_,?_⟩
  ·exact Re
  ·repeat (first|simp (config:={maxSteps:=1000000}) only[aS,aW,bo,bp,reduceAdd,reduceMul,reduceLeDiff,reduceEqDiff,bw,hlen,ZY,Z1,t2,l2,pa,pe,pf,abi,aaS]|simp (config:={maxSteps:=1000000}) (disch:=first|(simp only[ZB,ZG,ZJ]<;>omega)|rfl|omega|fail) only[fN,aS,aW,bo,bp,reduceAdd,reduceMul,reduceLeDiff,reduceEqDiff,bw,hlen,ZY,Z1,t2,l2,pa,pe,pf,abi,aaS])
   exact fin _ rfl
 |false=>
  repeat (first|simp (config:={maxSteps:=1000000}) only[aS,aW,bo,bp,reduceAdd,reduceMul,reduceLeDiff,reduceEqDiff,bw,hlen,ZY,Z1,t2,t4,t7,l4,l7,s2,hlw,Z7,aab,qX,pk,po,pn,qV,pg,uH,zU,uI,qW,mK,zV,uJ,uK,qU,ph,uF,uE]|simp (config:={maxSteps:=1000000}) (disch:=first|(simp only[ZB,ZG,ZJ]<;>omega)|rfl|omega|fail) only[fN,aS,aW,bo,bp,reduceAdd,reduceMul,reduceLeDiff,reduceEqDiff,bw,hlen,ZY,Z1,t2,t4,t7,l4,l7,s2,hlw,Z7,aab,qX,pk,po,pn,qV,pg,uH,zU,uI,qW,mK,zV,uJ,uK,qU,ph,uF,uE])
  rw[DU];refine⟨?_,?_⟩
  ·exact Re
  ·repeat (first|simp (config:={maxSteps:=1000000}) only[aS,aW,bo,bp,reduceAdd,reduceMul,reduceLeDiff,reduceEqDiff,bw,hlen,ZY,Z1,t2,l2,pa,pe,pf,abi,aaS]|simp (config:={maxSteps:=1000000}) (disch:=first|(simp only[ZB,ZG,ZJ]<;>omega)|rfl|omega|fail) only[fN,aS,aW,bo,bp,reduceAdd,reduceMul,reduceLeDiff,reduceEqDiff,bw,hlen,ZY,Z1,t2,l2,pa,pe,pf,abi,aaS])
   refine fin _ ?_;cases ws<;>simp
   try omega
def OL(Z:qC P){vN rs c2 c3 a4}(hA:A=h++[.cells gG true false])(hkb:kb=.cells [rs,.int .i64 (vN:Nat),c2,c3,a4] true false)(hvN:vN<=100)(o:uW A kd b8 kb sw wr ws sn sv ns [] B)(hlen:ts.length=73)(t2:slot ts 2=.ptr h.length 0)(t4:slot ts 4=.ptr A.length 0)(t6:slot ts 6=.func (.func 208) [.ptr A.length 0] [])(t7:slot ts 7=.ptr (A.length+1) 0)(t8:slot ts 8=.ptr b8 0)
  (hw:eJ YE=(⟨0,kd,ns,(fE vN ws wr).1,[]⟩,!(fE vN ws wr).2.2&&decide ((fE vN ws wr).2.1.length=0))):WC P bN (xF 7) [] ts (A++[gR sw wr]++B) (FQ [(2,some (some 5)),(3,none)] (NC h YE)):=by
 have m8:=o.m8;rw[hkb]at m8;have l8:∀{n:Option Nat}{a:Nat},aq n (.ptr b8 a) (λz=>(A++[gR sw wr]++B)[z]?)=dJ n a (.cells [rs,.int .i64 (vN:Nat),c2,c3,a4] true false):=aB m8;obtain⟨RR,Tx⟩:∃RR,RR=xF 8:=⟨_,rfl⟩;rw[ON,<-Tx];unfold Cv xF fn111;simp only[ai.j,ai.s,ai.r,ai.dr,ai.tl,ai.hd];refine Rs (A6 t2 t4 t6 t7 t8 @l8) ?_;refine WL.inv T.mix (λn ts' h'=>∃(k:Nat) (sw' Xa:AV) (wr':Bool) (ws':List (By)) (vs':List Int) (B':ah),k<=vN/\n=vN-k/\h' =A++[gR sw' wr']++B'/\uW A kd b8 kb sw' wr' ws' sn Xa ns vs' B'/\vs'.length=k/\fE vN ws wr=(vs'++(fE (vN-k) ws' wr').1,(fE (vN-k) ws' wr').2)/\
   ts'.length=73/\slot ts' 2=.ptr h.length 0/\slot ts' 4=.ptr A.length 0/\slot ts' 6=.func (.func 208) [.ptr A.length 0] []/\slot ts' 7=.ptr (A.length+1) 0/\slot ts' 47=.int .i64 vN/\slot ts' 48=.int .i64 k) vN
  ⟨0,sw,sv,wr,ws,[],B,Om,rfl,rfl,o,rfl,rfl,(Sq t2),(Sq t2),(Sq t4),(Sq t6),(Sq t7),(Sq t2),gP⟩ ?_
 clear hlen t2 t4 t6 t7 t8 l8 m8 o;rintro _ ts' _ ⟨k,sw',Xa,wr',ws',vs',B',hk,rfl,rfl,o,Tp,Ug,hlen,u2,u4,u6,u7,u47,u48⟩;by_cases hlt:k<vN
 ·have e3:decide ((k:Int)<vN)=true:=ZI Om;refine Rs (A7 @u2 @u4 @u6 @u7 @u47 @u48 e3) ?_;refine WF.gen T.c208 (PR T Z o.s o.wl) ?_;rintro _ _ ⟨UE,g,rfl,rfl,Tb⟩;obtain⟨TJ,Wa⟩:∃TJ,TJ=((bT ws' wr').2.2 || !iU (bT ws' wr').1):=⟨_,rfl⟩;obtain⟨y,hy⟩:∃y,y=lE (bT ws' wr').1:=⟨_,rfl⟩;rw[<-Wa,<-hy];have o2:=(o.tk (wr':=TJ) Tb (λx hx=>o.wl x (qY x hx))).app g;have bS:fE vN ws wr=((vs'++[y])++(fE (vN-(k+1)) (bT ws' wr').2.1 TJ).1,(fE (vN-(k+1)) (bT ws' wr').2.1 TJ).2):=by
   rw[Ug,show vN-k=(vN-(k+1))+1 by omega,fE,hy,Wa];simp
  have l7:∀{kk:ah}{n:Option Nat}{a:Nat},Ext (A++[gR UE TJ]++(B'++g)) kk->aq n (.ptr (A.length+1) a) (λz=>kk[z]?)=dJ n a (.cells [.int .i64 0,.str kd,sn,Xa,.str []] true false):=λe=>aB (e.some o2.m7)
  refine Rs (A7 @u2 @u4 @u6 @u7 @u47 @u48 @l7) ?_;refine WR.qB (B:=A++[gR UE TJ]) (cs:=vs'.map aM) (z:=aM y) (by rw[wg];exact o2.v) rfl ⟨_,rfl⟩ De (by simp;omega) ?_;rintro _ s' ⟨g2,rfl⟩ hF hlo hone hle hkp;rw[wg]at hF;have er:vs'.map aM++[aM y]=(vs'++[y]).map aM:=by rw[ZM];rfl
  rw[er]at hF;have q7:=(ZC.1 o2.m7).1;have m7':(A++[gR UE TJ]++g2)[A.length+1]? =some (.cells [.int .i64 0,.str kd,sn,Xa,.str []] true false):=by
   rw[hkp _ q7 (λe=>by have:=(o2.dv _ e).1;omega)];exact o2.m7
  have s7:aU 1 (.ptr (A.length+1) 3) s' (λz=>(A++[gR UE TJ]++g2)[z]?)=some (az,.set (A.length+1) (.cells [.int .i64 0,.str kd,sn,s',.str []] true false)):=by
   rw[aN m7'];exact bW hone Si
  have o3:=o2.OS hF hlo hle hkp;refine Rs (A8 @u2 @u4 @u6 @u7 @u47 @u48 @s7 (wrapN (show k+1<2^63 by omega))) ?_;exact⟨vN-(k+1),Om,k+1,UE,s',TJ,_,vs'++[y],_,Om,rfl,n8,o3,by simp[Tp],bS,rfl⟩
 ·have e3:decide ((k:Int)<vN)=false:=ZD Om;have ek:k=vN:=Om
  subst ek;rw[aaG,fE,Z6]at Ug;rw[Ug]at hw;refine Rs (A7 @u2 @u4 @u6 @u7 @u47 @u48 e3) ?_;rw[Tx];exact Ik T hA o (Sq @u2) (Sq @u2) (Sq @u4) (Sq @u7) hw
def OM(Z:qC P){nN vN rs c2 c3 a4}(hA:A=h++[.cells gG true false])(hkb:kb=.cells [rs,.int .i64 (vN:Nat),c2,c3,a4] true false)(hnN:nN<=100)(hrs:∀G,ju .sl G rs=some nN)(hvN:vN<=100)(o:uW A kd b8 kb sw wr ws sn sv [] [] B)(hlen:ts.length=73)(t2:slot ts 2=.ptr h.length 0)(t4:slot ts 4=.ptr A.length 0)
  (t5:slot ts 5=.func (.func 207) [.ptr A.length 0] []) (t6:slot ts 6=.func (.func 208) [.ptr A.length 0] []) (t7:slot ts 7=.ptr (A.length+1) 0) (t8:slot ts 8=.ptr b8 0)
  (hw:eJ YE=(⟨0,kd,(de nN ws wr).1,(fE vN (de nN ws wr).2.1 (de nN ws wr).2.2).1,[]⟩,!(fE vN (de nN ws wr).2.1 (de nN ws wr).2.2).2.2&&decide ((fE vN (de nN ws wr).2.1 (de nN ws wr).2.2).2.1.length=0))):WC P bN (xF 6) [] ts (A++[gR sw wr]++B) (FQ [(2,some (some 5)),(3,none)] (NC h YE)):=by
 have m8:=o.m8;rw[hkb]at m8;have l8:∀{n:Option Nat}{a:Nat},aq n (.ptr b8 a) (λz=>(A++[gR sw wr]++B)[z]?)=dJ n a (.cells [rs,.int .i64 (vN:Nat),c2,c3,a4] true false):=aB m8;obtain⟨RR,Tx⟩:∃RR,RR=xF 7:=⟨_,rfl⟩;rw[OO,<-Tx];unfold Cv xF fn111;simp only[ai.j,ai.s,ai.r,ai.dr,ai.tl,ai.hd];refine Rs (A8 t2 t4 t5 t6 t7 t8 @l8 @hrs) ?_;refine WL.inv T.mix (λn ts' h'=>∃(k:Nat) (sw' Xc:AV) (wr':Bool) (ws' ns':List (By)) (B':ah),k<=nN/\n=nN-k/\h' =A++[gR sw' wr']++B'/\uW A kd b8 kb sw' wr' ws' Xc sv ns' [] B'/\ns'.length=k/\de nN ws wr=(ns'++(de (nN-k) ws' wr').1,(de (nN-k) ws' wr').2)/\
   ts'.length=73/\slot ts' 2=.ptr h.length 0/\slot ts' 4=.ptr A.length 0/\slot ts' 5=.func (.func 207) [.ptr A.length 0] []/\slot ts' 6=.func (.func 208) [.ptr A.length 0] []/\slot ts' 7=.ptr (A.length+1) 0/\slot ts' 8=.ptr b8 0/\slot ts' 34=.int .i64 nN/\slot ts' 35=.int .i64 k) nN
  ⟨0,sw,sn,wr,ws,[],B,Om,rfl,rfl,o,rfl,rfl,(Sq t2),(Sq t2),(Sq t4),(Sq t5),(Sq t6),(Sq t7),(Sq t8),(Sq t2),gP⟩ ?_
 clear hlen t2 t4 t5 t6 t7 t8 l8 m8 o;rintro _ ts' _ ⟨k,sw',Xc,wr',ws',ns',B',hk,rfl,rfl,o,Tp,Ug,hlen,u2,u4,u5,u6,u7,u8,u34,u35⟩;by_cases hlt:k<nN
 ·have e3:decide ((k:Int)<nN)=true:=ZI Om;refine Rs (A9 @u2 @u4 @u5 @u6 @u7 @u8 @u34 @u35 e3) ?_;refine WF.gen T.c207 (I0 T o.s) ?_;rintro _ _ ⟨UE,rfl,rfl,Tb⟩;obtain⟨TJ,Wa⟩:∃TJ,TJ=(bT ws' wr').2.2:=⟨_,rfl⟩;obtain⟨y,hy⟩:∃y,y=(bT ws' wr').1:=⟨_,rfl⟩;rw[<-Wa,<-hy];have o2:=o.tk (wr':=TJ) Tb (λx hx=>o.wl x (qY x hx));have bS:de nN ws wr=((ns'++[y])++(de (nN-(k+1)) (bT ws' wr').2.1 TJ).1,(de (nN-(k+1)) (bT ws' wr').2.1 TJ).2):=by
   rw[Ug,show nN-k=(nN-(k+1))+1 by omega,de,hy,Wa];simp
  have l7:∀{kk:ah}{n:Option Nat}{a:Nat},Ext (A++[gR UE TJ]++B') kk->aq n (.ptr (A.length+1) a) (λz=>kk[z]?)=dJ n a (.cells [.int .i64 0,.str kd,Xc,sv,.str []] true false):=λe=>aB (e.some o2.m7)
  refine Rs (A9 @u2 @u4 @u5 @u6 @u7 @u8 @u34 @u35 @l7) ?_;refine WR.qB (B:=A++[gR UE TJ]) (cs:=ns'.map ao) (z:=ao y) (by rw[wg];exact o2.n) rfl ⟨_,rfl⟩ De (by simp;omega) ?_;rintro _ s' ⟨g2,rfl⟩ hF hlo hone hle hkp;rw[wg]at hF;have er:ns'.map ao++[ao y]=(ns'++[y]).map ao:=by rw[ZM];rfl
  rw[er]at hF;have q7:=(ZC.1 o2.m7).1;have m7':(A++[gR UE TJ]++g2)[A.length+1]? =some (.cells [.int .i64 0,.str kd,Xc,sv,.str []] true false):=by
   rw[hkp _ q7 (λe=>by have:=(o2.dn _ e).1;omega)];exact o2.m7
  have s7:aU 1 (.ptr (A.length+1) 2) s' (λz=>(A++[gR UE TJ]++g2)[z]?)=some (az,.set (A.length+1) (.cells [.int .i64 0,.str kd,s',sv,.str []] true false)):=by
   rw[aN m7'];exact bW hone Si
  have o3:=o2.OT hF hlo hle hkp;refine Rs (na @u2 @u4 @u5 @u6 @u7 @u8 @u34 @u35 @s7 (wrapN (show k+1<2^63 by omega))) ?_;exact⟨nN-(k+1),Om,k+1,UE,s',TJ,_,ns'++[y],_,Om,rfl,n8,o3,by simp[Tp],bS,rfl⟩
 ·have e3:decide ((k:Int)<nN)=false:=ZD Om;have ek:k=nN:=Om
  subst ek;rw[aaG,de,Z6]at Ug;rw[Ug]at hw;refine Rs (A9 @u2 @u4 @u5 @u6 @u7 @u8 @u34 @u35 e3) ?_;rw[Tx];exact OL T Z hA hkb hvN o (Sq @u2) (Sq @u2) (Sq @u4) (Sq @u6) (Sq @u7) (Sq @u8) hw
def r111(Z:qC P){s ws}(hs:aH h s 1 (ws.map ao))(hwl:∀x∈ws,x.length<=2^40):aA P 111 [s] h (λv k=>∃x:EV,x.ev=(eJ ws).1/\v=.dL [.agg x.row,.bool (eJ ws).2]/\Fr h.length k x.sn 1 (x.ev.names.map ao)/\Fr h.length k x.sv 1 (x.ev.cB.map aM)):=by
 refine .of T.mix (acd T.c111 (aai some OP)) ?_;obtain⟨ts,Sv⟩:∃ts,ts=aT 73 [s]:=⟨_,rfl⟩;have hlen:ts.length=73:=by rw[Sv];rfl
 have t0:slot ts 0=s:=by rw[Sv];rfl
 obtain⟨RR,Tx⟩:∃RR,RR=xF 6:=⟨_,rfl⟩;show WC P bN _ [] (aT 73 [s]) h (FQ _ (NC h ws));rw[<-Sv,<-Tx];clear Sv;have hso:=hs.one;unfold Cv xF fn111;simp only[ai.j,ai.s,ai.r,ai.dr,ai.tl,ai.hd];refine Rs (A2 t0 @hso) ?_;obtain⟨A,hA⟩:∃A,A=h++[ak.cells gG true false]:=⟨_,rfl⟩;have hAl:A.length=h.length+1:=by rw[hA];simp
 have gw:=I0 T (A:=A) (B:=[]) (wr:=false) (hs.ext (k:=A) ⟨_,hA⟩);rw[Z6,hA]at gw;refine WF.gen T.c207 gw ?_;rintro _ _ ⟨UE,rfl,rfl,Tb⟩;rw[Z6];rw[<-hA]at Tb;have hwl2:∀x∈(bT ws false).2.1,x.length<=2^40:=λx hx=>hwl x (qY x hx)
 have TR:eJ ws=match gU (bT ws false).1 with
  |none=>(lP,false)
  |some d=>(⟨0,bz d,(de (bJ d).length (bT ws false).2.1 (bT ws false).2.2).1,(fE (cD d) (de (bJ d).length (bT ws false).2.1 (bT ws false).2.2).2.1 (de (bJ d).length (bT ws false).2.1 (bT ws false).2.2).2.2).1,[]⟩,!(fE (cD d) (de (bJ d).length (bT ws false).2.1 (bT ws false).2.2).2.1 (de (bJ d).length (bT ws false).2.1 (bT ws false).2.2).2.2).2.2&&decide ((fE (cD d) (de (bJ d).length (bT ws false).2.1 (bT ws false).2.2).2.1 (de (bJ d).length (bT ws false).2.1 (bT ws false).2.2).2.2).2.1.length=0)):=by
  unfold eJ;cases gU (bT ws false).1<;>rfl
 generalize (bT ws false).1=kd at *;generalize (bT ws false).2.1=ws2 at *;generalize (bT ws false).2.2=TJ at *;refine Rs t0 ?_;refine WF.res T.c90 (r90 T) ?_;rintro _ g2 ⟨vf,rfl,hk⟩;have lk:∀{z:AV},gZ .s z true (.map (h++[ak.cells gG true false]++[gR UE TJ]++[Dp kd .af .af]).length) (.str kd) (λb=>(h++[ak.cells gG true false]++[gR UE TJ]++[Dp kd .af .af]++g2)[b]?)=lQ z true ((gU kd).map vf):=hk.look;unfold Dp at lk;cases hd:gU kd with
 |none=>
  rw[hd]at lk TR;have Te:∀{z:AV},_=some (AV.dL [z,.bool false],iR.ay):=@lk;have z2:∀{k:ah},Ext (h++[ak.cells gG true false]) k->k[h.length]? =some (.cells gG true false):=λe=>e.some (by rw[ZP (ZO _)];simp)
  have s2:∀{k:ah},Ext (h++[ak.cells gG true false]) k->aU 5 (.ptr h.length 0) (.agg [.int .i64 0,.str [],.af,.af,.str []]) (λz=>k[z]?)=some (az,.set h.length (.cells gG true false)):=λe=>by rw[aN (z2 e)];rfl
  have l2:∀{k:ah},Ext (h++[ak.cells gG true false]) k->aq (some 5) (.ptr h.length 0) (λz=>k[z]?)=some (.agg gG,.ay):=λe=>by rw[aB (z2 e)];rfl
  have sq:∀{k:ah},Ext (h++[ak.cells gG true false]) k->k.set h.length (.cells gG true false)=k:=λ{k} e=>by
   have:=z2 e;exact La
  refine Rs (A8 t0 @bC @Te @iP @aab @s2 @sq @l2) ?_;exact⟨Xx,⟨lP,.af,.af⟩,by rw[TR],by rw[TR];rfl,.nil,.nil⟩
 |some d=>
  rw[hd]at lk TR;have Te:∀{z:AV},_=some (AV.dL [vf d,.bool true],iR.ay):=@lk;obtain⟨rs,a,hv,hr,ha,hab⟩:=(hk.k d).ex;rw[hv]at Te;have Wp:=hr.aK;have c1:=mA d;have c2:=lS d;have c3:=hr.one;have h3:(bJ d).length<=3/\cD d<=3:=by cases d<;>decide
  refine Rs (A8 t0 @bC @Te @Z7 @c1 @c2 @c3 @ha) ?_;rw[Tx];obtain⟨kb,hkb⟩:∃kb,kb=ak.cells [rs,.int .i64 (cD d:Nat),kh d,pK d,a] true false:=⟨_,rfl⟩;obtain⟨b8,hb8⟩:∃b8,b8=(h++[ak.cells gG true false]++[gR UE TJ]++[ak.cells [.int .i64 0,.str kd,.af,.af,.str []] true false]++g2).length:=⟨_,rfl⟩;rw[<-hkb,<-hb8];have eh:h++[ak.cells gG true false]++[gR UE TJ]++[ak.cells [.int .i64 0,.str kd,.af,.af,.str []] true false]++g2++[kb]=A++[gR UE TJ]++([Dp kd .af .af]++g2++[kb]):=by rw[hA];unfold Dp;simp
  rw[eh];have o:uW A kd b8 kb UE TJ ws2 .af .af [] [] ([Dp kd .af .af]++g2++[kb]):=by
   refine⟨?_,?_,?_,Tb,hwl2,.nil,.nil,λi hi=>(by cases hi),λi hi=>(by cases hi),λi hi=>(by cases hi)⟩
   ·rw[ZP Si];simp
   ·rw[<-eh,hb8,ZP (ZO _),aaG];rfl
   ·rw[hb8,hAl];simp only[ZB,Z4];omega
  refine OM T Z (nN:=(bJ d).length) (vN:=cD d) hA hkb Om Wp Om o (Sq t0) (Sq t0) ?_ ?_ ?_ ?_ (Sq t0) ?_
  all_goals first|(rw[TR,cj hd];done)|skip
  ·refine Zs t0 ?_;rw[hA];rfl
  ·refine Zs t0 ?_;rw[hA];rfl
  ·refine Zs t0 ?_;rw[hA];rfl
  ·refine Zs t0 ?_;rw[hA];simp
end
def te{c s n}(hs:s.length<=n):∀x∈bM c s,x.length<=n:=λx hx=>aat (tg x hx) hs
theorem rY{c}:∀{s},(fp c s).1.length<=s.length/\(fp c s).2.1.length<=s.length
 |[]=>⟨ZO _,ZO _⟩
 |x::r=>by
  have ih:=rY (c:=c) (s:=r);rw[fp];split
  ·simp
  ·simp only[ZG];omega
def GQ{h G:ah}{X Y:ak}{j:Nat}(hj:j≠h.length):(h++([X]++G))[j]? =(h++([Y]++G))[j]? :=by
 rw[<-ZE,<-ZE];exact qQ hj
section
variable {P:Program}(T:fy P) {h:ah}
include T
def r99(X:DT P)(Z:qC P)(w:Pw h)(s:By)(hsl:s.length<=2^38)(n:Int):aA P 99 [.str s,.i n] h (λv k=>∃x:EV,x.ev=(fY s n).1/\v=.dL [.agg x.row,.i (fY s n).2]/\Fr h.length k x.sn 1 (x.ev.names.map ao)/\Fr h.length k x.sv 1 (x.ev.cB.map aM)):=by
 refine .eP 83 T.mix T.c99 ?_;intro ts hlen t0 t1;unfold fn99 gA;have w1:IntKind.i64.wrap ((s.length:Int)-7)=(s.length:Int)-7:=bj Om Om;have w2:IntKind.i64.wrap ((s.length:Int)-7-1)=(s.length:Int)-8:=by rw[bj Om Om];omega
 have s2:=@LG h;have l2:=@LI h;have sq:=@LH h;have bad:∀{c:Int}{k:ah},fY s n=(lP,c)->Ext h k->(Ext h k/\∃x:EV,x.ev=(fY s n).1/\AV.dL [.agg [.i 0,.str [],.af,.af,.str []],.i c]=.dL [.agg x.row,.i (fY s n).2]/\Fr h.length k x.sn 1 (x.ev.names.map ao)/\Fr h.length k x.sv 1 (x.ev.cB.map aM)):=
  λhe e=>⟨e,⟨lP,.af,.af⟩,by rw[he],by rw[he];rfl,.nil,.nil⟩
 by_cases h8:s.length<8
 ·have d1:decide ((s.length:Int)-8<0)=true:=ZI Om;refine Rs (A8 t0 t1 @w1 @w2 @d1 @s2 @l2 @sq) ?_;exact(bad (by rw[fY,ZS h8]) Xx).2
 have d1:decide ((s.length:Int)-8<0)=false:=ZD Om;have ea:(s.length:Int)-8=((s.length-8:Nat):Int):=Om
 rw[ea]at w2 d1;have hlt:s.length-8<s.length:=Om
 have w3:IntKind.i64.wrap (((s.length-8:Nat):Int)+1)=((s.length-7:Nat):Int):=by rw[bj Om Om];omega
 have gd:s.getD (s.length-8) 0=s[s.length-8]:=by rw[aaf,ZH hlt];rfl
 by_cases hh:s[s.length-8]=35
 case neg=>
  have d2:decide ((s[s.length-8].toNat:Int)≠35)=true:=ZI λe=>hh (UInt8.toNat_inj.1 (by simpa using (by omega:s[s.length-8].toNat=35)))
  repeat (first|simp (config:={maxSteps:=1000000}) only[aS,aW,bo,bp,reduceAdd,reduceMul,reduceLeDiff,reduceEqDiff,bw,hlen,ZY,Z1,t0,t1,w1,w2,d1,jU hlt,d2,s2,l2,sq]|simp (config:={maxSteps:=1000000}) (disch:=first|(simp only[ZB,ZG,ZJ]<;>omega)|rfl|omega|fail) only[fN,aS,aW,bo,bp,reduceAdd,reduceMul,reduceLeDiff,reduceEqDiff,bw,hlen,ZY,Z1,t0,t1,w1,w2,d1,jU hlt,d2,s2,l2,sq])
  exact(bad (by rw[fY,ZN h8,ZS (.inl (by rw[gd];exact hh))]) Xx).2
 have d2:decide ((s[s.length-8].toNat:Int)≠35)=false:=ZD (by rw[hh];decide)
 repeat (first|simp (config:={maxSteps:=1000000}) only[aS,aW,bo,bp,reduceAdd,reduceMul,reduceLeDiff,reduceEqDiff,bw,hlen,ZY,Z1,t0,t1,w1,w2,d1,jU hlt,d2,w3,kJ (show s.length-7<=s.length by omega)]|simp (config:={maxSteps:=1000000}) (disch:=first|(simp only[ZB,ZG,ZJ]<;>omega)|rfl|omega|fail) only[fN,aS,aW,bo,bp,reduceAdd,reduceMul,reduceLeDiff,reduceEqDiff,bw,hlen,ZY,Z1,t0,t1,w1,w2,d1,jU hlt,d2,w3,kJ (show s.length-7<=s.length by omega)])
 refine WF.ce T.c189 (r189 T _ (by rw[abz];omega)) λg1=>?_
 cases hd:rX (s.drop (s.length-7))with
 |false=>
  refine Rs (A7 t0 t1 @hd @aab @s2 @l2 @sq) ?_;exact(bad (by rw[fY,ZN h8,ZS (.inr (by rw[hd];simp))]) Xx).2
 |true=>
 repeat (first|simp (config:={maxSteps:=1000000}) only[aS,aW,bo,bp,reduceAdd,reduceMul,reduceLeDiff,reduceEqDiff,bw,hlen,ZY,Z1,t0,t1,hd,Z7,rl (show s.length-8<=s.length by omega)]|simp (config:={maxSteps:=1000000}) (disch:=first|(simp only[ZB,ZG,ZJ]<;>omega)|rfl|omega|fail) only[fN,aS,aW,bo,bp,reduceAdd,reduceMul,reduceLeDiff,reduceEqDiff,bw,hlen,ZY,Z1,t0,t1,hd,Z7,rl (show s.length-8<=s.length by omega)])
 have VC:∀{α:Type}{a b:α},(if s.getD (s.length-8) 0≠35\/¬rX (s.drop (s.length-7))=true then a else b)=b:=λ{_ _ _}=>ZN (by rw[gd,hd];simp[hh])
 refine WF.ce T.c187 (r187 T Z _ (by rw[aaB];omega) (w.ext Xx)) λg2=>?_
 by_cases hc:nR (s.take (s.length-8))=s.drop (s.length-7)
 case neg=>
  have d3:decide (nR (s.take (s.length-8))≠s.drop (s.length-7))=true:=ZI hc
  repeat (first|simp (config:={maxSteps:=1000000}) only[aS,aW,bo,bp,reduceAdd,reduceMul,reduceLeDiff,reduceEqDiff,bw,hlen,ZY,Z1,t0,t1,w3,kJ (show s.length-7<=s.length by omega),d3,s2,l2,sq]|simp (config:={maxSteps:=1000000}) (disch:=first|(simp only[ZB,ZG,ZJ]<;>omega)|rfl|omega|fail) only[fN,aS,aW,bo,bp,reduceAdd,reduceMul,reduceLeDiff,reduceEqDiff,bw,hlen,ZY,Z1,t0,t1,w3,kJ (show s.length-7<=s.length by omega),d3,s2,l2,sq])
  exact(bad (by rw[fY,ZN h8,VC,ZS hc]) Xx).2
 have d3:decide (nR (s.take (s.length-8))≠s.drop (s.length-7))=false:=ZD (λz=>z hc);have hes:fY s n=if !iU (fp 32 (s.take (s.length-8))).1 || !(eJ (bM 32 (fp 32 (s.take (s.length-8))).2.1)).2||decide (gW { (eJ (bM 32 (fp 32 (s.take (s.length-8))).2.1)).1 with num:=lE (fp 32 (s.take (s.length-8))).1}≠0)then(lP,25)else({ (eJ (bM 32 (fp 32 (s.take (s.length-8))).2.1)).1 with num:=lE (fp 32 (s.take (s.length-8))).1},cA (decide (lE (fp 32 (s.take (s.length-8))).1≠n)) 11):=(ZN h8).trans (VC.trans (ZN (λz=>z hc)))
 have htl:(s.take (s.length-8)).length<=2^38:=by rw[aaB];omega
 have hcl:=rY (c:=32) (s:=s.take (s.length-8))
 repeat (first|simp (config:={maxSteps:=1000000}) only[aS,aW,bo,bp,reduceAdd,reduceMul,reduceLeDiff,reduceEqDiff,bw,hlen,ZY,Z1,t0,t1,w3,kJ (show s.length-7<=s.length by omega),d3,rl (show s.length-8<=s.length by omega)]|simp (config:={maxSteps:=1000000}) (disch:=first|(simp only[ZB,ZG,ZJ]<;>omega)|rfl|omega|fail) only[fN,aS,aW,bo,bp,reduceAdd,reduceMul,reduceLeDiff,reduceEqDiff,bw,hlen,ZY,Z1,t0,t1,w3,kJ (show s.length-7<=s.length by omega),d3,rl (show s.length-8<=s.length by omega)])
 refine WF.ce T.c98 (r98 T X _ 32 Om) λg3=>?_
 generalize hq1:(fp 32 (s.take (s.length-8))).1=a1 at hes hcl ⊢;generalize hq2:(fp 32 (s.take (s.length-8))).2.1=a2 at hes hcl ⊢;refine Rs (A2 t0 t1) ?_;refine WF.ce T.c190 (r190 T Z a1 Om) λg4=>?_
 refine Rs (A2 t0 t1) ?_;refine WF.res T.c64 (r64 T X a2 32 Om) ?_;intro v g5 hv;refine Rs (A2 t0 t1) ?_;have T4:=vD (bM 32 a2);refine WF.res T.c111 (r111 T Z hv (te Om)) ?_;rintro _ g6 ⟨x,hx,rfl,fn,fv⟩;have ox:bh _ x:=⟨fn.aX,fv.aX⟩;rw[<-hx]at hes T4;generalize (eJ (bM 32 a2)).2=fm at hes ⊢;obtain⟨x',SC⟩:∃x':EV,x' =⟨{x.ev with num:=lE a1},x.sn,x.sv⟩:=⟨_,rfl⟩;have Tg:x'.sn=x.sn:=by rw[SC]
 have hsv:x'.sv=x.sv:=by rw[SC]
 have Wh:x'.ev.names=x.ev.names:=by rw[SC]
 have Tp:x'.ev.cB=x.ev.cB:=by rw[SC]
 have hrow:x'.row=x.row.set 0 (.i (lE a1)):=by rw[SC];rfl
 have hev:({x.ev with num:=lE a1}:dN)=x'.ev:=by rw[SC]
 rw[hev]at hes;have TL:fY s n=if !iU a1 || !fm||decide (gW x'.ev≠0)then(lP,25)else(x'.ev,cA (decide (lE a1≠n)) 11):=hes
 rw[<-Tg,<-Wh]at fn;rw[<-hsv,<-Tp]at fv;have X5:bh _ x':=⟨fn.aX,fv.aX⟩;have st:∀{b':Nat}{a0 a1 a2 a3 a4:AV},jI 5 0 (.agg x.row) b' (.b [a0,a1,a2,a3,a4])=some (az,.set b' (.b x.row)):=λ{_ _ _ _ _ _}=>ox.st
 have lB:∀{b':Nat},jI 1 0 (.i (lE a1)) b' (.b x.row)=some (az,.set b' (.b x'.row)):=λ{b'}=>by
  rw[hrow];exact bW rfl (by show 0+1<=5;omega)
 cases hdg:iU a1 with
 |false=>
  rw[hdg]at TL;refine Rs (A9 t0 t1 @st @lB @b9 @aab @s2 @l2 @sq) ?_;exact z196
 |true=>
 cases fm with
 |false=>
  rw[hdg]at TL;refine Rs (na t0 t1 @st @lB @b9 @aab @Z7 @s2 @l2 @sq) ?_;exact z196
 |true=>
 rw[hdg]at TL;refine Rs (A7 t0 t1 @st @lB @b9 @aab @Z7) ?_;refine WF.ce T.c67 (r67 T (X5.ext Xx) ⟨by rw[Wh];omega,by rw[Tp];omega⟩) λg7=>?_
 by_cases TU:gW x'.ev=0
 case neg=>
  have d4:decide (gW x'.ev≠0)=true:=ZI TU;rw[d4]at TL;refine Rs (A6 t0 t1 @d4 @s2 @l2 @sq) ?_;exact z196
 have d4:decide (gW x'.ev≠0)=false:=ZD (λz=>z TU);rw[d4]at TL;have key:∀{k:ah}{W:ah},bh W x'->Ext (h++[ak.b [.i 0,.str [],.af,.af,.str []]]) W->Ext W k->aU 5 (.ptr h.length 0) (.agg x'.row) (λz=>k[z]?)=some (az,.set h.length (.b x'.row)):=λo e1 e2=>LF (o.ext e2) (e1.trans e2)
 have sx:=λ{k:ah}=>@key k _ X5 Xx
 have ly:=@LD h;refine Rs (A4 t0 t1 @d4 @b9) ?_;refine WF.ce T.c85 (r85 T _ _) λg8=>?_
 have fn3:=((fn.app [ak.b x'.row]).app g7).app g8;have fv3:=((fv.app [ak.b x'.row]).app g7).app g8;refine Rs (A4 t0 t1 @sx @ly) ?_;refine⟨Xx,x',by rw[TL];rfl,by rw[TL];rfl,(fn3.aC λj hj=>?_).low ?_,(fv3.aC λj hj=>?_).low ?_⟩
 ·simp only[ZE];refine GQ λe=>?_
  have:=(fn3.bP hj).1;simp only[ZB,Z4]at this;omega
 ·exact z201
 ·simp only[ZE];refine GQ λe=>?_
  have:=(fv3.bP hj).1;simp only[ZB,Z4]at this;omega
 ·exact z201
end
end Go.Abs
