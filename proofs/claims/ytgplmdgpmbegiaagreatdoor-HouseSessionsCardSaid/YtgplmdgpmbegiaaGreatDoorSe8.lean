/- A part of the proof that HouseSessions holds. No condition. -/
import Derived.Test.YtgplmdgpmbegiaaGreatDoorSe7
import Derived.Lib.Bytealg
import Derived.Test.YtgplmdgpmbegiaaGreatDoorSe6
import Derived.Lib.ItoaNum
import Derived.Lib.ItoaLen
import Derived.Lib.ItoaMem
import Derived.Lib.Join
import Derived.Test.YtgplmdgpmbegiaaGreatDoorSe0
set_option maxHeartbeats 4000000
set_option linter.all false
open Nat (reduceAdd reduceMul reduceLeDiff reduceEqDiff)
namespace Go.Abs
theorem wh:∀(l m:List fi) (H:ju) (i:Nat),ia H (l++m) i=if(ia H l i).2.2≠0 then ia H l i else ia (ia H l i).1 m (i+l.length)
 |[],m,H,i=>by simp[ia]
 |e::l,m,H,i=>by
  rw[aaX,ia,ia];by_cases h:ez H e≠0
  ·simp only[ZY h]
  ·simp only[ZW h];rw[wh l m (ka H e) (i+1)];have:i+1+l.length=i+(e::l).length:=by simp only[ZP];omega
   rw[this]
def qK(l:List fi)(e:fi):Int:=
 if(bF l).2.2≠0 then(bF l).2.2 else if dB e≠0 then dB e else if 1000<=l.length then 5 else(bF (l++[e])).2.2
def tH{l:List fi}{e:fi}(h:(bF l).2.2=0)(hl:l.length<1000):bF (l++[e])=if ez (bF l).1 e≠0 then(ju.zero,(l.length:Int)+1,ez (bF l).1 e)else(ka (bF l).1 e,0,0):=by
 have e1:bF l=ia ju.zero l 0:=by rw[bF,ZW Om]
 have e2:bF (l++[e])=ia ju.zero (l++[e]) 0:=by rw[bF,ZW (by simp;omega)]
 rw[e2,wh,<-e1,ZW (λz=>z h),ia,aaD];rfl
def DU(l:List fi)(e:fi):qK l e=DT l e:=by
 unfold qK DT;by_cases h1:(bF l).2.2=0
 case neg=>
  have hf:bn [(bF l).2.2,dB e,bW (decide (1000<=l.length)) 5]=(bF l).2.2:=by rw[bn,ZW h1]
  rw[ZY h1,hf,ZY h1]
 rw[ZW (λz=>z h1)];by_cases h2:dB e=0
 case neg=>
  have hf:bn [(bF l).2.2,dB e,bW (decide (1000<=l.length)) 5]=dB e:=by rw[bn,ZY h1,bn,ZW h2]
  rw[ZY h2,hf,ZY h2]
 rw[ZW (λz=>z h2)];by_cases h3:1000<=l.length
 ·have hf:bn [(bF l).2.2,dB e,bW (decide (1000<=l.length)) 5]=5:=by
   rw[bn,ZY h1,bn,ZY h2,ZR h3];rfl
  rw[ZY h3,hf,ZY De]
 ·have hf:bn [(bF l).2.2,dB e,bW (decide (1000<=l.length)) 5]=0:=by
   rw[bn,ZY h1,bn,ZY h2,ZN h3];rfl
  rw[ZW h3,hf,ZW (λz=>z rfl),tH h1 Om];have hb:ez (bF l).1 e=ke (bF l).1 e:=by rw[ez,ZW (λz=>z h2)]
  by_cases h4:ez (bF l).1 e=0
  ·rw[ZW (λz=>z h4),<-hb,h4]
  ·rw[ZY h4,hb]
def mA{α:Type}(l:List α):l=[]\/∃m x,l=m++[x]:=by
 rcases List.eq_nil_or_concat l with h|⟨m,x,h⟩
 ·exact .inl h
 ·exact .inr ⟨m,x,by rw[h,List.concat_eq_append]⟩
def aF(c:UInt8):By->List (By)
 |[]=>[[]]
 |x::r=>
  if x=c then []::aF c r
  else match aF c r with
   |p::ps=>(x::p)::ps
   |[]=>[[x]]
def fJ{c:UInt8}:∀{s:By},aF c s≠[]
 |[]=>by simp[aF]
 |x::r=>by
  unfold aF;split
  ·simp
  ·split<;>simp
theorem tC{c:UInt8}:∀{s:By},c∉s->aF c s=[s]
 |[],_=>rfl
 |x::r,h=>by
  unfold aF;rw[ZW (λe=>h (by simp[e])),tC (λhr=>h (aao _ hr))]
theorem ry{c:UInt8}{q:By}:∀{p:By},c∉p->aF c (p++c::q)=p::aF c q
 |[],_=>by simp[aF]
 |x::r,h=>by
  rw[aaX,aF,ZW (λe=>h (by simp[e])),ry (λhr=>h (aao _ hr))]
theorem jS{c:UInt8}:∀{s:By},(aF c s).length=s.count c+1
 |[]=>rfl
 |x::r=>by
  have ih:=jS (c:=c) (s:=r);unfold aF;by_cases h:x=c
  ·subst h;rw[ZY rfl,ZP,ih,List.count_cons_self]
  ·rw[ZW h,List.count_cons_of_ne h];cases hs:aF c r with
   |nil=>exact absurd hs fJ
   |cons p ps=>rw[hs]at ih;simpa using ih
theorem kM{c:UInt8}:∀{s:By},∀p∈aF c s,p.length<=s.length
 |[]=>by simp[aF]
 |x::r=>by
  have ih:=kM (c:=c) (s:=r);intro p hp;unfold aF at hp;rw[ZP];by_cases h:x=c
  ·rw[ZY h]at hp;rcases aap.1 hp with rfl|hp
   ·simp
   ·have:=ih p hp;omega
  ·rw[ZW h]at hp;cases hs:aF c r with
   |nil=>exact absurd hs fJ
   |cons q qs=>
    rw[hs]at hp ih;rcases aap.1 hp with rfl|hp
    ·have:=ih q Si;rw[ZP];omega
    ·have:=ih p (by simp[hp]);omega
def iv(c:UInt8):List (By)->By
 |[]=>[]
 |[p]=>p
 |p::ps=>p++c::iv c ps
def jV{c:UInt8}{p:By}{r:List (By)}(h:r≠[]):iv c (p::r)=p++c::iv c r:=by
 cases r with
 |nil=>exact absurd rfl h
 |cons=>rfl
theorem jk{c:UInt8}:∀{s:By},iv c (aF c s)=s
 |[]=>rfl
 |x::r=>by
  have ih:=jk (c:=c) (s:=r);unfold aF;by_cases h:x=c
  ·subst h;rw[ZY rfl];cases hs:aF x r with
   |nil=>exact absurd hs fJ
   |cons p ps=>rw[hs]at ih;rw[iv,ih]<;>simp
  ·rw[ZW h];cases hs:aF c r with
   |nil=>exact absurd hs fJ
   |cons p ps=>
    rw[hs]at ih;cases ps with
    |nil=>rw[iv]at ih ⊢;rw[ih]
    |cons q qs=>
     rw[iv]at ih ⊢<;>first|(rw[<-ih];rfl)|simp
theorem Hd{c:UInt8}:∀{s:By},c∉s->Lib.indexByte s c= -1
 |[],_=>rfl
 |x::r,h=>by
  unfold Lib.indexByte;have h1:(x==c)=false:=by simp;exactλe=>h (by simp[e])
  rw[h1,Hd (λhr=>h (aao _ hr))];rfl
theorem C6{c:UInt8}{q:By}:∀{p:By},c∉p->Lib.indexByte (p++c::q) c=p.length
 |[],_=>by simp[Lib.indexByte]
 |x::r,h=>by
  have ih:=C6 (q:=q) (λhr=>h (aao _ hr):c∉r);rw[aaX,Lib.indexByte];have h1:(x==c)=false:=by simp;exactλe=>h (by simp[e])
  rw[h1,ih];have h2:((r.length:Int) == -1)=false:=Si
  rw[h2];simp
def wT(c:UInt8)(s:By):(c∉s/\Lib.indexByte s c= -1)\/∃p q,c∉p/\s=p++c::q/\Lib.indexByte s c=p.length:=by
 by_cases h:c∈s
 ·right
  obtain⟨p,q,rfl,hp⟩:=List.eq_append_cons_of_mem h;exact⟨p,q,hp,rfl,C6 hp⟩
 ·exact .inl ⟨h,Hd h⟩
def js(s:By):Int:=s.foldl (λn c=>10*n+((c.toNat:Int)-48)) 0
def cE(s:By):Bool:=!decide (s.length=0)&&decide (s.length<=9) && !(decide (1<s.length)&&decide (s.head? =some 48))&&s.all cO
def lB(s:By):Bool:=!decide (s=[])&&s.all cO
def dM(s:By):Int:=if cE s then js s else 0
def Fw:Nat->Nat->By
 | 0,u=>[UInt8.ofNat (48+u)]
 |f+1,u=>
  match Nat.blt u 10 with
  |true=>[UInt8.ofNat (48+u)]
  |false=>Fw f (u / 10)++[UInt8.ofNat (48+u%10)]
theorem Ab:∀(f u:Nat),u<10^(f+1)->Fw f u=Lib.decDigits u
 | 0,u,h=>by rw[Lib.decDigits,dif_pos (by simpa using h)];rfl
 |f+1,u,h=>by
  unfold Fw;cases hb:Nat.blt u 10 with
  |true=>rw[Lib.decDigits,dif_pos (by rw[Nat.blt_eq]at hb;exact hb)]
  |false=>
   have hn:¬u<10:=λx=>by rw[<-Nat.blt_eq,hb]at x;cases x
   rw[Lib.decDigits,dif_neg hn,Ab f (u / 10) (by rw[Nat.pow_succ]at h;omega)]
def ee(n:Int):By:=Fw n.toNat n.toNat
def jt(n:Int):ee n=Lib.decDigits n.toNat:=Ab _ _ (Nat.lt_trans (Nat.lt_succ_self _) (Nat.lt_pow_self De))
def jq(s:By):Int:=s.foldl (λx c=>(339*x+(c.toNat:Int)).tmod 9999749) 1
def jo(s:By):By:=List.replicate (7-(ee (jq s)).length) 48++ee (jq s)
def sD(e:fi):List (By):=[ee e.num,e.kind]++e.names++e.bQ.map ee
def dX(e:fi):By:=iv 32 (sD e)
def lU(e:fi):By:=dX e++[35]++jo (dX e)++[10]
def iL(l:List fi):By:=(l.map lU).flatten
def bI:List (By)->Bool->By×List (By)×Bool
 |[],_=>([],[],true)
 |w::r,wr=>if w=[]then([],[],true)else(w,r,wr)
def cA:Nat->List (By)->Bool->List (By)×List (By)×Bool
 | 0,ws,b=>([],ws,b)
 |n+1,ws,b=>((bI ws b).1:: (cA n (bI ws b).2.1 (bI ws b).2.2).1,(cA n (bI ws b).2.1 (bI ws b).2.2).2)
def dC:Nat->List (By)->Bool->List Int×List (By)×Bool
 | 0,ws,b=>([],ws,b)
 |n+1,ws,b=>(dM (bI ws b).1:: (dC n (bI ws b).2.1 ((bI ws b).2.2 || !cE (bI ws b).1)).1,(dC n (bI ws b).2.1 ((bI ws b).2.2 || !cE (bI ws b).1)).2)
def fg:fi:=⟨0,[],[],[],[]⟩
def cp(ws:List (By)):fi×Bool:=
 match ff (bI ws false).1 with
 |none=>(fg,false)
 |some d=>
  let n:=cA (aM d).length (bI ws false).2.1 (bI ws false).2.2
  let v:=dC (bK d) n.2.1 n.2.2
  (⟨0,bw d,n.1,v.1,[]⟩,!v.2.2&&decide (v.2.1.length=0))
def cK(c:UInt8):By->By×By×Bool
 |[]=>([],[],false)
 |x::r=>if x=c then([],r,true)else(x:: (cK c r).1,(cK c r).2)
def cZ(s:By)(n:Int):fi×Int:=
 if s.length<8 then(fg,25)else
 if s.getD (s.length-8) 0≠35\/¬lB (s.drop (s.length-7))=true then(fg,25)else
 if jo (s.take (s.length-8))≠s.drop (s.length-7)then(fg,27)else
 let h:=cK 32 (s.take (s.length-8))
 let e:=cp (aF 32 h.2.1)
 if !cE h.1 || !e.2||decide (dB {e.1 with num:=dM h.1}≠0)then(fg,25)else
 ({e.1 with num:=dM h.1},bW (decide (dM h.1≠n)) 11)
def jf:Nat->By->List fi->Nat->List fi×Int×Int
 | 0,_,l,a=>(l,(a:Int),0)
 |f+1,s,l,a=>
  if s=[]then(l,(a:Int),0)else
  if !(cK 10 s).2.2 then(l,(a:Int),28)else
  let e:=cZ (cK 10 s).1 ((l.length:Int)+1)
  if e.2≠0 then(l,(a:Int),e.2)else jf f (cK 10 s).2.1 (l++[e.1]) (a+(cK 10 s).1.length+1)
def cj(s:By):List fi×Int×Int:=if 1000000<s.length then([],0,26)else jf (s.length+1) s [] 0
def jE(w:By):Option (Nat×Bool×Nat):=
 if w=[108,101,102,116]then some (0,true,4)else
 if w=[102,114,111,109]then some (1,true,5)else
 if w=[108,105,110,101,115]then some (2,true,3)else
 if w=[117,110,115,97,102,101]then some (3,false,2)else
 if w=[116,97,112,101,115]then some (4,true,2)else
 if w=[114,101,108,101,97,115,101,100]then some (5,false,5)else
 if w=[119,97,110,116]then some (6,true,0)else none
def pO(l:List pI):List (By):=(l.map λp=>if p.rel then [p.name,ee p.kE]else []).flatten
def fu(R:hO)(n:By):Nat->List (By)
 | 0=>(db (gj R n).bz 0).map ee
 | 1=>qo R n
 | 2=>(iT R n).map iH.name
 | 3=>jB R R.tick
 | 4=>(nW R n).aH
 | 5=>pO R.aK
 |_=>[ee (sO R n).length,ee (du R n).want,if(du R n).acc then [97,99,99,101,112,116,101,100]else [111,112,101,110]]
def p8(l:List (By)):By:=if l=[]then [110,111,110,101]else iv 32 l
def iP(R:hO)(ws:List (By))(q:Nat×Bool×Nat):By×Int:=
 let n:=if q.2.1=true/\ws.length=2 then ws.getD 1 []else []
 if(q.2.1=true/\¬(ws.length=2/\n≠[]))\/(q.2.1=false/\ws.length≠1)then([],25)else
 if q.2.1=true/\eo R q.2.2 n=false then([],10)else(p8 (fu R n q.1),0)
def pV(H:ju)(s:By):ju×By×Int:=
 if 4096<s.length then(H,[],26)else
 if s=[]then(H,[],25)else
 match jE ((aF 32 s).headD [])with
 |some q=>(H,iP H.now (aF 32 s) q)
 |none=>
  match ff ((aF 32 s).headD [])with
  |none=>(H,[],13)
  |some _=>
   if !(cp (aF 32 s)).2 then(H,[],25)else
   if 1000<=H.cN.length then(H,[],5)else
   let e:={ (cp (aF 32 s)).1 with num:=(H.cN.length:Int)+1}
   if ez H e≠0 then(H,[],ez H e)else(ka H e,[100,111,110,101,32]++ee e.num,0)
structure xX(P:Program):Prop where
 ib:∀(args:Array Value) (w:World),(callFunc 288 args).run P w=((Extern.BytealgIndexByte.indexByte args).run P w).andThen λv w'=>.ok (.value v) w'
 ct:∀(args:Array Value) (w:World),(callFunc 262 args).run P w=((Extern.BytealgCount.count args).run P w).andThen λv w'=>.ok (.value v) w'
def BT(c:UInt8):(c.toNat:Int).toNat.toUInt8=c:=Si
def nw{s}{n:Nat}{kk}(hn:n<=s.length):qM (.str s) none (some (.int kk (n:Int)))=some (.str (s.take n)):=by
 simp only[qM,ku hn,abc,Nat.sub_zero]
def gP{s}{n:Nat}{kk}(hn:n<=s.length):qM (.str s) (some (.int kk (n:Int))) none=some (.str (s.drop n)):=by
 simp only[qM,lD hn];rw[aau Si]
def uA{p r kk}:qM (.str (p++r)) none (some (.int kk (p.length:Int)))=some (.str p):=by
 rw[nw Si];simp
def nU{p r c kk}:qM (.str (p++c::r)) (some (.int kk ((p.length+1:Nat):Int))) none=some (.str r):=by
 rw[gP Si];simp
def zo{α:Type}{don:List α}{z q:α}{m k:Nat}(hk:don.length=k)(hm:0<m):(don++List.replicate m z).set k q=(don++[q])++List.replicate (m-1) z:=by
 subst hk;obtain⟨n,rfl⟩:∃n,m=n+1:=⟨m-1,Om⟩;rw[abr,aaE _ _ (Z0 _),aaR];simp
section
variable {P:Program}(X:xX P) {h:ah}
include X
def Ot(s:By)(c:UInt8):bH P (.func (.func 288) [] []) [.str s,.int .u8 c.toNat] h (λv h'=>v=.int .i64 (Lib.indexByte s c)/\h' =h):=by
 refine⟨_,[],?_,rfl,Si⟩;rw[aaf];intro m w cv vs hr hf hargs;rw[VR]at hf;obtain⟨f',a',c',rfl,hfn,ha,hc⟩:=hf;simp only[BC]at hfn;subst hfn;rw[bE]at ha hc;subst ha;subst hc;obtain⟨v1,vs1,rfl,h1,hargs⟩:=aT.1 hargs;obtain⟨v2,vs2,rfl,h2,hargs⟩:=aT.1 hargs;rw[bE]at hargs;subst hargs;have h1:v1=.string ⟨⟨s⟩⟩:=h1;have h2:v2=.int .u8 (c.toNat:Int):=h2;subst h1;subst h2;refine⟨_,λw=>rfl,?_⟩;simp only[invoke];rw[X.ib];have e:=Lib.run_indexByteString (P:=P) ⟨⟨s⟩⟩ (c.toNat:Int) w;rw[BT]at e;have e':(Extern.BytealgIndexByte.indexByte (#[]++#[.string ⟨⟨s⟩⟩,.int .u8 (c.toNat:Int)]++#[])).run P w=.ok (.int .i64 (Lib.indexByte s c)) w:=by simpa using e
 exact z53
def Ou(s:By)(c:UInt8):bH P (.func (.func 262) [] []) [.str s,.int .u8 c.toNat] h (λv h'=>v=.int .i64 (s.count c:Nat)/\h' =h):=by
 refine⟨_,[],?_,rfl,Si⟩;rw[aaf];intro m w cv vs hr hf hargs;rw[VR]at hf;obtain⟨f',a',c',rfl,hfn,ha,hc⟩:=hf;simp only[BC]at hfn;subst hfn;rw[bE]at ha hc;subst ha;subst hc;obtain⟨v1,vs1,rfl,h1,hargs⟩:=aT.1 hargs;obtain⟨v2,vs2,rfl,h2,hargs⟩:=aT.1 hargs;rw[bE]at hargs;subst hargs;have h1:v1=.string ⟨⟨s⟩⟩:=h1;have h2:v2=.int .u8 (c.toNat:Int):=h2;subst h1;subst h2;refine⟨_,λw=>rfl,?_⟩;simp only[invoke];rw[X.ct];have e:=Lib.run_countString (P:=P) ⟨⟨s⟩⟩ (c.toNat:Int) w;rw[BT]at e;have e':(Extern.BytealgCount.count (#[]++#[.string ⟨⟨s⟩⟩,.int .u8 (c.toNat:Int)]++#[])).run P w=.ok (.int .i64 (s.count c:Nat)) w:=by simpa [Lib.countByte]using e
 exact z53
end
attribute [local irreducible] WP WC WE WB WR WF WL WG fR
section
variable {P:Program}(T:fD P) (X:xX P) {h:ah}
include T X
def r272(s:By)(c:UInt8):ay P 272 [.str s,.int .u8 c.toNat] h (λv _=>v=.int .i64 (Lib.indexByte s c)):=by
 refine .of T.mix T.c272 ?_;unfold fn272 LA;refine Wn ?_;refine WF.val (Ot X s c) ?_;rintro _ g ⟨rfl,hg⟩;exact Wn Tv
def r221(s:By)(c:UInt8):ay P 221 [.str s,.str [c]] h (λv _=>v=.int .i64 (s.count c:Nat)):=by
 refine .of T.mix T.c221 ?_;unfold fn221 gA;simp only[aQ,aR,aX,aY,reduceAdd,reduceMul,reduceLeDiff,reduceEqDiff,Z6,show decide (((1:Nat):Int)=0)=false from rfl,show decide (((1:Nat):Int)=1)=true from rfl,rV];refine WF.val (Ou X s c) ?_;rintro _ g ⟨rfl,hg⟩;exact Wn Tv
def r253(s:By)(c:UInt8):ay P 253 [.str s,.str [c]] h (λv _=>v=.int .i64 (Lib.indexByte s c)):=by
 refine .of T.mix T.c253 ?_;unfold fn253 gA;by_cases hs:[c]=s
 ·have d1:decide ([c]=s)=true:=ZR hs;have e:Lib.indexByte s c=0:=by rw[<-hs];simp[Lib.indexByte]
  simp only[aQ,aR,aX,aY,reduceAdd,reduceMul,reduceLeDiff,reduceEqDiff,Z6,show decide (((1:Nat):Int)=0)=false from rfl,d1,e]
 ·have d1:decide ([c]=s)=false:=ZN hs;simp only[aQ,aR,aX,aY,reduceAdd,reduceMul,reduceLeDiff,reduceEqDiff,Z6,show decide (((1:Nat):Int)=0)=false from rfl,show decide (((1:Nat):Int)=1)=true from rfl,d1,rV];refine WF.ce T.c272 (r272 T X s c) λg=>?_
  exact Wn Tv
def r222(s:By)(c:UInt8):ay P 222 [.str s,.str [c]] h (λv _=>v=.int .i64 (Lib.indexByte s c)):=by
 refine .of T.mix T.c222 ?_;unfold fn222 gA;refine Wn ?_;refine WF.ce T.c253 (r253 T X s c) λg=>?_
 exact Wn Tv
set_option maxRecDepth 10000 in
def r128(s:By)(c:UInt8)(hs:s.length<=2^40):ay P 128 [.str s,.str [c],.int .i64 0,.int .i64 (-1)] h (λv h'=>aI h' v 1 ((aF c s).map ak)):=by
 refine .of T.mix T.c128 ?_;obtain⟨ts,Sv⟩:∃ts,ts=aU 66 [.str s,.str [c],.int .i64 0,.int .i64 (-1)]:=⟨_,rfl⟩;have hlen:ts.length=66:=by rw[Sv];rfl
 have t0:slot ts 0=.str s:=by rw[Sv];rfl
 have t1:slot ts 1=.str [c]:=by rw[Sv];rfl
 have t2:slot ts 2=.int .i64 0:=by rw[Sv];rfl
 have t3:slot ts 3=.int .i64 (-1):=by rw[Sv];rfl
 unfold fn128 gA;show WC P bL _ [] (aU 66 [.str s,.str [c],.int .i64 0,.int .i64 (-1)]) h _;rw[<-Sv];clear Sv;have hcnt:s.count c<=s.length:=abO;have w1:IntKind.i64.wrap ((s.count c:Int)+1)=((s.count c+1:Nat):Int):=by rw[aZ Om Om];omega
 have w2:IntKind.i64.wrap ((s.length:Int)+1)=((s.length+1:Nat):Int):=by rw[aZ Om Om];omega
 have e1:min ((s.count c+1:Nat):Int) ((s.length+1:Nat):Int)=((s.count c+1:Nat):Int):=Om
 have w3:IntKind.i64.wrap (((s.count c+1:Nat):Int)-1)=((s.count c:Nat):Int):=by rw[aZ Om Om];omega
 have dn:decide ([c]=([] :By))=false:=ZN Si;have d1:decide ((-1:Int)=0)=false:=rfl;have d2:decide (-1<(0:Int))=true:=rfl;refine Rs (A7 t0 t1 t2 t3 @dn @d1 @d2) ?_;refine WF.ce T.c221 (r221 T X s c) λg1=>?_
 repeat (first|simp (config:={maxSteps:=1000000}) only[aQ,aR,aX,aY,reduceAdd,reduceMul,reduceLeDiff,reduceEqDiff,bd,hlen,Z3,Z7,t0,t1,t2,t3,w1,w2,e1,w3,oA (es:=1) (w:=16) (N0:=(h++g1).length) (n:=s.count c+1) (z:=[AV.str []]) (k:=.i64) (k':=.i64) Om Om]|simp (config:={maxSteps:=1000000}) (disch:=first|(simp only[ZL,ZP,ZT]<;>omega)|rfl|omega|fail) only[eD,aQ,aR,aX,aY,reduceAdd,reduceMul,reduceLeDiff,reduceEqDiff,bd,hlen,Z3,Z7,t0,t1,t2,t3,w1,w2,e1,w3,oA (es:=1) (w:=16) (N0:=(h++g1).length) (n:=s.count c+1) (z:=[AV.str []]) (k:=.i64) (k':=.i64) Om Om])
 have hF:=Fr.BM (N:=h.length) (n:=s.count c+1) (h:=h++g1) (z:=[AV.str []]) (es:=1) Si rfl;obtain⟨sv,Zb⟩:∃sv,sv=AV.slice (h++g1).length 0 (s.count c+1) 1:=⟨_,rfl⟩;rw[<-Zb]at hF ⊢;have er:List.replicate (s.count c+1) [AV.str []]=(List.replicate (s.count c+1) ([] :By)).map ak:=by simp[ak]
 rw[er,ZO]at hF;rw[ZO];refine WL.inv T.mix (λn ts' h'=>∃(k:Nat) (don:List (By)) (q:By) (g':ah),don.length=k/\aF c s=don++aF c q/\k+q.count c=s.count c/\n=s.count c-k/\h' =h++g'/\Fr h.length h' sv 1 ((don++List.replicate (s.count c+1-k) ([] :By)).map ak)/\ts'.length=66/\slot ts' 0=.str q/\slot ts' 1=.str [c]/\slot ts' 2=.int .i64 0/\slot ts' 3=.int .i64 ((s.count c:Nat):Int)/\slot ts' 9=sv/\slot ts' 10=.int .i64 k) (s.count c)
  ⟨0,[],s,_,rfl,rfl,Om,rfl,rfl,hF,(Sq t0),(Sq t0),(Sq t1),(Sq t2),(Sq t0),(Sq t0),gf⟩ ?_
 rintro _ ts' _ ⟨k,don,q,g',hdl,hsp,hkc,rfl,rfl,hF',S3,u0,u1,u2,u3,u9,YL⟩;clear hlen t0 t1 t2 t3;have hlen:=S3;have Xw:k<(don++List.replicate (s.count c+1-k) ([] :By)).length:=by simp;omega
 have hql:q.length<=s.length:=by
  have e1:=jk (c:=c) (s:=s);have:∀(d:List (By)) (z:List (By)),(iv c z).length<=(iv c (d++z)).length:=by
   intro d
   induction d with
   |nil=>intro z;exact Z0 _
   |cons x d ih=>
    intro z;by_cases hz:d++z=[]
    ·have:z=[]:=by simp at hz;exact hz.2
     subst this;simp[iv]
    ·rw[aaX,jV hz];have:=ih z;simp;omega
  have:=this don (aF c q);rw[<-hsp,jk,jk]at this;exact this
 rcases wT c q with⟨hno,hix⟩|⟨p,q',hp,hq,hix⟩
 ·have hc0:q.count c=0:=List.count_eq_zero.2 hno;have e3:¬(k:Int)<((s.count c:Nat):Int):=Om
  have ek:s.count c+1-k=1:=Om
  have ixk:=hF'.aO.dA (kk:=.i64) Xw;have w4:IntKind.i64.wrap ((k:Int)+1)=((k+1:Nat):Int):=by rw[aZ Om Om];omega
  refine Rs (A9 @u0 @u1 @u2 @u3 @u9 @YL e3 @aac @ixk) ?_;refine WR.sW (h0:=h) (off:=0) (x':=q) hF' Xw De rfl (by simp[ak]) ?_;intro g3 Zt YB _;rw[zo hdl Om,ek]at YB;simp only[aaR,ace,aaf]at YB;have esp:don++[q]=aF c s:=by rw[hsp,tC hno]
  rw[esp]at YB;have Us:ja none (some (AV.int .i64 ((k+1:Nat):Int))) (aF c s).length=some (0,k+1):=ku (by rw[<-esp];simp;omega);obtain⟨s',es',Sx⟩:=YB.aO.Ej Us;refine Rs (A8 @u0 @u1 @u2 @u3 @u9 @YL @w4 @es') ?_;have et:List.take (k+1-0) (List.drop 0 (aF c s))=aF c s:=by
   rw[abc,aau (by rw[<-esp];simp;omega)]
  rw[et]at Sx;exact Sx
 ·have hcq:q.count c=q'.count c+1:=by rw[hq,List.count_append,List.count_eq_zero.2 hp,List.count_cons_self];omega
  have e3:(k:Int)<((s.count c:Nat):Int):=Om
  refine Rs (A8 @u0 @u1 @u2 @u3 @u9 @YL e3 @Z5) ?_;refine WF.ce T.c222 (r222 T X q c) λg2=>?_
  have ixk:=(hF'.app g2).aO.dA (kk:=.i64) Xw;have w4:IntKind.i64.wrap ((k:Int)+1)=((k+1:Nat):Int):=by rw[aZ Om Om];omega
  have Vv:p.length<q.length:=by rw[hq];simp
  have w5:IntKind.i64.wrap ((p.length:Int)+0)=(p.length:Int):=by rw[aZ Om Om];omega
  have w6:IntKind.i64.wrap ((p.length:Int)+((1:Nat):Int))=((p.length+1:Nat):Int):=by rw[aZ Om Om];omega
  have dp:decide ((p.length:Int)<0)=false:=ZN Om;have ZH:=hF'.app g2;rw[ZO]at ZH ⊢;rw[hix];subst hq
  repeat (first|simp (config:={maxSteps:=1000000}) only[aQ,aR,aX,aY,reduceAdd,reduceMul,reduceLeDiff,reduceEqDiff,bd,hlen,Z3,Z7,u0,u1,u2,u3,u9,YL,dp,w5,ixk,uA,Z6,w6,nU]|simp (config:={maxSteps:=1000000}) (disch:=first|(simp only[ZL,ZP,ZT]<;>omega)|rfl|omega|fail) only[eD,aQ,aR,aX,aY,reduceAdd,reduceMul,reduceLeDiff,reduceEqDiff,bd,hlen,Z3,Z7,u0,u1,u2,u3,u9,YL,dp,w5,ixk,uA,Z6,w6,nU])
  refine WR.sW (h0:=h) (off:=0) (x':=p) ZH Xw De rfl (by simp[ak]) ?_;intro g3 Zt YB _;rw[zo hdl Om]at YB
  repeat (first|simp (config:={maxSteps:=1000000}) only[aQ,aR,aX,aY,reduceAdd,reduceMul,reduceLeDiff,reduceEqDiff,bd,hlen,Z3,Z7,u0,u1,u2,u3,u9,YL,Z6,w6,nU,w4]|simp (config:={maxSteps:=1000000}) (disch:=first|(simp only[ZL,ZP,ZT]<;>omega)|rfl|omega|fail) only[eD,aQ,aR,aX,aY,reduceAdd,reduceMul,reduceLeDiff,reduceEqDiff,bd,hlen,Z3,Z7,u0,u1,u2,u3,u9,YL,Z6,w6,nU,w4])
  have em:s.count c+1-k-1=s.count c+1-(k+1):=Om
  rw[em]at YB;exact⟨s.count c-(k+1),Om,k+1,don++[p],q',g3,by simp[hdl],by rw[hsp,ry hp];simp,Om,rfl,rfl,YB,rfl,rfl⟩
def r64(s:By)(c:UInt8)(hs:s.length<=2^40):ay P 64 [.str s,.str [c]] h (λv h'=>aI h' v 1 ((aF c s).map ak)):=by
 refine .of T.mix T.c64 ?_;unfold fn64 gA;refine Wn ?_;refine WF.res T.c128 (r128 T X s c hs) ?_;intro v g hv;refine Wn ?_;exact hv
omit T X in
theorem Ad{c}:∀{s},c∉s->cK c s=(s,[],false)
 |[],_=>rfl
 |x::r,h=>by
  simp only[aap,not_or]at h;rw[cK,ZW (λe=>h.1 e.symm),Ad h.2]
omit T X in
theorem xO{c}:∀{p q},c∉p->cK c (p++c::q)=(p,q,true)
 |[],q,_=>by rw[abg,cK,ZY rfl]
 |x::r,q,h=>by
  simp only[aap,not_or]at h;rw[aaX,cK,ZW (λe=>h.1 e.symm),xO h.2]
def r188(s:By)(c:UInt8)(hs:s.length<=2^40):ay P 188 [.str s,.str [c]] h (λv _=>v=.dz [.str (cK c s).1,.str (cK c s).2.1,.bool (cK c s).2.2]):=by
 refine .of T.mix T.c188 ?_;unfold fn188 gA;refine Wn ?_;refine WF.ce T.c253 (r253 T X s c) λg=>?_
 rcases wT c s with⟨hno,hix⟩|⟨p,q,hp,hq,hix⟩
 ·refine Ws (A2 @hix (show decide ((0:Int)<=-1)=false from rfl)) ?_;rw[Ad hno]
 ·have d1:decide ((0:Int)<=(p.length:Int))=true:=ZR Om;have Vv:p.length<s.length:=by rw[hq];simp
  have w6:IntKind.i64.wrap ((p.length:Int)+((1:Nat):Int))=((p.length+1:Nat):Int):=by rw[aZ Om Om];omega
  rw[hix];subst hq;simp only[aQ,aR,aX,aY,reduceAdd,reduceMul,reduceLeDiff,reduceEqDiff,d1,Z6,w6,uA,nU];rw[xO hp]
def r98(s:By)(c:UInt8)(hs:s.length<=2^40):ay P 98 [.str s,.str [c]] h (λv _=>v=.dz [.str (cK c s).1,.str (cK c s).2.1,.bool (cK c s).2.2]):=by
 refine .of T.mix T.c98 ?_;unfold fn98 gA;refine Wn ?_;refine WF.ce T.c188 (r188 T X s c hs) λg=>?_
 exact Wn Tv
end
def Pw(h:ah):Prop:=∃mu tl,h[2]? =some (.cells (Lib.pow10Tab.map (AV.int .u64)) mu tl)
def Pw.ext{h k}(o:Pw h)(e:Ext h k):Pw k:=by
 obtain⟨mu,tl,hb⟩:=o;exact⟨mu,tl,e.some hb⟩
structure nj(P:Program):Prop where
 itoa:∀{h:ah}{n:Int},-9223372036854775808<=n->n<=9223372036854775807->Pw h->ay P 113 [.i n] h (λv _=>v=.str (Lib.itoa n))
 join:∀{h:ah}{s:AV}{sep:By}{xs:List (By)},aI h s 1 (xs.map ak)->(Lib.join xs sep).length<=140737488355328/\xs.length<=140737488355328->ay P 114 [s,.str sep] h (λv _=>v=.str (Lib.join xs sep))
 atoi:∀{h:ah}{s:By},s.all cO=true->s≠[]->s.length<=9->ay P 254 [.str s] h (λv _=>v=.dz [.i (js s),.la])
 rep:∀{h:ah}{n:Nat},n<=7->ay P 252 [.str [48],.i (n:Nat)] h (λv _=>v=.str (List.replicate n 48))
def iw{n}(h:0<=n):Lib.itoa n=ee n:=by rw[jt];unfold Lib.itoa;rw[ZW Om]
theorem lA:∀{k u},u<10^(k+1)->(Lib.decDigits u).length<=k+1
 | 0,u,h=>by rw[Lib.decDigits,dif_pos (by simpa using h)];simp
 |k+1,u,h=>by
  by_cases hu:u<10
  ·rw[Lib.decDigits,dif_pos hu];simp
  ·rw[Lib.decDigits,dif_neg hu,ZL];have:=lA (k:=k) (u:=u / 10) (by rw[Nat.pow_succ]at h;omega);simp;omega
def xK{s c}:js (s++[c])=10*js s+((c.toNat:Int)-48):=by simp[js]
def eG{c}:cO c=true↔48<=c.toNat/\c.toNat<=57:=by simp[cO]
theorem Ac:∀(s:By) (a:Int),s.all cO=true->0<=a->0<=s.foldl (λn c=>10*n+((c.toNat:Int)-48)) a/\s.foldl (λn c=>10*n+((c.toNat:Int)-48)) a<(a+1)*10^s.length
 |[],a,_,h=>by simp;omega
 |c::s,a,h,h0=>by
  simp only[abp,aaq]at h;have hc:=eG.1 h.1;have ih:=Ac s (10*a+((c.toNat:Int)-48)) h.2 Om;rw[ab4,ZP,Int.pow_succ];refine⟨ih.1,Int.lt_of_lt_of_le ih.2 ?_⟩;have h1:(10*a+((c.toNat:Int)-48)+1)*10^s.length<=((a+1)*10)*10^s.length:=Int.mul_le_mul_of_nonneg_right Om (Int.pow_nonneg De)
  calc _<=((a+1)*10)*10^s.length:=h1
   _=(a+1)*(10^s.length*10):=by rw[Int.mul_assoc,Int.mul_comm 10]
def Fv{s}(h:s.all cO=true):0<=js s/\js s<10^s.length:=by
 have:=Ac s 0 h De;rw[Int.zero_add,Int.one_mul]at this;exact this
def cY{α:Type}{s:List α}{k:Nat}(hk:k<s.length):s.take (k+1)=s.take k++[s[k]]:=by
 rw[aay,ZS hk];rfl
def Qw{s:By}{k:Nat}(hl:s.length<=9)(hk:k<=s.length)(h:(s.take k).all cO=true):0<=js (s.take k)/\js (s.take k)<1000000000:=by
 have:=Fv h;have e:(s.take k).length=k:=by rw[aaw];omega
 rw[e]at this;have:(10:Int)^k<=10^9:=by exact_mod_cast Nat.pow_le_pow_right (n:=10) De (show k<=9 by omega)
 omega
def iI(sw:AV)(wr:Bool):an:=.b [sw,.bool wr]
section
variable {P:Program}(T:fD P) {h A B:ah}
include T
set_option maxRecDepth 10000 in
def r189(s:By)(hs:s.length<=2^40):ay P 189 [.str s] h (λv _=>v=.bool (lB s)):=by
 refine .jd 18 T.mix T.c189 ?_;intro ts hlen t0;unfold fn189 gA;refine Rs t0 ?_;refine WL.inv T.mix (λn ts' h'=>∃k:Nat,k<=s.length/\n=s.length-k/\h' =h++[.iter s k]/\(s.take k).all cO=true/\ts'.length=18/\slot ts' 0=.str s/\slot ts' 6=.ptr h.length 0) s.length
  ⟨0,Om,rfl,rfl,rfl,(Sq t0),(Sq t0),(Sq t0)⟩ ?_
 rintro _ ts' _ ⟨k,hk,rfl,rfl,hd,S3,u0,u6⟩;clear hlen t0;have hlen:=S3;by_cases hlt:k<s.length
 ·obtain⟨c,w,UU,hcw⟩:∃c w,Utf8.decode ⟨⟨s⟩⟩ k=(c,w)/\(c=s[k].toNat/\w=1/\s[k].toNat<128\/128<=c/\128<=s[k].toNat):=by
   by_cases hc:s[k].toNat<128
   ·exact⟨_,_,dec_lt hlt hc,.inl ⟨rfl,rfl,hc⟩⟩
   ·exact z212
  have hall:cO s[k]=false->AV.bool false=AV.bool (lB s):=λhx=>by
   have:s.all cO=false:=by rw[List.all_eq_false];exact⟨s[k],ZZ hlt,by simp[hx]⟩
   simp only[lB,this,Bool.and_false]
  by_cases a5:(48:Int)<=c
  ·by_cases a6:(c:Int)<=57
   ·have hc:c=s[k].toNat/\w=1:=Om
    obtain⟨rfl,rfl⟩:=hc;have hy:cO s[k]=true:=eG.2 Om;have d1:decide ((s[k].toNat:Int)<48)=false:=ZN Om;have d2:decide ((57:Int)<(s[k].toNat:Int))=false:=ZN Om
    repeat (first|simp (config:={maxSteps:=1000000}) only[aQ,aR,aX,aY,reduceAdd,reduceMul,reduceLeDiff,reduceEqDiff,bd,hlen,Z3,Z7,u0,u6,eV,hlt,Z7,UU,d1,d2]|simp (config:={maxSteps:=1000000}) (disch:=first|(simp only[ZL,ZP,ZT]<;>omega)|rfl|omega|fail) only[eD,aQ,aR,aX,aY,reduceAdd,reduceMul,reduceLeDiff,reduceEqDiff,bd,hlen,Z3,Z7,u0,u6,eV,hlt,Z7,UU,d1,d2])
    refine⟨s.length-(k+1),Om,k+1,Om,rfl,rfl,?_,trivial⟩;rw[cY hlt,abS,hd];simp[hy]
   ·have d1:decide ((c:Int)<48)=false:=ZN Om;have d2:decide ((57:Int)<(c:Int))=true:=ZR Om
    repeat (first|simp (config:={maxSteps:=1000000}) only[aQ,aR,aX,aY,reduceAdd,reduceMul,reduceLeDiff,reduceEqDiff,bd,hlen,Z3,Z7,u0,u6,eV,hlt,Z7,UU,d1,d2]|simp (config:={maxSteps:=1000000}) (disch:=first|(simp only[ZL,ZP,ZT]<;>omega)|rfl|omega|fail) only[eD,aQ,aR,aX,aY,reduceAdd,reduceMul,reduceLeDiff,reduceEqDiff,bd,hlen,Z3,Z7,u0,u6,eV,hlt,Z7,UU,d1,d2])
    exact K4
  ·have d1:decide ((c:Int)<48)=true:=ZR Om
   repeat (first|simp (config:={maxSteps:=1000000}) only[aQ,aR,aX,aY,reduceAdd,reduceMul,reduceLeDiff,reduceEqDiff,bd,hlen,Z3,Z7,u0,u6,eV,hlt,Z7,UU,d1]|simp (config:={maxSteps:=1000000}) (disch:=first|(simp only[ZL,ZP,ZT]<;>omega)|rfl|omega|fail) only[eD,aQ,aR,aX,aY,reduceAdd,reduceMul,reduceLeDiff,reduceEqDiff,bd,hlen,Z3,Z7,u0,u6,eV,hlt,Z7,UU,d1])
   exact K4
 ·have ek:k=s.length:=Om
  rw[ek,aaj]at hd
  repeat (first|simp (config:={maxSteps:=1000000}) only[aQ,aR,aX,aY,reduceAdd,reduceMul,reduceLeDiff,reduceEqDiff,bd,hlen,Z3,Z7,u0,u6,eV,hlt,Z3]|simp (config:={maxSteps:=1000000}) (disch:=first|(simp only[ZL,ZP,ZT]<;>omega)|rfl|omega|fail) only[eD,aQ,aR,aX,aY,reduceAdd,reduceMul,reduceLeDiff,reduceEqDiff,bd,hlen,Z3,Z7,u0,u6,eV,hlt,Z3])
  simp only[lB,hd,Bool.and_true,decide_not]
omit T in
theorem Bd{s}:cE s=(lB s&&decide (s.length<=9) && !(decide (1<s.length)&&decide (s.head? =some 48))):=by
 unfold cE lB;cases s with
 |nil=>rfl
 |cons x r=>cases (x::r).all cO<;>cases decide ((x::r).length<=9)<;>simp
set_option maxRecDepth 10000 in
def r190(Z:nj P)(s:By)(hs:s.length<=2^40):ay P 190 [.str s] h (λv _=>v=.dz [.i (dM s),.bool (cE s)]):=by
 refine .jd 30 T.mix T.c190 ?_;intro ts hlen t0;unfold fn190 gA;refine Rs t0 ?_;refine WF.ce T.c189 (r189 T s hs) λg=>?_
 have bad:cE s=false->AV.dz [.i 0,.bool false]=AV.dz [.i (dM s),.bool (cE s)]:=λhb=>by unfold dM;rw[hb];rfl
 have e0:=Bd (s:=s);cases hd:lB s with
 |false=>
  rw[hd]at e0;refine Rs (A3 t0 @hd @aai) ?_;exact bad (by rw[e0];rfl)
 |true=>
  rw[hd]at e0;have Td:=hd;unfold lB at Td;simp only[aaq,aa2,abv]at Td;by_cases h9:9<s.length
  ·have d9:decide ((9:Int)<s.length)=true:=ZR Om;have q9:decide (s.length<=9)=false:=ZN Om;rw[q9]at e0;refine Rs (A4 t0 @hd @aad @d9) ?_;exact bad (by rw[e0];rfl)
  ·have d9:decide ((9:Int)<s.length)=false:=ZN Om;have q9:decide (s.length<=9)=true:=ZR Om;rw[q9]at e0;obtain⟨c,r,rfl⟩:∃c r,s=c::r:=by cases s with|nil=>exact absurd rfl Td.1|cons c r=>exact⟨c,r,rfl⟩
   by_cases h1:1<(c::r).length
   ·have d1:decide ((1:Int)<((c::r).length:Int))=true:=ZR Om;have q1:decide (1<(c::r).length)=true:=ZR h1;rw[q1]at e0;by_cases h2:c=48
    ·have d2:decide ((c.toNat:Int)=48)=true:=by rw[h2];rfl
     have q2:decide ((c::r).head? =some 48)=true:=by rw[h2];rfl
     rw[q2]at e0;refine Rs (A7 t0 @hd @aad @d9 @d1 @rV @d2) ?_;exact bad (by rw[e0];rfl)
    ·have d2:decide ((c.toNat:Int)=48)=false:=ZN λe=>h2 (abG.1 (by simpa using (by omega:c.toNat=48)))
     have q2:decide ((c::r).head? =some 48)=false:=ZN (by simp[h2]);rw[q2]at e0;have e1:cE (c::r)=true:=by rw[e0];rfl
     refine Rs (A7 t0 @hd @aad @d9 @d1 @rV @d2) ?_;exact K8
   ·have d1:decide ((1:Int)<((c::r).length:Int))=false:=ZN Om;have q1:decide (1<(c::r).length)=false:=ZN h1;rw[q1]at e0;have e1:cE (c::r)=true:=by rw[e0];rfl
    refine Rs (A5 t0 @hd @aad @d9 @d1) ?_;exact K8
set_option maxRecDepth 10000 in
def I3{sw ws wr}(hs:aI A sw 1 (ws.map ak)):
  dE P 207 [.ptr A.length 0] (A++[iI sw wr]++B) (λv h'=>∃sw',v=.str (bI ws wr).1/\h' =A++[iI sw' (bI ws wr).2.2]++B/\aI A sw' 1 ((bI ws wr).2.1.map ak)):=by
 refine .of T.mix T.c207 ?_;obtain⟨ts,Sv⟩:∃ts,ts=aU 40 [.ptr A.length 0]:=⟨_,rfl⟩;have hlen:ts.length=40:=by rw[Sv];rfl
 have t0:slot ts 0=.ptr A.length 0:=by rw[Sv];rfl
 unfold fn207 gA;show WC P bL _ [] (aU 40 [.ptr A.length 0]) (A++[iI sw wr]++B) _;rw[<-Sv];clear Sv;unfold iI;have c0:=hs.one;have hsE:∀{k:ah},aI (A++k) sw 1 (ws.map ak):=λ{k}=>hs.ext ⟨k,rfl⟩
 cases ws with
 |nil=>
  have d0:decide ((([] :List (By)).length:Int)=0)=true:=rfl;refine Rs (A4 t0 hs.aL @d0 @c0) ?_;exact⟨.af,by rw[bI];exact⟨rfl,rfl,aI.nil⟩⟩
 |cons w r=>
  have d0:decide (((w::r).length:Int)=0)=false:=ZN (by simp;omega);have ix:=hs.lP (kk:=.i64) Si;have ld:∀{k:ah},Ext A k->aq none (cF sw 1 0) (λb=>k[b]?)=some (.str w,.ar):=λ{k} e=>hs.gR (i:=0) Si rfl e
  by_cases hw:w=[]
  ·have d1:decide (w=[])=true:=ZR hw;refine Rs (A7 t0 hs.aL @d0 ix @ld @d1 @c0) ?_;exact⟨.af,by rw[bI,ZY hw];exact⟨rfl,rfl,aI.nil⟩⟩
  ·have d1:decide (w=[])=false:=ZN hw;have Us:ja (some (AV.i 1)) none (w::r).length=some (1,(w::r).length):=lD (k:=1) Si;obtain⟨s',es',Sx⟩:=hs.Ej Us;have et:List.take ((w::r).length-1) (List.drop 1 (w::r))=r:=Si
   rw[et]at Sx;refine Rs (A9 t0 hs.aL @d0 ix @ld @d1 @c0 @es' Sx.one) ?_;exact⟨s',by rw[bI,ZW hw];exact⟨rfl,rfl,Sx⟩⟩
set_option maxRecDepth 10000 in
def PQ(Z:nj P){sw ws wr}(hs:aI A sw 1 (ws.map ak))(hl:∀x∈ws,x.length<=2^40):
  dE P 208 [.ptr A.length 0] (A++[iI sw wr]++B) (λv h'=>∃(sw':AV) (g:ah),v=.i (dM (bI ws wr).1)/\h' =A++[iI sw' ((bI ws wr).2.2 || !cE (bI ws wr).1)]++(B++g)/\aI A sw' 1 ((bI ws wr).2.1.map ak)):=by
 refine .of T.mix T.c208 ?_;obtain⟨ts,Sv⟩:∃ts,ts=aU 23 [.ptr A.length 0]:=⟨_,rfl⟩;have hlen:ts.length=23:=by rw[Sv];rfl
 have t0:slot ts 0=.ptr A.length 0:=by rw[Sv];rfl
 unfold fn208 gA;show WC P bL _ [] (aU 23 [.ptr A.length 0]) (A++[iI sw wr]++B) _;rw[<-Sv];clear Sv;refine Rs t0 ?_;refine WF.gen T.c207 (I3 T hs) ?_;rintro _ _ ⟨sw',rfl,rfl,Sx⟩;have hwl:(bI ws wr).1.length<=2^40:=by
  cases ws with
  |nil=>simp[bI]
  |cons w r=>
   by_cases hw:w=[]
   ·rw[bI,ZY hw];simp
   ·rw[bI,ZW hw];exact hl w Si
 generalize (bI ws wr).1=w at hwl ⊢;generalize (bI ws wr).2.2=wr' at Sx ⊢;generalize (bI ws wr).2.1=ws' at Sx ⊢;refine Rs t0 ?_;refine WF.ce T.c190 (r190 T Z w hwl) λg=>?_
 unfold iI;have c0:=Sx.one;cases wr' with
 |true=>
  refine Rs (A3 t0 @c0 @aci) ?_;exact⟨sw',g,by rw[ZO],Sx⟩
 |false=>
  refine Rs (A3 t0 @c0 @abZ) ?_;exact⟨sw',g,by rw[ZO],Sx⟩
end
def uU{α:Type}{p:α->Bool}{L:List α}{k:Nat}(hlt:k<L.length)(hi:L.findIdx? p=((L.drop k).findIdx? p).map (· +k)):(p L[k]=true->de p L=(k:Int))/\(p L[k]=false->L.findIdx? p=((L.drop (k+1)).findIdx? p).map (· +(k+1))):=by
 have hd:L.drop k=L[k]::L.drop (k+1):=Si
 rw[hd,ab1]at hi;constructor
 ·intro hp;rw[hp]at hi;rw[de,hi];simp
 ·intro hp;rw[hp]at hi;rw[hi];exact Rx
def xF{α:Type}{p:α->Bool}{L:List α}(hi:L.findIdx? p=((L.drop L.length).findIdx? p).map (· +L.length)):de p L= -1:=by
 rw[aaT]at hi;rw[de,hi];rfl
set_option maxRecDepth 10000
section
variable {P:Program}(T:fD P) {h:ah}
include T
def r20(n lo hi:Int):ay P 20 [.i n,.i lo,.i hi] h (λv _=>v=.bool (decide (bG n lo hi≠0))):=by
 refine .nT 15 T.mix T.c20 ?_;intro ts hlen t0 t1 t2;unfold fn20 gA;by_cases h1:n<lo
 ·have q1:decide (n<lo)=true:=ZR h1;refine Rs (A4 t0 t1 t2 q1) ?_;rw[bG,ZY (.inl h1)];rfl
 ·have q1:decide (n<lo)=false:=ZN h1;by_cases h2:hi<n
  ·have q2:decide (hi<n)=true:=ZR h2;refine Rs (A5 t0 t1 t2 q1 q2) ?_;rw[bG,ZY (.inr h2)];rfl
  ·have q2:decide (hi<n)=false:=ZN h2;refine Rs (A5 t0 t1 t2 q1 q2) ?_;rw[bG,ZW Om];rfl
def r35{L:List (By)}{s:AV}(hs:aI h s 1 (L.map ak))(hl:L.length<2^40)(n:By):ay P 35 [s,.str n] h (λv _=>v=.bool (decide (n∈L))):=by
 refine .fo 18 T.mix T.c35 ?_;intro ts hlen t0 t1;unfold fn35 gA;refine Rs (A2 t0 t1) ?_;refine WL.inv T.mix (λm ts h'=>∃k:Nat,k<=L.length/\m=L.length-k/\h' =h/\(n∈L↔n∈L.drop k)/\ts.length=18/\slot ts 0=s/\slot ts 1=.str n/\slot ts 5=.i k) L.length
  ⟨0,Om,rfl,rfl,Iff.rfl,Sn,(Sq t0),(Sq t1),gf⟩ ?_
 rintro _ ts _ ⟨k,hk,rfl,rfl,hi,hlen,t0,t1,t5⟩;by_cases hlt:k<L.length
 ·have hd:L.drop k=L[k]::L.drop (k+1):=Si
  rw[hd,aap]at hi;have e3:=eF hlt;have ix:=hs.dA (kk:=.i64) hlt;have ld:=hs.gR (i:=k) (x:=.str L[k]) hlt rfl (Ext.refl _);have e5:=wrapN (n:=k) Om;by_cases hp:L[k]=n
  ·have q:decide (L[k]=n)=true:=ZR hp;refine Rs (A8 t0 t1 t5 e3 hs.aL ix @ld q) ?_;exact aan AV.bool (ZR (hi.2 (.inl hp.symm))).symm
  ·have q:decide (L[k]=n)=false:=ZN hp;refine Rs (A9 t0 t1 t5 e3 hs.aL ix @ld q e5) ?_;exact⟨_,Om,k+1,Om,rfl,⟨λz=>(hi.1 z).resolve_left λe=>hp e.symm,λz=>hi.2 (.inr z)⟩,rfl⟩
 ·have e3:=fq hlt;have e4:k=L.length:=Om
  refine Rs (A5 t0 t1 t5 e3 hs.aL) ?_;rw[e4,aaT]at hi;exact aan AV.bool (ZN (λz=>by simpa using hi.1 z)).symm
def r25{L M:List (By)}{s t:AV}(hs:aI h s 1 (L.map ak))(ht:aI h t 1 (M.map ak))(hl:L.length<2^40)(hm:M.length<2^40):ay P 25 [s,t] h (λv _=>v=.bool (decide (L=M))):=by
 refine .fo 26 T.mix T.c25 ?_;intro ts hlen t0 t1;unfold fn25 gA;by_cases h1:L.length=M.length
 case neg=>
  exact Rc
 have q:decide ((L.length:Int)≠M.length)=false:=ZN Om;refine Rs (A5 t0 t1 hs.aL ht.aL q) ?_;refine WL.inv T.mix (λm ts h'=>∃k:Nat,k<=L.length/\m=L.length-k/\h' =h/\L.take k=M.take k/\ts.length=26/\slot ts 0=s/\slot ts 1=t/\slot ts 5=.i k) L.length
  ⟨0,Om,rfl,rfl,rfl,Sn,(Sq t0),(Sq t1),gf⟩ ?_
 rintro _ ts h' ⟨k,hk,rfl,rfl,hi,hlen,t0,t1,t5⟩;by_cases hlt:k<L.length
 ·have SW:k<M.length:=Om
  have e3:=eF hlt;have ix:=hs.dA (kk:=.i64) hlt;have iy:=ht.dA (kk:=.i64) SW;have ld:∀{kk:ah},Ext h' kk->_:=λ{kk} e=>hs.gR (i:=k) (x:=.str L[k]) (k:=kk) hlt rfl e
  have ly:∀{kk:ah},Ext h' kk->_:=λ{kk} e=>ht.gR (i:=k) (x:=.str M[k]) (k:=kk) SW rfl e
  exact Rw
 ·exact z75
def r62{L M:List (Int)}{s t:AV}(hs:aI h s 1 (L.map aJ))(ht:aI h t 1 (M.map aJ))(hl:L.length<2^40)(hm:M.length<2^40):ay P 62 [s,t] h (λv _=>v=.bool (decide (L=M))):=by
 refine .fo 26 T.mix T.c62 ?_;intro ts hlen t0 t1;unfold fn62 gA;by_cases h1:L.length=M.length
 case neg=>
  exact Rc
 have q:decide ((L.length:Int)≠M.length)=false:=ZN Om;refine Rs (A5 t0 t1 hs.aL ht.aL q) ?_;refine WL.inv T.mix (λm ts h'=>∃k:Nat,k<=L.length/\m=L.length-k/\h' =h/\L.take k=M.take k/\ts.length=26/\slot ts 0=s/\slot ts 1=t/\slot ts 5=.i k) L.length
  ⟨0,Om,rfl,rfl,rfl,Sn,(Sq t0),(Sq t1),gf⟩ ?_
 rintro _ ts h' ⟨k,hk,rfl,rfl,hi,hlen,t0,t1,t5⟩;by_cases hlt:k<L.length
 ·have SW:k<M.length:=Om
  have e3:=eF hlt;have ix:=hs.dA (kk:=.i64) hlt;have iy:=ht.dA (kk:=.i64) SW;have ld:∀{kk:ah},Ext h' kk->_:=λ{kk} e=>hs.gR (i:=k) (x:=.i L[k]) (k:=kk) hlt rfl e
  have ly:∀{kk:ah},Ext h' kk->_:=λ{kk} e=>ht.gR (i:=k) (x:=.i M[k]) (k:=kk) SW rfl e
  exact Rw
 ·exact z75
def pY{f i w:Nat}{α:Type}{row:α->List AV}{nm:α->By}{L:List α}{s:AV}{V:RV}(c:bU P f=some (vJ i w))(o:aC h V)(hs:aI h s w (L.map row))(hv:V.row[i]? =some s)(hr:∀y,(row y)[0]? =some (.str (nm y)))(hl:L.length<2^30)(n:By):ay P f [.agg V.row,.str n] h (λv _=>v=.i (de (λy=>decide (nm y=n)) L)):=by
 refine .fo 22 T.mix c ?_;intro ts hlen t0 t1;unfold vJ;have Su:=@aC.box _ _ o;refine Rs (A3 t0 t1 @Su) ?_;refine WL.inv T.mix (λm ts h'=>∃k:Nat,k<=L.length/\m=L.length-k/\h' =h++[an.b V.row]/\L.findIdx? (λy=>decide (nm y=n))=((L.drop k).findIdx? (λy=>decide (nm y=n))).map (· +k)/\ts.length=22/\slot ts 1=.str n/\slot ts 2=.ptr h.length 0/\slot ts 5=.i k) L.length
  ⟨0,Om,rfl,rfl,Si,Sn,(Sq t1),Sw,gf⟩ ?_
 rintro _ ts _ ⟨k,hk,rfl,rfl,hi,hlen,t1,t2,t5⟩;have lb:∀{kk n a},Ext (h++[an.b V.row]) kk->aq n (.ptr h.length a) (λz=>kk[z]?)=dK n a (.b V.row):=λ{_ _ _} e=>az (e.some ba)
 by_cases hlt:k<L.length
 ·have e3:=eF hlt;have ix:=hs.dA (kk:=.i64) hlt;have e5:=wrapN (n:=k) Om;obtain⟨h1,h2⟩:=uU hlt hi;obtain⟨y,hy⟩:∃y,y=L[k]:=⟨_,rfl⟩;have ld:∀{kk:ah},Ext h kk->aq none (j6 s w k 0) (λb=>kk[b]?)=some (.str (nm y),.ar):=λ{kk} e=>hs.lO hlt (by rw[<-hy];exact hr y) e
  rw[<-hy]at h1 h2;by_cases hp:nm y=n
  ·have q:decide (nm y=n)=true:=ZR hp;refine Rs (kJ t1 t2 t5 @lb @hv hs.aL e3 ix @ld q) ?_;rw[h1 q]
  ·have q:decide (nm y=n)=false:=ZN hp;refine Rs (mQ t1 t2 t5 @lb @hv hs.aL e3 ix @ld q e5) ?_;exact⟨_,Om,k+1,Om,rfl,h2 q,rfl⟩
 ·have e3:=fq hlt;have e4:k=L.length:=Om
  refine Rs (A7 t1 t2 t5 @lb @hv hs.aL e3) ?_;subst e4;rw[xF hi]
def r28{V:RV}(o:aC h V)(l:fp V)(n:By):ay P 28 [.agg V.row,.str n] h (λv _=>v=.i (de (λy=>decide (y.name=n)) V.lines)):=
 pY T (nm:=λy:iH=>y.name) T.c28 o o.i0 gG (λ_=>rfl) l.l0 n
def r141{V:RV}(o:aC h V)(l:fp V)(n:By):ay P 141 [.agg V.row,.str n] h (λv _=>v=.i (de (λy=>decide (y.name=n)) V.aH)):=
 pY T (nm:=λy:sQ=>y.name) T.c141 o o.i1 lT (λ_=>rfl) l.l1 n
def r22{V:RV}(o:aC h V)(l:fp V)(n:By):ay P 22 [.agg V.row,.str n] h (λv _=>v=.i (de (λy:j7×AV=>decide (y.1.name=n)) V.aj)):=
 pY T (nm:=λy:j7×AV=>y.1.name) T.c22 o o.i2 fG (λ_=>rfl) l.l2 n
def r55{V:RV}(o:aC h V)(l:fp V)(n:By):ay P 55 [.agg V.row,.str n] h (λv _=>v=.i (de (λy:jc×AV=>decide (y.1.name=n)) V.aD)):=
 pY T (nm:=λy:jc×AV=>y.1.name) T.c55 o o.i3 gF (λ_=>rfl) l.l3 n
def r56{V:RV}(o:aC h V)(l:fp V)(n:By):ay P 56 [.agg V.row,.str n] h (λv _=>v=.i (de (λy:kI×AV=>decide (y.1.name=n)) V.aG)):=
 pY T (nm:=λy:kI×AV=>y.1.name) T.c56 o o.i4 gq (λ_=>rfl) l.l4 n
def r57{V:RV}(o:aC h V)(l:fp V)(n:By):ay P 57 [.agg V.row,.str n] h (λv _=>v=.i (de (λy=>decide (y.name=n)) V.aK)):=
 pY T (nm:=λy:pI=>y.name) T.c57 o o.i5 gE (λ_=>rfl) l.l5 n
end
def lL(r:Nat×Bool):UInt8:=
 match r.1,r.2 with
 | 0,true=>108
 | 1,true=>116
 | 2,true=>115
 | 3,true=>109
 | 4,true=>106
 |_,true=>112
 | 0,false=>76
 | 1,false=>84
 | 2,false=>83
 | 3,false=>77
 | 4,false=>74
 |_,false=>80
def tG(d:Kd):By:=(aM d).map lL
def ue(k:By):List AV:=
 match ff k with
 |none=>[.str [],.i 0,.bool false]
 |some d=>[.str (tG d),.i (bK d:Int),.bool true]
def iA(d:Kd):decide (bw d=[108,105,110,101])=decide (d=.line):=by cases d<;>rfl
def jl(d:Kd):decide (bw d=[116,97,112,101])=decide (d=.tape):=by cases d<;>rfl
def rX(d:Kd):decide (bw d=[115,104,111,116])=decide (d=.hP):=by cases d<;>rfl
def wZ(d:Kd):decide (bw d=[99,111,112,121])=decide (d=.copy):=by cases d<;>rfl
def rY(d:Kd):decide (bw d=[97,99,99,101,112,116])=decide (d=.accept):=by cases d<;>rfl
def iX(d:Kd):decide (bw d=[115,111,117,114,99,101])=decide (d=.source):=by cases d<;>rfl
def kT(d:Kd):decide (bw d=[109,111,100,117,108,101])=decide (d=.gQ):=by cases d<;>rfl
def jO(d:Kd):decide (bw d=[109,101,114,103,101])=decide (d=.merge):=by cases d<;>rfl
def zU(d:Kd):decide (bw d=[114,117,110])=decide (d=.run):=by cases d<;>rfl
def wW(d:Kd):decide (bw d=[116,105,108,101])=decide (d=.gO):=by cases d<;>rfl
def wY(d:Kd):decide (bw d=[102,97,105,108])=decide (d=.fail):=by cases d<;>rfl
def wX(d:Kd):decide (bw d=[112,105,99,116,117,114,101])=decide (d=.ij):=by cases d<;>rfl
def qU(d:Kd):decide (bw d=[114,101,108,101,97,115,101])=decide (d=.rel):=by cases d<;>rfl
def oO(d:Kd):decide (bw d=[117,110,100,111])=decide (d=.fO):=by cases d<;>rfl
def iO:type_of% (za @iA @jl @rX @wZ @rY @iX @kT @jO @zU @wW @wY @wX @qU @oO):=za @iA @jl @rX @wZ @rY @iX @kT @jO @zU @wW @wY @wX @qU @oO
def Cu:∀r:Nat×Bool,r.1<6->decide (97<=((lL r).toNat:Int))=r.2
 |(0,true),_=>rfl
 |(1,true),_=>rfl
 |(2,true),_=>rfl
 |(3,true),_=>rfl
 |(4,true),_=>rfl
 |(5,true),_=>rfl
 |(0,false),_=>rfl
 |(1,false),_=>rfl
 |(2,false),_=>rfl
 |(3,false),_=>rfl
 |(4,false),_=>rfl
 |(5,false),_=>rfl
def EI(d:Kd):∀r∈aM d,r.1<6:=by cases d<;>decide
section
variable {P:Program}(T:fD P) {h:ah}
include T
def r101(k:By):ay P 101 [.str k] h (λv _=>v=.agg (ue k)):=by
 refine .jd 47 T.mix T.c101 ?_;intro ts hlen t0;unfold fn101 gA;unfold ue;cases hk:ff k with
 |none=>
  have YS:decide (k=[108,105,110,101])=false:=ZN (dU hk .line);have YO:decide (k=[116,97,112,101])=false:=ZN (dU hk .tape);have YP:decide (k=[115,104,111,116])=false:=ZN (dU hk .hP);have YU:decide (k=[99,111,112,121])=false:=ZN (dU hk .copy);have Wg:decide (k=[97,99,99,101,112,116])=false:=ZN (dU hk .accept);have Wf:decide (k=[115,111,117,114,99,101])=false:=ZN (dU hk .source);have YR:decide (k=[109,111,100,117,108,101])=false:=ZN (dU hk .gQ);have XD:decide (k=[109,101,114,103,101])=false:=ZN (dU hk .merge);have q_run:decide (k=[114,117,110])=false:=ZN (dU hk .run);have YN:decide (k=[116,105,108,101])=false:=ZN (dU hk .gO)
  have YT:decide (k=[102,97,105,108])=false:=ZN (dU hk .fail);have YQ:decide (k=[112,105,99,116,117,114,101])=false:=ZN (dU hk .ij);have q_rel:decide (k=[114,101,108,101,97,115,101])=false:=ZN (dU hk .rel);have YM:decide (k=[117,110,100,111])=false:=ZN (dU hk .fO);exact Rs (BD t0 @YS @YO @YP @YU @Wg @Wf @YR @XD @q_run @YN @YT @YQ @q_rel @YM) Tv
 |some d=>
  have SE:=bZ hk;subst SE;clear hk;cases d
  all_goals
   refine pH (A4 t0 @iO @Z5 @aac) ?_;rfl
def r104(k:By):ay P 104 [.str k] h (λv _=>v=.bool (ff k).isSome):=by
 refine .jd 6 T.mix T.c104 ?_;intro ts hlen t0;unfold fn104 gA;refine Rs t0 ?_;refine WF.ce T.c101 (r101 T k) λg1=>?_
 unfold ue;cases ff k with
 |none=>refine Rs t0 ?_
        rfl
 |some d=>refine Rs t0 ?_
          rfl
def r39{x}(o:bj h x)(hl:x.ev.names.length<=2^40/\x.ev.bQ.length<=2^40)(hn:∀n∈x.ev.names,n.length<2^63):ay P 39 [.agg x.row] h (λv _=>v=.i (dB x.ev)):=by
 refine .jd 59 T.mix T.c39 ?_;intro ts hlen t0;unfold fn39 gA;have Su:=@bj.box _ _ o;refine Rs (A3 t0 @Su @jY) ?_;refine WF.ce T.c20 (r20 T _ _ _) λg1=>?_
 by_cases h0:bG x.ev.num 1 1000=0
 case neg=>
  have e0:decide (bG x.ev.num 1 1000≠0)=true:=ZR h0;refine Rs (A2 t0 e0) ?_;rw[dB,ZY h0]
 have e0:decide (bG x.ev.num 1 1000≠0)=false:=ZN (λz=>z h0);refine Rs (A3 t0 e0 @bC) ?_;refine WF.ce T.c101 (r101 T _) λg2=>?_
 unfold ue;rw[dB,ZW (λz=>z h0)];cases hd:ff x.ev.kind with
 |none=>
  exact Rs (A2 t0 @aai) Tv
 |some d=>
  have Tz:(tG d).length=(aM d).length:=by rw[tG,ZU]
  have hr3:(aM d).length<=3/\bK d<=3:=by cases d<;>decide
  refine Rs (A7 t0 @aad @aP @bg o.n.aL o.v.aL @Tz) ?_;by_cases h1:x.ev.names.length=(aM d).length
  case neg=>
   have q:decide ((x.ev.names.length:Int)≠(aM d).length)=true:=ZR Om;refine Rs (A2 t0 q) ?_;rw[ZY (.inl h1)]
  have q:decide ((x.ev.names.length:Int)≠(aM d).length)=false:=ZN Om;by_cases h2:x.ev.bQ.length=bK d
  case neg=>
   have q2:decide ((x.ev.bQ.length:Int)≠bK d)=true:=ZR Om;refine Rs (A5 t0 @bg q q2 o.v.aL) ?_;rw[ZY (.inr h2)]
  have q2:decide ((x.ev.bQ.length:Int)≠bK d)=false:=ZN Om;refine Rs (A5 t0 @bg q q2 o.v.aL) ?_;rw[ZW Om];obtain⟨H,hH⟩:∃H,H=h++[an.b x.row]++g1++g2++[an.b [AV.str (tG d),.i (bK d:Int),.bool true]]:=⟨_,rfl⟩;obtain⟨fb,Ys⟩:∃fb,fb=(h++[an.b x.row]++g1++g2).length:=⟨_,rfl⟩;have S4:Ext h H:=by rw[hH];exact Xx
  have me:H[h.length]? =some (.b x.row):=by rw[hH];exact(show Ext (h++[an.b x.row]) _ from Xx).some ba
  have mf:H[fb]? =some (.b [AV.str (tG d),.i (bK d:Int),.bool true]):=by rw[hH,Ys];exact ba
  rw[<-hH,<-Ys];refine WL.inv T.mix (λm ts h'=>∃k:Nat,k<=x.ev.names.length/\m=x.ev.names.length-k/\Ext H h'/\x.ev.names.any (λs=>!eZ s)=(x.ev.names.drop k).any (λs=>!eZ s)/\ts.length=59/\slot ts 1=.ptr h.length 0/\slot ts 3=.ptr fb 0/\slot ts 4=.i k) x.ev.names.length
   ⟨0,Om,rfl,.refl _,rfl,Sn,Sw,Sw,gf⟩ ?_
  rintro _ ts h' ⟨k,hk,rfl,hx,hi,hlen,t1,t3,t4⟩;have le:∀{kk n a},Ext h' kk->aq n (.ptr h.length a) (λz=>kk[z]?)=dK n a (.b x.row):=λ{_ _ _} e=>az ((hx.trans e).some me)
  have lf:∀{kk n a},Ext h' kk->aq n (.ptr fb a) (λz=>kk[z]?)=dK n a (.b [AV.str (tG d),.i (bK d:Int),.bool true]):=λ{_ _ _} e=>az ((hx.trans e).some mf)
  by_cases hlt:k<x.ev.names.length
  ·have e3:decide ((k:Int)<(aM d).length)=true:=ZR Om;have e5:=wrapN (n:=k) Om;have ix:=o.n.dA (kk:=.i64) hlt;have ld:∀{kk:ah},Ext h' kk->aq none (cF x.sn 1 k) (λb=>kk[b]?)=some (.str x.ev.names[k],.ar):=λ{kk} e=>o.n.gR hlt rfl ((S4.trans hx).trans e)
   have XX:x.ev.names.drop k=x.ev.names[k]::x.ev.names.drop (k+1):=Si
   rw[XX,ab9]at hi;have hnk:=hn x.ev.names[k] (ZZ _);obtain⟨y,hy⟩:∃y,y=x.ev.names[k]:=⟨_,rfl⟩;rw[<-hy]at ld hi hnk;refine Rs (kJ t1 t3 t4 @le @lf @Tz e3 @aP ix @ld) ?_;refine WF.ce T.c102 (r102 T y hnk) λg3=>?_
   cases hny:eZ y with
   |false=>
    rw[hny]at hi;have hi:x.ev.names.any (λs=>!eZ s)=true:=hi;refine Rs (A4 t1 t3 t4 @aai) ?_;refine⟨(S4.trans hx).trans Xx,?_⟩;rw[ZY hi]
   |true=>
    rw[hny]at hi;refine Rs (A5 t1 t3 t4 @aad e5) ?_;exact z206
  ·have e3:decide ((k:Int)<(aM d).length)=false:=ZN Om;have e4:k=x.ev.names.length:=Om
   have hi0:x.ev.names.any (λs=>!eZ s)=false:=by rw[hi,e4,aaT];rfl
   rw[ZW (by rw[hi0];decide)];refine Rs (A6 t1 t3 t4 @lf @Tz e3) ?_;refine WL.inv T.mix (λm ts X4=>∃k:Nat,k<=x.ev.bQ.length/\m=x.ev.bQ.length-k/\Ext H X4/\x.ev.bQ.any (λn=>decide (bG n 0 999999999≠0))=(x.ev.bQ.drop k).any (λn=>decide (bG n 0 999999999≠0))/\ts.length=59/\slot ts 1=.ptr h.length 0/\slot ts 3=.ptr fb 0/\slot ts 5=.i k) x.ev.bQ.length
    ⟨0,Om,rfl,hx,rfl,Sn,(Sq t1),(Sq t3),gf⟩ ?_
   clear t1 t3 t4 hlen hlt hi e3 e4 hk le lf hx;clear ts k h';rintro _ ts h' ⟨k,hk,rfl,hx,hi,hlen,t1,t3,t5⟩;have le:∀{kk n a},Ext h' kk->aq n (.ptr h.length a) (λz=>kk[z]?)=dK n a (.b x.row):=λ{_ _ _} e=>az ((hx.trans e).some me)
   have lf:∀{kk n a},Ext h' kk->aq n (.ptr fb a) (λz=>kk[z]?)=dK n a (.b [AV.str (tG d),.i (bK d:Int),.bool true]):=λ{_ _ _} e=>az ((hx.trans e).some mf)
   by_cases hlt:k<x.ev.bQ.length
   ·have e3:decide ((k:Int)<bK d)=true:=ZR Om;have e5:=wrapN (n:=k) Om;have ix:=o.v.dA (kk:=.i64) hlt;have ld:∀{kk:ah},Ext h' kk->aq none (cF x.sv 1 k) (λb=>kk[b]?)=some (.i x.ev.bQ[k],.ar):=λ{kk} e=>o.v.gR hlt rfl ((S4.trans hx).trans e)
    have XX:x.ev.bQ.drop k=x.ev.bQ[k]::x.ev.bQ.drop (k+1):=Si
    rw[XX,ab9]at hi;obtain⟨y,hy⟩:∃y,y=x.ev.bQ[k]:=⟨_,rfl⟩;rw[<-hy]at ld hi;refine Rs (A9 t1 t3 t5 @le @lf e3 @bg ix @ld) ?_;refine WF.ce T.c20 (r20 T _ _ _) λg3=>?_
    cases hny:decide (bG y 0 999999999≠0)with
    |true=>
     rw[hny]at hi;have hi:x.ev.bQ.any (λn=>decide (bG n 0 999999999≠0))=true:=hi;refine Rs (A3 t1 t3 t5) ?_;refine⟨(S4.trans hx).trans Xx,?_⟩;rw[ZY hi]
    |false=>
     rw[hny]at hi;refine Rs (A4 t1 t3 t5 e5) ?_;exact z206
   ·have e3:decide ((k:Int)<bK d)=false:=ZN Om;have e4:k=x.ev.bQ.length:=Om
    have hi0:x.ev.bQ.any (λn=>decide (bG n 0 999999999≠0))=false:=by rw[hi,e4,aaT];rfl
    rw[ZW (by rw[hi0];decide)];by_cases ht:x.ev.text=[]
    ·have q:decide (x.ev.text≠[])=false:=ZN (λz=>z ht);refine Rs (A8 t1 t3 t5 @lf @le e3 @yQ q) ?_;refine⟨S4.trans hx,?_⟩;rw[ZW (λz=>z ht)]
    ·have q:decide (x.ev.text≠[])=true:=ZR ht;refine Rs (A8 t1 t3 t5 @lf @le e3 @yQ q) ?_;refine⟨S4.trans hx,?_⟩;rw[ZY ht]
end
def Eh(R:hO)(e:fi):List (Nat×Bool)->Bool
 |[]=>false
 |r::_=>!r.2&&eo R r.1 (aS e 0)
def CR{R e d}:lM d R e=if nn R e (aM d) 0 then 10 else bW (Eh R e (aM d)) 9:=by
 have:rr R e (aM d) 0=Eh R e (aM d):=by cases d<;>simp[aM,rr,Eh]
 rw[lM,this];rfl
def Bi:∀r:Nat×Bool,r.1<6->r.2=false->IntKind.u8.wrap (IntKind.u8.wrap (((lL r).toNat:Int)+97)-65)=((lL (r.1,true)).toNat:Int)
 |(0,false),_,_=>rfl
 |(1,false),_,_=>rfl
 |(2,false),_,_=>rfl
 |(3,false),_,_=>rfl
 |(4,false),_,_=>rfl
 |(5,false),_,_=>rfl
section
variable {P:Program}(T:fD P) {h:ah}
include T
def Sg{V}(o:aC h V)(l:fp V)(n:By):ay P 195 [.agg V.row,.int .u8 ((lL (0,true)).toNat:Int),.str n] h (λv _=>∃i,v=.i i/\decide (0<=i)=eo V.ao 0 n):=by
 refine .nT 36 T.mix T.c195 ?_;intro ts hlen t0 t1 t2;unfold fn195 gA;have Su:=@aC.box _ _ o;have q0:decide (((lL (0,true)).toNat:Int)=108)=true:=rfl;refine Rs (A6 t0 t1 t2 @Su q0 @aE) ?_;refine WF.ce T.c28 (r28 T (o.ext Xx) l n) λg1=>?_
 refine Rs t0 ?_;exact⟨_,rfl,gk (f:=λy:iH=>y.name)⟩
def Sf{V}(o:aC h V)(l:fp V)(n:By):ay P 195 [.agg V.row,.int .u8 ((lL (1,true)).toNat:Int),.str n] h (λv _=>∃i,v=.i i/\decide (0<=i)=eo V.ao 1 n):=by
 refine .nT 36 T.mix T.c195 ?_;intro ts hlen t0 t1 t2;unfold fn195 gA;have Su:=@aC.box _ _ o;have q0:decide (((lL (1,true)).toNat:Int)=108)=false:=rfl;have q1:decide (((lL (1,true)).toNat:Int)=116)=true:=rfl;refine Rs (A7 t0 t1 t2 @Su q0 q1 @aE) ?_;refine WF.ce T.c141 (r141 T (o.ext Xx) l n) λg1=>?_
 refine Rs t0 ?_;exact⟨_,rfl,gk (f:=λy:sQ=>y.name)⟩
def Se{V}(o:aC h V)(l:fp V)(n:By):ay P 195 [.agg V.row,.int .u8 ((lL (2,true)).toNat:Int),.str n] h (λv _=>∃i,v=.i i/\decide (0<=i)=eo V.ao 2 n):=by
 refine .nT 36 T.mix T.c195 ?_;intro ts hlen t0 t1 t2;unfold fn195 gA;have Su:=@aC.box _ _ o;have q0:decide (((lL (2,true)).toNat:Int)=108)=false:=rfl;have q1:decide (((lL (2,true)).toNat:Int)=116)=false:=rfl;have q2:decide (((lL (2,true)).toNat:Int)=115)=true:=rfl;refine Rs (A8 t0 t1 t2 @Su q0 q1 q2 @aE) ?_;refine WF.ce T.c22 (r22 T (o.ext Xx) l n) λg1=>?_
 refine Rs t0 ?_;refine⟨_,rfl,(gk (f:=λy:j7×AV=>y.1.name)).trans ?_⟩;rw[<-jh];rfl
def Sd{V}(o:aC h V)(l:fp V)(n:By):ay P 195 [.agg V.row,.int .u8 ((lL (3,true)).toNat:Int),.str n] h (λv _=>∃i,v=.i i/\decide (0<=i)=eo V.ao 3 n):=by
 refine .nT 36 T.mix T.c195 ?_;intro ts hlen t0 t1 t2;unfold fn195 gA;have Su:=@aC.box _ _ o;have q0:decide (((lL (3,true)).toNat:Int)=108)=false:=rfl;have q1:decide (((lL (3,true)).toNat:Int)=116)=false:=rfl;have q2:decide (((lL (3,true)).toNat:Int)=115)=false:=rfl;have q3:decide (((lL (3,true)).toNat:Int)=109)=true:=rfl;refine Rs (A9 t0 t1 t2 @Su q0 q1 q2 q3 @aE) ?_;refine WF.ce T.c55 (r55 T (o.ext Xx) l n) λg1=>?_
 refine Rs t0 ?_;refine⟨_,rfl,(gk (f:=λy:jc×AV=>y.1.name)).trans ?_⟩;rw[<-ji];rfl
def Sc{V}(o:aC h V)(l:fp V)(n:By):ay P 195 [.agg V.row,.int .u8 ((lL (4,true)).toNat:Int),.str n] h (λv _=>∃i,v=.i i/\decide (0<=i)=eo V.ao 4 n):=by
 refine .nT 36 T.mix T.c195 ?_;intro ts hlen t0 t1 t2;unfold fn195 gA;have Su:=@aC.box _ _ o;have q0:decide (((lL (4,true)).toNat:Int)=108)=false:=rfl;have q1:decide (((lL (4,true)).toNat:Int)=116)=false:=rfl;have q2:decide (((lL (4,true)).toNat:Int)=115)=false:=rfl;have q3:decide (((lL (4,true)).toNat:Int)=109)=false:=rfl;have q4:decide (((lL (4,true)).toNat:Int)=106)=true:=rfl;refine Rs (kJ t0 t1 t2 @Su q0 q1 q2 q3 q4 @aE) ?_;refine WF.ce T.c56 (r56 T (o.ext Xx) l n) λg1=>?_
 refine Rs t0 ?_;refine⟨_,rfl,(gk (f:=λy:kI×AV=>y.1.name)).trans ?_⟩;rw[<-gK];rfl
def Sb{V}(o:aC h V)(l:fp V)(n:By):ay P 195 [.agg V.row,.int .u8 ((lL (5,true)).toNat:Int),.str n] h (λv _=>∃i,v=.i i/\decide (0<=i)=eo V.ao 5 n):=by
 refine .nT 36 T.mix T.c195 ?_;intro ts hlen t0 t1 t2;unfold fn195 gA;have Su:=@aC.box _ _ o;have q0:decide (((lL (5,true)).toNat:Int)=108)=false:=rfl;have q1:decide (((lL (5,true)).toNat:Int)=116)=false:=rfl;have q2:decide (((lL (5,true)).toNat:Int)=115)=false:=rfl;have q3:decide (((lL (5,true)).toNat:Int)=109)=false:=rfl;have q4:decide (((lL (5,true)).toNat:Int)=106)=false:=rfl;refine Rs (kJ t0 t1 t2 @Su q0 q1 q2 q3 q4 @aE) ?_;refine WF.ce T.c57 (r57 T (o.ext Xx) l n) λg1=>?_
 refine Rs t0 ?_;exact⟨_,rfl,gk (f:=λy:pI=>y.name)⟩
def r195{V}(o:aC h V)(l:fp V){t}(ht:t<6)(n:By):ay P 195 [.agg V.row,.int .u8 ((lL (t,true)).toNat:Int),.str n] h (λv _=>∃i,v=.i i/\decide (0<=i)=eo V.ao t n):=by
 match t,ht with
 | 0,_=>exact Sg T o l n
 | 1,_=>exact Sf T o l n
 | 2,_=>exact Se T o l n
 | 3,_=>exact Sd T o l n
 | 4,_=>exact Sc T o l n
 | 5,_=>exact Sb T o l n
def r223{V x d}(o:aC h V)(l:fp V)(ox:bj h x)(wx:kH x.ev d):ay P 223 [.agg V.row,.agg x.row] h (λv _=>v=.i (lM d V.ao x.ev)):=by
 refine .fo 55 T.mix T.c223 ?_;intro ts hlen t0 t1;unfold fn223;have Su:=@aC.box _ _ o;have hex:=@bj.box _ _ ox;refine Rs (A5 t0 t1 @Su @hex @bC) ?_;refine WF.ce T.c101 (r101 T _) λg1=>?_
 unfold ue;rw[wx.kd];obtain⟨L,hL⟩:∃L,L=aM d:=⟨_,rfl⟩;have hnl:x.ev.names.length=L.length:=by rw[hL];exact wx.nl
 have Xe:L.length<=3:=by rw[hL];cases d<;>decide
 have Yy:∀r∈L,r.1<6:=by rw[hL];exact EI d
 have Tz:(tG d).length=L.length:=by rw[tG,ZU,hL]
 refine Rs (A2 t0 t1) ?_;obtain⟨H,hH⟩:∃H,H=h++[an.b V.row]++[an.b x.row]++g1:=⟨_,rfl⟩;obtain⟨eb,heb⟩:∃eb,eb=(h++[an.b V.row]).length:=⟨_,rfl⟩;have S4:Ext h H:=by rw[hH];exact Xx
 have mr:H[h.length]? =some (.b V.row):=by rw[hH];exact(show Ext (h++[an.b V.row]) _ from Xx).some ba
 have me:H[eb]? =some (.b x.row):=by rw[hH,heb];exact(show Ext (h++[an.b V.row]++[an.b x.row]) _ from Xx).some ba
 rw[<-hH,<-heb];have Vc:∀(i:Nat) (hi:i<L.length),aV 1 x.sn (.i (i:Int))=some (cF x.sn 1 i,.ar):=λi hi=>ox.n.dA Om
 have hld:∀(i:Nat) (hi:i<L.length) (k':ah),Ext h k'->aq none (cF x.sn 1 i) (λb=>k'[b]?)=some (.str (aS x.ev i),.ar):=λi hi k' e=>by
  exact Ra
 have hixs:∀(i:Nat) (hi:i<L.length),wS (.str (tG d)) (.i (i:Int))=some (.int .u8 ((lL L[i]).toNat:Int)):=λi hi=>by
  have hi':i<(tG d).length:=Om
  rw[cM hi'];have:(tG d)[i]=lL L[i]:=by simp only[tG,hL,aaW]
  rw[this]
 refine WL.inv T.mix (λm ts h'=>∃k:Nat,k<=L.length/\m=L.length-k/\Ext H h'/\nn V.ao x.ev L 0=nn V.ao x.ev (L.drop k) k/\ts.length=55/\slot ts 2=.ptr h.length 0/\slot ts 3=.ptr eb 0/\slot ts 5=.str (tG d)/\slot ts 6=.i k) L.length
  ⟨0,Om,rfl,.refl _,rfl,Sn,Sw,Sw,Sw,gf⟩ ?_
 clear t0 t1 hlen Su hex;clear ts;rintro _ ts h' ⟨k,hk,rfl,hx,hu,hlen,t2,t3,t5,t6⟩;have le:∀{kk n a},Ext h' kk->aq n (.ptr eb a) (λz=>kk[z]?)=dK n a (.b x.row):=λ{_ _ _} e=>az ((hx.trans e).some me)
 have lr:∀{kk n a},Ext h' kk->aq n (.ptr h.length a) (λz=>kk[z]?)=dK n a (.b V.row):=λ{_ _ _} e=>az ((hx.trans e).some mr)
 by_cases hlt:k<L.length
 ·have e3:=eF hlt;have e5:=wrapN (n:=k) Om;have iy:=Vc k hlt;have ly:∀{k'},Ext h' k'->aq none (cF x.sn 1 k) (λb=>k'[b]?)=some (.str (aS x.ev k),.ar):=λ{k'} e=>hld k hlt k' ((S4.trans hx).trans e)
  have ii:=hixs k hlt;have hd:L.drop k=L[k]::L.drop (k+1):=Si
  obtain⟨r,Wp⟩:∃r,r=L[k]:=⟨_,rfl⟩;have Xq:r.1<6:=by rw[Wp];exact Yy _ (ZZ _)
  rw[hd,<-Wp,nn]at hu;rw[<-Wp]at ii;have qg:=Cu r Xq;cases TQ:r.2 with
  |false=>
   rw[TQ]at hu qg;refine Rs (A9 t2 t3 t5 t6 @Tz e3 @ii @qg e5) ?_;exact z201
  |true=>
   rw[TQ]at hu qg;have er:r=(r.1,true):=by rw[<-TQ]
   rw[er]at ii qg;refine Rs (za t2 t3 t5 t6 @Tz e3 @ii @qg @le @lr @aE @aP @iy @ly) ?_;refine WF.res T.c195 (r195 T ((o.ext (S4.trans hx)).ext Xx) l Xq _) ?_;rintro _ g3 ⟨i,rfl,hi⟩;have qi:decide (i<0)= !eo V.ao r.1 (aS x.ev k):=by rw[<-hi];by_cases h0:0<=i<;>simp[h0]<;>omega
   cases hh:eo V.ao r.1 (aS x.ev k)with
   |true=>
    rw[hh]at hu qi;have qi:decide (i<0)=false:=qi;refine Rs (A6 t2 t3 t5 t6 @qi e5) ?_;exact z201
   |false=>
    rw[hh]at hu qi;have qi:decide (i<0)=true:=qi;have hu1:nn V.ao x.ev L 0=true:=by rw[hu];rfl
    refine Rs (A5 t2 t3 t5 t6 @qi) ?_;refine⟨(S4.trans hx).trans Xx,?_⟩;rw[CR,<-hL,ZY hu1]
 ·have e3:=fq hlt;have e4:k=L.length:=Om
  have Vt:nn V.ao x.ev L 0=false:=by rw[hu,e4,aaT];rfl
  have Xn:=S4.trans hx;rw[CR,<-hL,ZW (by rw[Vt];decide)];refine Rs (A6 t2 t3 t5 t6 @Tz e3) ?_;cases hLc:L with
  |nil=>
   have q0:decide ((0:Int)<(([] :List (Nat×Bool)).length:Int))=false:=rfl;refine Rs (A5 t2 t3 t5 t6 q0) ?_;exact⟨Xn,rfl⟩
  |cons r rest=>
   rw[Eh];have q0:decide ((0:Int)<((r::rest).length:Int))=true:=ZR (by simp only[ZP];omega);have XT:0<L.length:=by rw[hLc];simp
   have ii:wS (.str (tG d)) (.i 0)=some (.int .u8 ((lL r).toNat:Int)):=by
    have:=hixs 0 XT;simp only[hLc,List.getElem_cons_zero]at this;exact this
   have Xq:r.1<6:=Yy r (by rw[hLc];simp);have qg:=Cu r Xq;have lP:aV 1 x.sn (.i 0)=some (cF x.sn 1 0,.ar):=Vc 0 XT;have ld0:∀{k':ah},Ext h' k'->aq none (cF x.sn 1 0) (λb=>k'[b]?)=some (.str (aS x.ev 0),.ar):=λ{k'} e=>hld 0 XT k' (Xn.trans e)
   cases TQ:r.2 with
   |true=>
    rw[TQ]at qg;have qg2:decide (((lL r).toNat:Int)<97)=false:=ZN (by have:=aaQ qg;omega);refine Rs (A7 t2 t3 t5 t6 q0 @ii @qg2) ?_;exact⟨Xn,rfl⟩
   |false=>
    rw[TQ]at qg;have qg2:decide (((lL r).toNat:Int)<97)=true:=ZR (by have:=of_decide_eq_false qg;omega);have ew:=Bi r Xq TQ;refine Rs (za t2 t3 t5 t6 q0 @ii @qg2 @le @lr @aE @aP @lP @ld0 @ew) ?_;refine WF.res T.c195 (r195 T (o.ext Xn) l Xq _) ?_;rintro _ g3 ⟨i,rfl,hi⟩;cases hh:eo V.ao r.1 (aS x.ev 0)with
    |true=>
     exact z173
    |false=>
     exact z173
end
section
variable {P:Program}(T:fD P) {h:ah}
include T
def r84{V}(o:aC h V)(l:fp V){n}(hn:n∈kB V.ao)(t:Int):ay P 84 [.agg V.row,.str n,.i t] h (λv _=>v=.bool (ki V.ao t n)):=by
 refine .nT 17 T.mix T.c84 ?_;intro ts hlen t0 t1 t2;unfold fn84;have Su:=@aC.box _ _ o;have hlt:=cL hn;have SW:aW (kB V.ao) n<V.aH.length:=by simpa [kB,RV.ao]using hlt
 have ix:aV 2 V.s1 (.i ((aW (kB V.ao) n:Nat):Int))=some (cF V.s1 2 (aW (kB V.ao) n),.ar):=o.i1.dA SW;have ev:kh V.ao n=V.aH[aW (kB V.ao) n]:=cS (f:=sQ.name) (l:=V.aH) hn;have ld:∀{k':ah},Ext h k'->aq none (j6 V.s1 2 (aW (kB V.ao) n) 1) (λb=>k'[b]?)=some (.i (kh V.ao n).last,.ar):=λ{k'} e=>by
  rw[ev];exact o.i1.lO SW rfl e
 refine Rs (A6 t0 t1 t2 @Su @lT @aE) ?_;refine WF.ce T.c141 (r141 T (o.ext Xx) l n) λg1=>?_
 have ei:de (λy:sQ=>decide (y.name=n)) V.aH=(aW (kB V.ao) n:Int):=eS (f:=λy:sQ=>y.name) hn;rw[ei];refine Rs (A5 t0 t1 t2 ix @ld) ?_;rfl
def r23{V}(o:aC h V)(l:fp V){x}(hx:aI h x.2 1 (x.1.aH.map ak))(hl:x.1.aH.length<2^30)(hk:∀n∈x.1.aH,n∈kB V.ao)(t:Int):
  ay P 23 [.agg V.row,.agg (bt x),.i t] h (λv _=>v=.bool (fU V.ao x.1 t)):=by
 refine .nT 23 T.mix T.c23 ?_;intro ts hlen t0 t1 t2;unfold fn23 gA;have Su:=@aC.box _ _ o;have ox:=hx.one;unfold bt at t1;refine Rs (A5 t0 t1 t2 @Su @ox) ?_;obtain⟨H,hH⟩:∃H,H=h++[an.b V.row]++[an.b [AV.str x.1.name,.str x.1.line,x.2]]:=⟨_,rfl⟩;obtain⟨sb,hsb⟩:∃sb,sb=(h++[an.b V.row]).length:=⟨_,rfl⟩;have S4:Ext h H:=by rw[hH];exact Xx
 have mr:H[h.length]? =some (.b V.row):=by rw[hH];exact(show Ext (h++[an.b V.row]) _ from Xx).some ba
 have ms:H[sb]? =some (.b [AV.str x.1.name,.str x.1.line,x.2]):=by rw[hH,hsb];exact ba
 rw[<-hH,<-hsb];refine WL.inv T.mix (λn ts h'=>∃k:Nat,k<=x.1.aH.length/\n=x.1.aH.length-k/\Ext H h'/\fU V.ao x.1 t=(x.1.aH.drop k).any (ki V.ao t)/\
   ts.length=23/\slot ts 2=.i t/\slot ts 3=.ptr h.length 0/\slot ts 4=.ptr sb 0/\slot ts 7=.i k) x.1.aH.length
  ⟨0,Om,rfl,.refl _,rfl,Sn,(Sq t2),Sw,Sw,gf⟩ ?_
 rintro _ ts h' ⟨k,Sy,rfl,he,hi,hlen,t2,t3,t4,t7⟩;have lr:∀{kk n a},Ext h' kk->aq n (.ptr h.length a) (λz=>kk[z]?)=dK n a (.b V.row):=λ{_ _ _} e=>az ((he.trans e).some mr)
 have ls:∀{kk n a},Ext h' kk->aq n (.ptr sb a) (λz=>kk[z]?)=dK n a (.b [AV.str x.1.name,.str x.1.line,x.2]):=λ{_ _ _} e=>az ((he.trans e).some ms)
 by_cases hlt:k<x.1.aH.length
 ·have e3:=eF hlt;have e5:=wrapN (n:=k) Om;have ix:=hx.dA (kk:=.i64) hlt;have hd:x.1.aH.drop k=x.1.aH[k]::x.1.aH.drop (k+1):=Si
  have hm:=hk x.1.aH[k] (ZZ _);have ld:∀{kk:ah},Ext h' kk->aq none (cF x.2 1 k) (λb=>kk[b]?)=some (.str x.1.aH[k],.ar):=λ{kk} e=>hx.gR hlt rfl ((S4.trans he).trans e)
  rw[hd,ab9]at hi;obtain⟨y,hy⟩:∃y,y=x.1.aH[k]:=⟨_,rfl⟩;rw[<-hy]at ld hi hm;refine Rs (mQ t2 t3 t4 t7 @ls @lr hx.aL e3 ix @ld @aE) ?_;refine WF.ce T.c84 (r84 T ((o.ext (S4.trans he)).ext Xx) l hm t) λg3=>?_
  cases hr:ki V.ao t y with
  |true=>
   rw[hr]at hi;refine Rs (A4 t2 t3 t4 t7) ?_;refine⟨(S4.trans he).trans Xx,?_⟩;rw[hi];rfl
  |false=>
   rw[hr]at hi;refine Rs (A5 t2 t3 t4 t7 e5) ?_;exact⟨_,Om,k+1,Om,rfl,he.trans Xx,hi,rfl⟩
 ·have e3:=fq hlt;have e4:k=x.1.aH.length:=Om
  refine Rs (A7 t2 t3 t4 t7 @ls hx.aL e3) ?_;refine⟨S4.trans he,?_⟩;rw[hi,e4,aaT];rfl
def r24{V}(o:aC h V)(l:fp V)(ir:N6 V)(t:Int):ay P 24 [.agg V.row,.i t] h (λv h'=>aI h' v 1 ((jB V.ao t).map ak)):=by
 refine .fo 33 T.mix T.c24 ?_;intro ts hlen t0 t1;unfold fn24 gA;have Su:=@aC.box _ _ o;refine Rs (A3 t0 t1 @Su) ?_;obtain⟨H,hH⟩:∃H,H=h++[an.b V.row]:=⟨_,rfl⟩;have S4:Ext h H:=by rw[hH];exact Xx
 have mr:H[h.length]? =some (.b V.row):=by rw[hH];exact ba
 rw[<-hH];have eu:jB V.ao t=(V.aj.filter λx=>!fU V.ao x.1 t).map λx=>x.1.name:=by
  exact Kp
 rw[eu];refine WL.inv T.mix (λn ts h'=>∃(k:Nat) (out:AV),k<=V.aj.length/\n=V.aj.length-k/\Ext H h'/\Fr H.length h' out 1 ((((V.aj.take k).filter λx=>!fU V.ao x.1 t).map λx=>x.1.name).map ak)/\
   ts.length=33/\slot ts 1=.i t/\slot ts 2=.ptr h.length 0/\slot ts 5=out/\slot ts 6=.i k) V.aj.length
  ⟨0,.af,Om,rfl,.refl _,.nil,Sn,(Sq t1),Sw,Sw,gf⟩ ?_
 rintro _ ts h' ⟨k,out,Sy,rfl,⟨g,rfl⟩,hfr,hlen,t1,t2,t5,t6⟩;have he:Ext H (H++g):=⟨_,rfl⟩;have lr:∀{kk n a},Ext (H++g) kk->aq n (.ptr h.length a) (λz=>kk[z]?)=dK n a (.b V.row):=λ{_ _ _} e=>az ((he.trans e).some mr)
 have TF:=l.l2;by_cases hlt:k<V.aj.length
 ·have e3:=eF hlt;have e5:=wrapN (n:=k) Om;have ix:=o.i2.dA (kk:=.i64) hlt;obtain⟨y,hy⟩:∃y,y=V.aj[k]:=⟨_,rfl⟩;have UO:y∈V.aj:=by rw[hy];exact ZZ _
  have ld:∀{kk:ah},Ext (H++g) kk->aq (some 3) (cF V.s2 3 k) (λb=>kk[b]?)=some (.agg (bt y),.ar):=λ{kk} e=>by rw[hy];exact o.i2.kR hlt ((S4.trans he).trans e)
  have lf:∀{kk:ah},Ext (H++g) kk->aq none (j6 V.s2 3 k 0) (λb=>kk[b]?)=some (.str y.1.name,.ar):=λ{kk} e=>o.i2.lO hlt (by rw[<-hy];rfl) ((S4.trans he).trans e)
  have SC:V.aj.take (k+1)=V.aj.take k++[y]:=by rw[hy,aay,ZS hlt];rfl
  have hsh:=ir.sh y UO;refine Rs (mQ t1 t2 t5 t6 @lr @fG @aE o.i2.aL e3 ix @ld) ?_;refine WF.ce T.c23 (r23 T ((o.ext (S4.trans he)).ext Xx) l (((o.e2 y UO).ext (S4.trans he)).ext Xx) hsh.2 hsh.1 t) λg3=>?_
  cases hs:fU V.ao y.1 t with
  |true=>
   refine Rs (A6 t1 t2 t5 t6 @aad e5) ?_;refine⟨_,Om,k+1,out,Om,rfl,?_,rfl,rfl⟩;rw[SC,abf];simp only[abA,abP,hs,aad,aaC,Z3,aaf];exact hfr.app _
  |false=>
   refine Rs (A9 t1 t2 t5 t6 @aai @lr @fG ix @lf) ?_;have Tc:((V.aj.take k).filter λx=>!fU V.ao x.1 t).length<=V.aj.length:=aaz (aav _ _) (by rw[aaw];omega);refine WR.fP (h0:=H) (cs:=(((V.aj.take k).filter λx=>!fU V.ao x.1 t).map λx=>x.1.name).map ak) (ys:=[ak y.1.name]) ((hfr.app _).app _) (Fr.push (N:=0) (aam _) [ak y.1.name] (by simp[ak])).aO De Si (by simp only[ZU,ZP,ZT];omega) (by rw[ZO,ZO];exact⟨_,rfl⟩) ?_;intro g' SI hff hkp;have hrow:(((V.aj.take k).filter λx=>!fU V.ao x.1 t).map λx=>x.1.name).map ak++[ak y.1.name]=(((V.aj.take (k+1)).filter λx=>!fU V.ao x.1 t).map λx=>x.1.name).map ak:=by
    rw[SC,abf];simp only[abA,abP,hs,aai,Z7,ZV,aaJ,abd]
   rw[hrow]at hff;rw[hrow];refine Rs (A5 t1 t2 t5 t6 e5) ?_;exact HD
 ·exact z80
end
def any_eq{α:Type}{p:α->Bool}{L:List α}{k:Nat}(hlt:k<L.length):(L.drop k).any p=(p L[k]||(L.drop (k+1)).any p):=by
 have hd:L.drop k=L[k]::L.drop (k+1):=Si
 rw[hd,ab9]
section
variable {P:Program}(T:fD P) {h:ah}
include T
def r263(n:Int):ay P 263 [.i n] h (λv _=>v=.dz [.str (nq n),.str (kD n)]):=by
 refine .jd 11 T.mix T.c263 ?_;intro ts hlen t0;unfold fn263 gA;by_cases h1:n=1
 ·have q1:decide (n=1)=true:=ZR h1;refine Rs (A2 t0 q1) ?_;subst h1;rfl
 have q1:decide (n=1)=false:=ZN h1;by_cases h2:n=2
 ·have q2:decide (n=2)=true:=ZR h2;refine Rs (A3 t0 q1 q2) ?_;subst h2;rfl
 have q2:decide (n=2)=false:=ZN h2;by_cases h3:n=3
 ·have q3:decide (n=3)=true:=ZR h3;refine Rs (A4 t0 q1 q2 q3) ?_;subst h3;rfl
 have q3:decide (n=3)=false:=ZN h3;refine Rs (A4 t0 q1 q2 q3) ?_;rw[nq,ZW h1,ZW h2,ZW h3,kD,ZW h1,ZW h2];rfl
def r265{V:RV}(o:aC h V)(l:fp V)(n:By):ay P 265 [.agg V.row,.str n] h (λv _=>v=.bool (qE V.ao n)):=by
 refine .fo 21 T.mix T.c265 ?_;intro ts hlen t0 t1;unfold fn265 gA;have Su:=@aC.box _ _ o;have hl:=l.l5;refine Rs (A3 t0 t1 @Su) ?_;refine WL.inv T.mix (λm ts h'=>∃k:Nat,k<=V.aK.length/\m=V.aK.length-k/\h' =h++[an.b V.row]/\qE V.ao n=(V.aK.drop k).any (λp=>decide (p.zS=n))/\ts.length=21/\slot ts 1=.str n/\slot ts 2=.ptr h.length 0/\slot ts 5=.i k) V.aK.length
  ⟨0,Om,rfl,rfl,rfl,Sn,(Sq t1),Sw,gf⟩ ?_
 rintro _ ts _ ⟨k,hk,rfl,rfl,hi,hlen,t1,t2,t5⟩;have lb:∀{kk n a},Ext (h++[an.b V.row]) kk->aq n (.ptr h.length a) (λz=>kk[z]?)=dK n a (.b V.row):=λ{_ _ _} e=>az (e.some ba)
 by_cases hlt:k<V.aK.length
 ·have e3:=eF hlt;have ix:=o.i5.dA (kk:=.i64) hlt;have e5:=wrapN (n:=k) Om;rw[any_eq hlt]at hi;obtain⟨y,hy⟩:∃y,y=V.aK[k]:=⟨_,rfl⟩;have ld:∀{kk:ah},Ext h kk->aq none (j6 V.s5 4 k 1) (λb=>kk[b]?)=some (.str y.zS,.ar):=λ{kk} e=>o.i5.lO hlt (by rw[<-hy];rfl) e
  rw[<-hy]at hi;cases hp:decide (y.zS=n)with
  |true=>
   rw[hp]at hi;refine Rs (kJ t1 t2 t5 @lb @gE o.i5.aL e3 ix @ld @hp) ?_;rw[hi];rfl
  |false=>
   rw[hp]at hi;refine Rs (mQ t1 t2 t5 @lb @gE o.i5.aL e3 ix @ld @hp e5) ?_;exact⟨_,Om,k+1,Om,rfl,hi,rfl⟩
 ·have e3:=fq hlt;have e4:k=V.aK.length:=Om
  refine Rs (A7 t1 t2 t5 @lb @gE o.i5.aL e3) ?_;rw[hi,e4,aaT];rfl
def r264{V}(o:aC h V)(l:fp V){n}(hn:n∈iS V.ao):ay P 264 [.agg V.row,.str n] h (λv _=>v=.str (iK V.ao n).gives):=by
 refine .fo 13 T.mix T.c264 ?_;intro ts hlen t0 t1;unfold fn264;have Su:=@aC.box _ _ o;have hlt:=cL hn;have SW:aW (iS V.ao) n<V.aD.length:=by simpa [iS,RV.ao]using hlt
 have ix:aV 4 V.s3 (.i ((aW (iS V.ao) n:Nat):Int))=some (cF V.s3 4 (aW (iS V.ao) n),.ar):=o.i3.dA SW;have ev:iK V.ao n=(V.aD[aW (iS V.ao) n]).1:=by
  rw[iK,cS (f:=jc.name) (l:=V.ao.aD) (d:=CQ) hn];exact z72
 have ld:∀{k':ah},Ext h k'->aq none (j6 V.s3 4 (aW (iS V.ao) n) 1) (λb=>k'[b]?)=some (.str (iK V.ao n).gives,.ar):=λ{k'} e=>by
  rw[ev];exact o.i3.lO SW rfl e
 refine Rs (A5 t0 t1 @Su @gF @aE) ?_;refine WF.ce T.c55 (r55 T (o.ext Xx) l n) λg1=>?_
 have ei:de (λy:jc×AV=>decide (y.1.name=n)) V.aD=(aW (iS V.ao) n:Int):=by
  rw[ji];exact eS (f:=λy:jc×AV=>y.1.name) (by rw[<-ji];exact hn)
 exact z130
def r31{s l}(hs:aI h s 1 (l.map aJ))(hl:l.length<2^30)(hb:∀s∈l,-1<=s/\s<=999999999):ay P 31 [s] h (λv _=>v=.i (gT l)):=by
 refine .jd 20 T.mix T.c31 ?_;intro ts hlen t0;unfold fn31 gA;refine Rs t0 ?_;refine WL.inv T.mix (λn ts h'=>∃k:Nat,k<=l.length/\n=l.length-k/\h' =h/\ts.length=20/\slot ts 0=s/\slot ts 3=.i (gT (l.take k))/\slot ts 4=.i k) l.length
  ⟨0,Om,rfl,rfl,Sn,(Sq t0),gf,gf⟩ ?_
 rintro _ ts h' ⟨k,hk,rfl,rfl,hlen,t0,t3,t4⟩;by_cases hlt:k<l.length
 ·have e3:=eF hlt;have e5:=wrapN (n:=k) Om;have ix:=hs.dA (kk:=.i64) hlt;have ld:=hs.gR (i:=k) (x:=.i l[k]) hlt rfl (Ext.refl _);have hd:=uX (l.take k) 1 (λs hs=>hb s (aaP hs)) De De;have Uf:=hb _ (ZZ hlt);have Td:-16777213<gT (l.take k)/\gT (l.take k)<16777213:=hd;have w1:IntKind.i64.wrap (257*gT (l.take k))=257*gT (l.take k):=aZ Om Om;have w2:IntKind.i64.wrap (257*gT (l.take k)+l[k])=257*gT (l.take k)+l[k]:=aZ Om Om;have er:=o9 (k:=.i64) (a:=257*gT (l.take k)+l[k]) (b:=16777213) De;have SC:gT (l.take (k+1))=(257*gT (l.take k)+l[k]).tmod 16777213:=by
   exact z171
  rw[<-SC]at er;refine Rs (mQ t0 t3 t4 hs.aL e3 ix @ld @w1 @w2 @er e5) ?_;exact⟨_,Om,k+1,Om,rfl,rfl,rfl⟩
 ·have e3:=fq hlt;have e4:k=l.length:=Om
  refine Rs (A5 t0 t3 t4 hs.aL e3) ?_;rw[e4,aaj]
def r60{x}(hx:aI h x.2 1 (x.1.bz.map aJ))(hl:x.1.bz.length<2^30):ay P 60 [.agg (bO x)] h (λv h'=>aI h' v 1 ((db x.1.bz 0).map aJ)):=by
 refine .jd 23 T.mix T.c60 ?_;intro ts hlen t0;unfold fn60 gA;have ox:=hx.one;unfold bO at t0;refine Rs (A2 t0 @ox) ?_;obtain⟨H0,Xg⟩:∃H0,H0=h++[an.b [AV.str x.1.name,.str x.1.mod,x.2]]:=⟨_,rfl⟩;have e0:Ext h H0:=by rw[Xg];exact Xx
 have lb:∀{k n a},Ext H0 k->aq n (.ptr h.length a) (λz=>k[z]?)=dK n a (.b [AV.str x.1.name,.str x.1.mod,x.2]):=λ{_ _ _} e=>az (e.some (by rw[Xg];exact ba))
 rw[<-Xg];refine WL.inv T.mix (λn ts h'=>∃(k:Nat) (out:AV),k<=x.1.bz.length/\n=x.1.bz.length-k/\Ext H0 h'/\Fr H0.length h' out 1 ((db (x.1.bz.take k) 0).map aJ)/\
   ts.length=23/\slot ts 1=.ptr h.length 0/\slot ts 3=out/\slot ts 4=.i k) x.1.bz.length
  ⟨0,.af,Om,rfl,Ext.refl _,.nil,Sn,(Sq t0),(Sq t0),gf⟩ ?_
 rintro _ ts _ ⟨k,out,hk',rfl,⟨g,rfl⟩,hfr,hlen,t1,t3,t4⟩;by_cases hlt:k<x.1.bz.length
 ·have e3:=eF hlt;have ix:=hx.dA (kk:=.i64) hlt;have ld:∀{k':ah},Ext H0 k'->aq none (cF x.2 1 k) (λb=>k'[b]?)=some (.i x.1.bz[k],.ar):=λ{k'} e=>hx.gR hlt rfl (e0.trans e)
  have e5:=wrapN (n:=k) Om;have SC:db (x.1.bz.take (k+1)) 0=db (x.1.bz.take k) 0++(if x.1.bz[k]<0 then [(k:Int)]else []):=by
   exact Q7
  by_cases hn:x.1.bz[k]<0
  ·have q:decide (x.1.bz[k]<0)=true:=ZR hn;rw[ZY hn]at SC;refine Rs (A9 t1 t3 t4 @lb hx.aL e3 ix @ld q) ?_;have TF:=jN (l:=x.1.bz.take k) (i:=0);refine WR.fP (h0:=H0) (cs:=(db (x.1.bz.take k) 0).map aJ) (ys:=[aJ (k:Int)]) (hfr.app _) (Fr.push (N:=0) (aam _) [aJ (k:Int)] Si).aO De Si (by simp only[ZU,aaw,ZP,ZT]at TF ⊢;omega) Xx ?_;intro g' SI hff hkp;have hrow:(db (x.1.bz.take k) 0).map aJ++[aJ (k:Int)]=(db (x.1.bz.take (k+1)) 0).map aJ:=by rw[SC,ZV];rfl
   rw[hrow]at hff;rw[hrow];refine Rs (A4 t1 t3 t4 e5) ?_;exact HD
  ·have q:decide (x.1.bz[k]<0)=false:=ZN hn;rw[ZW hn,aaf]at SC;refine Rs (kJ t1 t3 t4 @lb hx.aL e3 ix @ld q e5) ?_;refine⟨_,Om,k+1,out,Om,rfl,?_,rfl,rfl⟩;rw[SC];exact hfr
 ·have e3:=fq hlt;have e4:k=x.1.bz.length:=Om
  refine Rs (A6 t1 t3 t4 @lb hx.aL e3) ?_;rw[e4,aaj]at hfr;exact⟨e0.trans Xx,hfr.aO⟩
def r127{V:RV}(o:aC h V)(l:fp V){M:List (By)}{s:AV}(hs:aI h s 1 (M.map ak))(hM:M.length<2^40):ay P 127 [.agg V.row,s] h (λv h'=>aI h' v 1 (((V.ao.aj.filter λx=>decide (x.line∈M)).map j7.name).map ak)):=by
 refine .fo 32 T.mix T.c127 ?_;intro ts hlen t0 t1;unfold fn127 gA;have Su:=@aC.box _ _ o;refine Rs (A3 t0 t1 @Su) ?_;obtain⟨H,hH⟩:∃H,H=h++[an.b V.row]:=⟨_,rfl⟩;have S4:Ext h H:=by rw[hH];exact Xx
 have mr:H[h.length]? =some (.b V.row):=by rw[hH];exact ba
 rw[<-hH];have eu:(V.ao.aj.filter λx=>decide (x.line∈M)).map j7.name=(V.aj.filter λx=>decide (x.1.line∈M)).map λx=>x.1.name:=by
  simp only[RV.ao,abQ,abt];rfl
 rw[eu];refine WL.inv T.mix (λn ts h'=>∃(k:Nat) (out:AV),k<=V.aj.length/\n=V.aj.length-k/\Ext H h'/\Fr H.length h' out 1 ((((V.aj.take k).filter λx=>decide (x.1.line∈M)).map λx=>x.1.name).map ak)/\
   ts.length=32/\slot ts 1=s/\slot ts 2=.ptr h.length 0/\slot ts 5=out/\slot ts 6=.i k) V.aj.length
  ⟨0,.af,Om,rfl,.refl _,.nil,Sn,(Sq t1),Sw,Sw,gf⟩ ?_
 rintro _ ts h' ⟨k,out,Sy,rfl,⟨g,rfl⟩,hfr,hlen,t1,t2,t5,t6⟩;have he:Ext H (H++g):=⟨_,rfl⟩;have lr:∀{kk n a},Ext (H++g) kk->aq n (.ptr h.length a) (λz=>kk[z]?)=dK n a (.b V.row):=λ{_ _ _} e=>az ((he.trans e).some mr)
 have TF:=l.l2;by_cases hlt:k<V.aj.length
 ·have e3:=eF hlt;have e5:=wrapN (n:=k) Om;have ix:=o.i2.dA (kk:=.i64) hlt;obtain⟨y,hy⟩:∃y,y=V.aj[k]:=⟨_,rfl⟩;have lf:∀{kk:ah},Ext (H++g) kk->aq none (j6 V.s2 3 k 0) (λb=>kk[b]?)=some (.str y.1.name,.ar):=λ{kk} e=>o.i2.lO hlt (by rw[<-hy];rfl) ((S4.trans he).trans e)
  have lg:∀{kk:ah},Ext (H++g) kk->aq none (j6 V.s2 3 k 1) (λb=>kk[b]?)=some (.str y.1.line,.ar):=λ{kk} e=>o.i2.lO hlt (by rw[<-hy];rfl) ((S4.trans he).trans e)
  have SC:V.aj.take (k+1)=V.aj.take k++[y]:=by rw[hy,aay,ZS hlt];rfl
  refine Rs (kJ t1 t2 t5 t6 @lr @fG o.i2.aL e3 ix @lg) ?_;refine WF.ce T.c35 (r35 T (hs.ext (S4.trans he)) hM _) λg3=>?_
  cases hd:decide (y.1.line∈M)with
  |false=>
   refine Rs (A5 t1 t2 t5 t6 e5) ?_;exact z70
  |true=>
   refine Rs (A8 t1 t2 t5 t6 @lr @fG ix @lf) ?_;have Tc:((V.aj.take k).filter λx=>decide (x.1.line∈M)).length<=V.aj.length:=aaz (aav _ _) (by rw[aaw];omega);refine WR.fP (h0:=H) (cs:=(((V.aj.take k).filter λx=>decide (x.1.line∈M)).map λx=>x.1.name).map ak) (ys:=[ak y.1.name]) ((hfr.app _).app _) (Fr.push (N:=0) (aam _) [ak y.1.name] (by simp[ak])).aO De Si (by simp only[ZU,ZP,ZT];omega) (by rw[ZO,ZO];exact⟨_,rfl⟩) ?_;intro g' SI hff hkp;have hrow:(((V.aj.take k).filter λx=>decide (x.1.line∈M)).map λx=>x.1.name).map ak++[ak y.1.name]=(((V.aj.take (k+1)).filter λx=>decide (x.1.line∈M)).map λx=>x.1.name).map ak:=by
    exact Og
   rw[hrow]at hff;rw[hrow];refine Rs (A5 t1 t2 t5 t6 e5) ?_;exact HD
 ·exact z80
end
end Go.Abs
namespace Go.Abs
section
variable {P:Program}{ro:Option Nat->Prop}{ks:List Kt}{ts:TS}{Q:Ex->TS->ah->Prop}
def WR.DM{h s y es cs ys h0 w d l}
  (hs:Fr h0.length h s es cs) (hy:aI h y es ys) (hes:0<es) (fj:(cs.length+ys.length)*w<=2^46) (he:Ext h0 h)
  (K:∀s' g,Fr h0.length (h0++g) s' es (cs++ys)->(∀b,b<h.length->sB s≠some b->(h0++g)[b]? =h[b]?)->h.length<=(h0++g).length->WP P ro l ks (put ts d s') (h0++g) Q):
  WR P ro (p6 es w s y (λb=>h[b]?) h.length) false d l ks ts h Q:=by
 by_cases hn:ys.length=0
 ·have hys:ys=[]:=aaO.1 hn;subst hys;obtain⟨g,rfl⟩:=he;rw[aaf]at K;have e:p6 es w s y (λb=>(h0++g)[b]?) (h0++g).length=some (s,.ar):=by
   simp only[p6,hy.fL];cases hs with
   |nil=>simp
   |mk hN hb h'=>simp
  rw[e,jK];exact K s g hs (λ_ _ _=>rfl) (Z0 _)
 ·refine WR.fP hs hy hes Om fj he λg h1 h2 h3=>K _ g h2 (λb hb hne=>h3 b hb λb0 o n e hse hbb=>hne (by rw[hse,hbb];rfl)) Om
end
def E1{R}(w:fQ R){x}(hx:x∈R.aD):iK R x.name=x:=uT (f:=jc.name) w.n3.nd hx
def qq{m l x}:cX m (l++[x])=if x.name∈cX m l then cX m l++x.bA else cX m l:=by
 rw[cX,List.foldl_append];rfl
def wE{m}:∀{l},(∀x∈l,x.bA.length<=2)->(cX m l).length<=1+2*l.length:=by
 intro l;have key:∀(l:List jc) (a:List (By)),(∀x∈l,x.bA.length<=2)->(l.foldl (λn x=>if x.name∈n then n++x.bA else n) a).length<=a.length+2*l.length:=by
  intro l
  induction l with
  |nil=>intro a _;simp
  |cons x l ih=>
   intro a hl;have h1:=hl x Si;have:=ih (if x.name∈a then a++x.bA else a) (λy hy=>hl y (aao _ hy));rw[ab4];refine aaz this ?_;split<;>simp only[ZL,ZP]<;>omega
 intro hl;exact key l [m] hl
set_option maxRecDepth 10000
attribute [local irreducible] WP WC WE WB WR WF WL WG fR WM
section
variable {P:Program}(T:fD P) {h:ah}
include T
def r58{V}(o:aC h V)(w:fQ V.ao)(m:By):ay P 58 [.agg V.row,.str m] h (λv h'=>aI h' v 1 (((mY V.ao m).map jc.name).map ak)):=by
 refine .fo 60 T.mix T.c58 ?_;intro ts hlen t0 t1;unfold fn58 gA;have Su:=@aC.box _ _ o;have l:=w.len;have hn32:V.aD.length<=32:=by have:=w.l3;simpa [RV.ao]using this
 have hin:∀x∈V.ao.aD,x.bA.length<=2:=λx hx=>(w.md x hx).2.1
 have hml:V.ao.aD.length=V.aD.length:=by simp[RV.ao]
 have ew:IntKind.i64.wrap ((V.aD.length:Int)-1)=(V.aD.length:Int)-1:=aZ Om Om;have lb0:∀{kk n a},Ext (h++[an.b V.row]) kk->aq n (.ptr h.length a) (λz=>kk[z]?)=dK n a (.b V.row):=λ{_ _ _} e=>az (e.some ba)
 refine Rs (A7 t0 t1 @Su @lb0 @gF o.i3.aL @ew) ?_;obtain⟨H,hH⟩:∃H,H=h++[an.b V.row]:=⟨_,rfl⟩;have S4:Ext h H:=by rw[hH];exact Xx
 have mr:H[h.length]? =some (.b V.row):=by rw[hH];exact ba
 rw[<-hH];refine WL.inv T.mix (λn ts h'=>∃(k:Nat) (ws:AV),k<=V.aD.length/\n=V.aD.length-k/\Ext H h'/\aI h' ws 1 ((cX m (V.ao.aD.reverse.take k)).map ak)/\
   ts.length=60/\slot ts 2=.ptr h.length 0/\slot ts 5=ws/\slot ts 6=.i ((V.aD.length:Int)-1-k)) V.aD.length
  ⟨0,.slice H.length 0 1 1,Om,rfl,⟨_,rfl⟩,(Fr.push (N:=0) (aam _) [ak m] (by simp[ak])).aO,Sn,Sw,Sw,(by simp only[aQ,aR,aX,aY,reduceAdd,reduceMul,reduceLeDiff,reduceEqDiff,bd,hlen,Z3,Z7];simp)⟩ ?_
 clear t0 t1 hlen lb0;clear ts;rintro _ ts h' ⟨k,ws,hk,rfl,⟨g,rfl⟩,hws,hlen,t2,t5,t6⟩;have he:Ext H (H++g):=⟨_,rfl⟩;have lr:∀{kk n a},Ext (H++g) kk->aq n (.ptr h.length a) (λz=>kk[z]?)=dK n a (.b V.row):=λ{_ _ _} e=>az ((he.trans e).some mr)
 have hwl:=wE (m:=m) (l:=V.ao.aD.reverse.take k) (λx hx=>hin x (List.mem_reverse.1 (aaP hx)));have htl:(V.ao.aD.reverse.take k).length<=32:=by rw[aaw,abH];omega
 by_cases hlt:k<V.aD.length
 ·have hi:V.aD.length-1-k<V.aD.length:=Om
  have ei:(V.aD.length:Int)-1-k=((V.aD.length-1-k:Nat):Int):=Om
  have e3:decide (0<=(V.aD.length:Int)-1-k)=true:=ZR Om;have e5:IntKind.i64.wrap ((V.aD.length:Int)-1-k-1)=(V.aD.length:Int)-1-((k+1:Nat):Int):=by rw[aZ Om Om];omega
  have ix:aV 4 V.s3 (.i ((V.aD.length:Int)-1-k))=some (cF V.s3 4 (V.aD.length-1-k),.ar):=by rw[ei];exact o.i3.dA hi
  obtain⟨y,hy⟩:∃y,y=V.aD[V.aD.length-1-k]:=⟨_,rfl⟩;have UO:y∈V.aD:=by rw[hy];exact ZZ _
  have ld:∀{kk:ah},Ext (H++g) kk->aq (some 4) (cF V.s3 4 (V.aD.length-1-k)) (λb=>kk[b]?)=some (.agg (bf y),.ar):=λ{kk} e=>by rw[hy];exact o.i3.kR hi ((S4.trans he).trans e)
  have SC:V.ao.aD.reverse.take (k+1)=V.ao.aD.reverse.take k++[y.1]:=by
   have hk':k<V.ao.aD.reverse.length:=by rw[abH];omega
   rw[aay,ZS hk',List.getElem_reverse];simp only[RV.ao,aaW,ZU,Option.toList_some,hy]
  have oy:=(o.e3 y UO).one;have hy3:=o.e3 y UO;unfold bf at ld;refine Rs (A9 t2 t5 t6 e3 @lr @gF ix @ld @oy) ?_;refine WF.ce T.c35 (r35 T (hws.ext Xx) Om _) λg3=>?_
  cases hd:decide (y.1.name∈cX m (V.ao.aD.reverse.take k))with
  |false=>
   refine Rs (A4 t2 t5 t6 e5) ?_;refine⟨_,Om,k+1,ws,Om,rfl,?_,rfl,rfl⟩;rw[SC,qq,ZW (of_decide_eq_false hd)];exact hws.ext Xx
  |true=>
   refine Rs (A3 t2 t5 t6) ?_;obtain⟨H1,XB⟩:∃H1,H1=H++g++[an.b [AV.str y.1.name,.str y.1.gives,.str y.1.line,y.2]]++g3:=⟨_,rfl⟩;obtain⟨bx,Su⟩:∃bx,bx=(H++g).length:=⟨_,rfl⟩;have T0:Ext (H++g) H1:=by rw[XB];exact Xx
   have mx:H1[bx]? =some (.b [AV.str y.1.name,.str y.1.gives,.str y.1.line,y.2]):=by rw[XB,Su];exact(show Ext (H++g++[an.b [AV.str y.1.name,.str y.1.gives,.str y.1.line,y.2]]) _ from Xx).some ba
   have hbl:bx<H1.length:=(ZM.1 mx).1;rw[<-XB,<-Su];refine pC (λh=>h[bx]? =some (.b [AV.str y.1.name,.str y.1.gives,.str y.1.line,y.2])) ?_;refine dD mx rfl rfl ?_;refine Rs t2 ?_;have x2:Ext H1 (H1++[an.b []]):=⟨_,rfl⟩;have m2:(λh:ah=>h[bx]? =some (.b [AV.str y.1.name,.str y.1.gives,.str y.1.line,y.2])) (H1++[an.b []]):=x2.some mx;refine dD m2 rfl rfl ?_;refine Rs (A2 t2 t5) ?_;refine dD m2 rfl rfl ?_;refine Rs (A2 t2 t5) ?_;refine WR.pg (N:=H1.length) ba (Z0 _) (hws.ext (T0.trans x2)) (by simp only[ZU];omega) λs' g5 Xy=>?_
   have x3:Ext H1 (H1++[an.b []]++g5):=Xx;have m3:(λh:ah=>h[bx]? =some (.b [AV.str y.1.name,.str y.1.gives,.str y.1.line,y.2])) (H1++[an.b []]++g5):=x3.some mx;refine Rs (A2 t2 t5) ?_;refine dD m3 rfl rfl ?_;refine Rs (A2 t2 t5) ?_;refine lK m3 (v:=y.2) (λz hz=>?_) ?_
   ·simp only[aQ,aR,aX,aY,reduceAdd,reduceMul,reduceLeDiff,reduceEqDiff,bd,hlen,Z3,Z7,t2,az hz]
   refine Rs (A2 t2 t5) ?_;refine dD m3 rfl rfl ?_;refine Rs (A2 t2 t5) ?_;have Uk:y.1.bA.length<=2:=hin y.1 (aah UO);refine WR.DM (h0:=H1) (ys:=y.1.bA.map ak) Xy (hy3.ext (((S4.trans he).trans T0).trans x3)) De (by simp only[ZU];omega) x3 λs6 g6 hf6 hk6 hl6=>?_
   have m6:(λh:ah=>h[bx]? =some (.b [AV.str y.1.name,.str y.1.gives,.str y.1.line,y.2])) (H1++g6):=(Ext.app g6 (Ext.refl H1)).some mx;refine Rs (A2 t2 t5) ?_;refine pB m6 rfl ?_;refine Rs (A4 t2 t5 t6 e5) ?_;refine⟨_,Om,k+1,s6,Om,rfl,⟨_,by rw[XB];simp only[ZO];rfl⟩,?_,rfl,rfl⟩;rw[SC,qq,ZY (aaQ hd),ZV];exact hf6.aO
 ·have e3:decide (0<=(V.aD.length:Int)-1-k)=false:=ZN Om;have e4:k=V.aD.length:=Om
  refine Rs (A4 t2 t5 t6 e3) ?_;have hns:cX m (V.ao.aD.reverse.take k)=cX m V.ao.aD.reverse:=by rw[e4,<-hml,<-abH,aaj]
  rw[hns]at hws hwl;have eu:(mY V.ao m).map jc.name=(V.aD.filter λx=>decide (x.1.name∈cX m V.ao.aD.reverse)).map λx=>x.1.name:=by
   rw[<-pQ,jw,abt];rfl
  rw[eu];obtain⟨W,hW⟩:∃W,W=cX m V.ao.aD.reverse:=⟨_,rfl⟩;rw[<-hW]at hws hwl ⊢;have hwl2:W.length<=65:=Om
  clear hwl;refine WL.inv T.mix (λn ts h'=>∃(k:Nat) (out:AV),k<=V.aD.length/\n=V.aD.length-k/\Ext (H++g) h'/\Fr (H++g).length h' out 1 ((((V.aD.take k).filter λx=>decide (x.1.name∈W)).map λx=>x.1.name).map ak)/\
    ts.length=60/\slot ts 2=.ptr h.length 0/\slot ts 5=ws/\slot ts 8=out/\slot ts 9=.i k) V.aD.length
   ⟨0,.af,Om,rfl,.refl _,.nil,Sn,(Sq t2),(Sq t5),Sw,gf⟩ ?_
  clear t2 t5 t6 hlen lr hlt e3 e4 hk htl hns;clear ts k;rintro _ ts _ ⟨k,out,Sy,rfl,⟨g2,rfl⟩,hfr,hlen,t2,t5,t8,t9⟩;have SJ:Ext (H++g) (H++g++g2):=⟨_,rfl⟩;have lr:∀{kk n a},Ext (H++g++g2) kk->aq n (.ptr h.length a) (λz=>kk[z]?)=dK n a (.b V.row):=λ{_ _ _} e=>az (((he.trans SJ).trans e).some mr)
  by_cases hlt:k<V.aD.length
  ·have e3:=eF hlt;have e5:=wrapN (n:=k) Om;have ix:=o.i3.dA (kk:=.i64) hlt;obtain⟨y,hy⟩:∃y,y=V.aD[k]:=⟨_,rfl⟩;have lf:∀{kk:ah},Ext (H++g++g2) kk->aq none (j6 V.s3 4 k 0) (λb=>kk[b]?)=some (.str y.1.name,.ar):=λ{kk} e=>o.i3.lO hlt (by rw[<-hy];rfl) (((S4.trans he).trans SJ).trans e)
   have SC:V.aD.take (k+1)=V.aD.take k++[y]:=by rw[hy,aay,ZS hlt];rfl
   refine Rs (kJ t2 t5 t8 t9 @lr @gF o.i3.aL e3 ix @lf) ?_;refine WF.ce T.c35 (r35 T (hws.ext SJ) Om _) λg3=>?_
   cases hd:decide (y.1.name∈W)with
   |false=>
    refine Rs (A5 t2 t5 t8 t9 e5) ?_;exact z70
   |true=>
    refine Rs (A8 t2 t5 t8 t9 @lr @gF ix @lf) ?_;have Tc:((V.aD.take k).filter λx=>decide (x.1.name∈W)).length<=V.aD.length:=aaz (aav _ _) (by rw[aaw];omega);refine WR.fP (h0:=H++g) (cs:=(((V.aD.take k).filter λx=>decide (x.1.name∈W)).map λx=>x.1.name).map ak) (ys:=[ak y.1.name]) ((hfr.app _).app _) (Fr.push (N:=0) (aam _) [ak y.1.name] (by simp[ak])).aO De Si (by simp only[ZU,ZP,ZT];omega) (by rw[ZO,ZO];exact⟨_,rfl⟩) ?_;intro g' SI hff hkp;have hrow:(((V.aD.take k).filter λx=>decide (x.1.name∈W)).map λx=>x.1.name).map ak++[ak y.1.name]=(((V.aD.take (k+1)).filter λx=>decide (x.1.name∈W)).map λx=>x.1.name).map ak:=by
     exact Og
    rw[hrow]at hff;rw[hrow];refine Rs (A5 t2 t5 t8 t9 e5) ?_;exact HD
  ·have e3:=fq hlt;have e4:k=V.aD.length:=Om
   refine Rs (A8 t2 t5 t8 t9 @lr @gF o.i3.aL e3) ?_;rw[e4,aaj]at hfr;exact⟨(S4.trans he).trans SJ,hfr.aO⟩
def r59{V}(o:aC h V)(w:fQ V.ao)(m:By):ay P 59 [.agg V.row,.str m] h (λv h'=>aI h' v 1 (((iT V.ao m).map iH.name).map ak)):=by
 refine .fo 64 T.mix T.c59 ?_;intro ts hlen t0 t1;unfold fn59 gA;have Su:=@aC.box _ _ o;have l:=w.len;have hn32:V.aD.length<=32:=by have:=w.l3;simpa [RV.ao]using this
 have hml:V.ao.aD.length=V.aD.length:=by simp[RV.ao]
 refine Rs (A4 t0 t1 @Su @aE) ?_;refine WF.res T.c58 (r58 T (o.ext Xx) w m) ?_;rintro ns g0 hns;obtain⟨M,hM⟩:∃M,M=mY V.ao m:=⟨_,rfl⟩;rw[<-hM]at hns;have hMm:∀x∈M,x∈V.ao.aD:=λx hx=>by rw[hM]at hx;exact(aa3.1 hx).1
 have hMl:M.length<=32:=by
  have h1:M.length<=V.ao.aD.length:=by rw[hM];unfold mY;exact aav _ _
  omega
 obtain⟨H,hH⟩:∃H,H=h++[an.b V.row]++g0:=⟨_,rfl⟩;have S4:Ext h H:=by rw[hH];exact Xx
 have mr:H[h.length]? =some (.b V.row):=by rw[hH];exact(show Ext (h++[an.b V.row]) _ from Xx).some ba
 rw[<-hH]at hns ⊢;rw[abt]at hns;refine Rs (A2 t0 t1) ?_;obtain⟨F,hF⟩:∃F:List jc->List (By),F=λl=>(l.filter λx=>decide (x.bA=[])).map jc.line:=⟨_,rfl⟩
 refine WL.inv T.mix (λn ts h'=>∃(k:Nat) (out:AV),k<=M.length/\n=M.length-k/\Ext H h'/\Fr H.length h' out 1 ((F (M.take k)).map ak)/\
   ts.length=64/\slot ts 2=.ptr h.length 0/\slot ts 5=ns/\slot ts 6=out/\slot ts 7=.af/\slot ts 8=.i k) M.length
  ⟨0,.af,Om,rfl,.refl _,(by rw[hF];exact .nil),Sn,Sw,Sw,Sw,Sw,gf⟩ ?_
 rintro _ ts _ ⟨k,out,hk,rfl,⟨g,rfl⟩,hfr,hlen,t2,t5,t6,t7,t8⟩;have he:Ext H (H++g):=⟨_,rfl⟩;have lr:∀{kk n a},Ext (H++g) kk->aq n (.ptr h.length a) (λz=>kk[z]?)=dK n a (.b V.row):=λ{_ _ _} e=>az ((he.trans e).some mr)
 have hFl:∀j,(F (M.take j)).length<=M.length:=λj=>by
  rw[hF];simp only[ZU];exact aaz (aav _ _) (by rw[aaw];omega)
 by_cases hlt:k<M.length
 ·have e3:=eF hlt;have e5:=wrapN (n:=k) Om;have ix:=hns.dA (kk:=.i64) hlt;obtain⟨x,hx⟩:∃x,x=M[k]:=⟨_,rfl⟩;have Ty:x∈V.ao.aD:=hMm x (by rw[hx];exact ZZ _);have lf:∀{kk:ah},Ext (H++g) kk->aq none (cF ns 1 k) (λb=>kk[b]?)=some (.str x.name,.ar):=λ{kk} e=>hns.gR hlt (by rw[<-hx];rfl) (he.trans e)
  have UM:x.name∈iS V.ao:=aah Ty;have hps:=cL UM;have UQ:aW (iS V.ao) x.name<V.aD.length:=by simpa [iS,RV.ao]using hps
  have iy:aV 4 V.s3 (.i ((aW (iS V.ao) x.name:Nat):Int))=some (cF V.s3 4 (aW (iS V.ao) x.name),.ar):=o.i3.dA UQ;obtain⟨y,hy⟩:∃y,y=V.aD[aW (iS V.ao) x.name]:=⟨_,rfl⟩;have UO:y∈V.aD:=by rw[hy];exact ZZ _
  have VF:y.1=x:=by
   have e1:=E1 w Ty;rw[iK,cS (f:=jc.name) (l:=V.ao.aD) (d:=CQ) UM]at e1;rw[<-e1,hy];exact z72
  have ly:∀{kk:ah},Ext (H++g) kk->aq (some 4) (cF V.s3 4 (aW (iS V.ao) x.name)) (λb=>kk[b]?)=some (.agg (bf y),.ar):=λ{kk} e=>by rw[hy];exact o.i3.kR UQ ((S4.trans he).trans e)
  have SC:M.take (k+1)=M.take k++[x]:=by rw[hx,aay,ZS hlt];rfl
  have oy:=o.e3 y UO;have YV:=oy.one;unfold bf at ly;refine Rs (pG t2 t5 t6 t7 t8 hns.aL e3 @lr @gF @aE ix @lf) ?_;refine WF.ce T.c55 (r55 T ((o.ext (S4.trans he)).ext Xx) l _) λg1=>?_
  have ei:de (λy:jc×AV=>decide (y.1.name=x.name)) V.aD=(aW (iS V.ao) x.name:Int):=by
   rw[ji];exact eS (f:=λy:jc×AV=>y.1.name) (by rw[<-ji];exact UM)
  rw[ei];refine Rs (A9 t2 t5 t6 t7 t8 @iy @ly @YV oy.aL) ?_;rw[VF];by_cases hin:x.bA=[]
  ·have q:decide ((x.bA.length:Int)=0)=true:=ZR (by rw[hin];rfl);refine Rs (A6 t2 t5 t6 t7 t8 q) ?_;have Tc:=hFl k;refine WR.fP (h0:=H) (cs:=(F (M.take k)).map ak) (ys:=[ak x.line]) (((hfr.app _).app _).app _) (Fr.push (N:=0) (aam _) [ak x.line] (by simp[ak])).aO De Si (by simp only[ZU,ZP,ZT];omega) (by simp only[ZO];exact⟨_,rfl⟩) ?_;intro g' SI hff hkp;have hrow:(F (M.take k)).map ak++[ak x.line]=(F (M.take (k+1))).map ak:=by
    rw[SC,hF];simp only[abf,abA,abP,hin,Z5,Z7,ZV,aaJ,abd]
   rw[hrow]at hff;rw[hrow];refine Rs (A6 t2 t5 t6 t7 t8 e5) ?_;exact HD
  ·have q:decide ((x.bA.length:Int)=0)=false:=ZN (λz=>hin (aaO.1 Om));refine Rs (A7 t2 t5 t6 t7 t8 q e5) ?_;refine⟨_,Om,k+1,out,Om,rfl,?_,rfl,rfl⟩;have:F (M.take (k+1))=F (M.take k):=by
    rw[SC,hF];simp only[abf,abA,abP,hin,aac,aaC,Z3,aaf]
   rw[this];exact(hfr.app _).app _
 ·have e3:=fq hlt;have e4:k=M.length:=Om
  rw[e4,aaj]at hfr;have Tc:=hFl M.length;rw[aaj]at Tc;have hsrc:∀y∈V.lines,decide (y.name∈F M)=decide (y.name∈(mY V.ao m).map jc.line):=λy hy=>by
   refine abB.2 ?_;rw[<-hM,hF];simp only[aal,aa3,aaA];constructor
   ·rintro⟨x,⟨h1,_⟩,h2⟩;exact⟨x,h1,h2⟩
   ·rintro⟨x,h1,h2⟩;refine⟨x,⟨h1,?_⟩,h2⟩;rcases(w.md x (hMm x h1)).1 with⟨a,_⟩|⟨_,a⟩
    ·exact a
    ·have hnn:=w.n0.nm y.name (aah hy);rw[<-h2,a]at hnn;cases hnn
  have eu:(iT V.ao m).map iH.name=(V.lines.filter λy=>decide (y.name∈F M)).map iH.name:=by
   rw[iT];congr 1;exact(List.filter_congr λy hy=>hsrc y hy).symm
  rw[eu];obtain⟨W,hW⟩:∃W,W=F M:=⟨_,rfl⟩;rw[<-hW]at hfr Tc ⊢;have hws:=hfr.aO;refine Rs (A7 t2 t5 t6 t7 t8 hns.aL e3) ?_;refine WL.inv T.mix (λn ts h'=>∃(k:Nat) (res:AV),k<=V.lines.length/\n=V.lines.length-k/\Ext (H++g) h'/\Fr (H++g).length h' res 1 ((((V.lines.take k).filter λy=>decide (y.name∈W)).map iH.name).map ak)/\
    ts.length=64/\slot ts 2=.ptr h.length 0/\slot ts 6=out/\slot ts 7=res/\slot ts 10=.i k) V.lines.length
   ⟨0,.af,Om,rfl,.refl _,.nil,Sn,(Sq t2),(Sq t6),(Sq t7),gf⟩ ?_
  clear t2 t5 t6 t7 t8 hlen lr hlt e3 e4 hk;clear ts k;rintro _ ts _ ⟨k,res,Sy,rfl,⟨g2,rfl⟩,Ve,hlen,t2,t6,t7,t10⟩;have SJ:Ext (H++g) (H++g++g2):=⟨_,rfl⟩;have lr:∀{kk n a},Ext (H++g++g2) kk->aq n (.ptr h.length a) (λz=>kk[z]?)=dK n a (.b V.row):=λ{_ _ _} e=>az (((he.trans SJ).trans e).some mr)
  have TF:=l.l0;by_cases hlt:k<V.lines.length
  ·have e3:=eF hlt;have e5:=wrapN (n:=k) Om;have ix:=o.i0.dA (kk:=.i64) hlt;obtain⟨y,hy⟩:∃y,y=V.lines[k]:=⟨_,rfl⟩;have lf:∀{kk:ah},Ext (H++g++g2) kk->aq none (j6 V.s0 3 k 0) (λb=>kk[b]?)=some (.str y.name,.ar):=λ{kk} e=>o.i0.lO hlt (by rw[<-hy];rfl) (((S4.trans he).trans SJ).trans e)
   have SC:V.lines.take (k+1)=V.lines.take k++[y]:=by rw[hy,aay,ZS hlt];rfl
   refine Rs (kJ t2 t6 t7 t10 @lr @gG o.i0.aL e3 ix @lf) ?_;refine WF.ce T.c35 (r35 T (hws.ext SJ) Om _) λg3=>?_
   cases hd:decide (y.name∈W)with
   |false=>
    refine Rs (A5 t2 t6 t7 t10 e5) ?_;refine⟨_,Om,k+1,res,Om,rfl,?_,rfl,rfl⟩;rw[SC,abf];simp only[abA,abP,hd,aaC,Z3,aaf];exact Ve.app _
   |true=>
    refine Rs (A8 t2 t6 t7 t10 @lr @gG ix @lf) ?_;have hfl2:((V.lines.take k).filter λy=>decide (y.name∈W)).length<=V.lines.length:=aaz (aav _ _) (by rw[aaw];omega);refine WR.fP (h0:=H++g) (cs:=(((V.lines.take k).filter λy=>decide (y.name∈W)).map iH.name).map ak) (ys:=[ak y.name]) ((Ve.app _).app _) (Fr.push (N:=0) (aam _) [ak y.name] (by simp[ak])).aO De Si (by simp only[ZU,ZP,ZT];omega) (by rw[ZO,ZO];exact⟨_,rfl⟩) ?_;intro g' SI hff hkp;have hrow:(((V.lines.take k).filter λy=>decide (y.name∈W)).map iH.name).map ak++[ak y.name]=(((V.lines.take (k+1)).filter λy=>decide (y.name∈W)).map iH.name).map ak:=by
     exact Og
    rw[hrow]at hff;rw[hrow];refine Rs (A5 t2 t6 t7 t10 e5) ?_;exact HD
  ·have e3:=fq hlt;have e4:k=V.lines.length:=Om
   refine Rs (A8 t2 t6 t7 t10 @lr @gG o.i0.aL e3) ?_;rw[e4,aaj]at Ve;exact⟨(S4.trans he).trans SJ,Ve.aO⟩
def r61{V}(o:aC h V)(w:fQ V.ao){p}(hp:p∈j8 V.ao):ay P 61 [.agg V.row,.str p] h (λv h'=>aI h' v 1 ((qo V.ao p).map ak)):=by
 refine .fo 26 T.mix T.c61 ?_;intro ts hlen t0 t1;unfold fn61;have Su:=@aC.box _ _ o;have l:=w.len;have hlt:=cL hp;have SW:aW (j8 V.ao) p<V.aK.length:=by simpa [j8,RV.ao]using hlt
 have ix:aV 4 V.s5 (.i ((aW (j8 V.ao) p:Nat):Int))=some (cF V.s5 4 (aW (j8 V.ao) p),.ar):=o.i5.dA SW;have ev:iQ V.ao p=V.aK[aW (j8 V.ao) p]:=cS (f:=pI.name) (l:=V.aK) hp;have ld:∀{k':ah},Ext h k'->aq none (j6 V.s5 4 (aW (j8 V.ao) p) 1) (λb=>k'[b]?)=some (.str (iQ V.ao p).zS,.ar):=λ{k'} e=>by
  rw[ev];exact o.i5.lO SW rfl e
 have hpm:iQ V.ao p∈V.ao.aK:=by rw[ev];exact ZZ _
 have hj:(iQ V.ao p).zS∈gD V.ao:=(w.pc _ hpm).1;obtain⟨j,hjj⟩:∃j,j=(iQ V.ao p).zS:=⟨_,rfl⟩;rw[<-hjj]at ld hj;have hlj:=cL hj;have hlj':aW (gD V.ao) j<V.aG.length:=by simpa [gD,RV.ao]using hlj
 have iy:aV 3 V.s4 (.i ((aW (gD V.ao) j:Nat):Int))=some (cF V.s4 3 (aW (gD V.ao) j),.ar):=o.i4.dA hlj';obtain⟨y,hy⟩:∃y,y=V.aG[aW (gD V.ao) j]:=⟨_,rfl⟩;have UO:y∈V.aG:=by rw[hy];exact ZZ _
 have VF:y.1=gj V.ao j:=by
  rw[gj,cS (f:=kI.name) (l:=V.ao.aG) (d:=wD) hj,hy];exact z72
 have ly:∀{k':ah},Ext h k'->aq (some 3) (cF V.s4 3 (aW (gD V.ao) j)) (λb=>k'[b]?)=some (.agg (bO y),.ar):=λ{k'} e=>by rw[hy];exact o.i4.kR hlj' e
 have oy:=(o.e4 y UO).one;unfold bO at ly;refine Rs (A6 t0 t1 @Su @gq @gE @aE) ?_;refine WF.ce T.c57 (r57 T (o.ext Xx) l p) λg1=>?_
 have ei:de (λy:pI=>decide (y.name=p)) V.aK=(aW (j8 V.ao) p:Int):=eS (f:=λy:pI=>y.name) hp;rw[ei];refine Rs (A4 t0 t1 ix @ld) ?_;refine WF.ce T.c56 (r56 T (o.ext Xx) l j) λg2=>?_
 have ej:de (λy:kI×AV=>decide (y.1.name=j)) V.aG=(aW (gD V.ao) j:Int):=by
  rw[gK];exact eS (f:=λy:kI×AV=>y.1.name) (by rw[<-gK];exact hj)
 rw[ej];refine Rs (A6 t0 t1 @iy @ly @oy @aE) ?_;refine WF.res T.c59 (r59 T (o.ext Xx) w _) ?_;rintro v3 g3 h3;have hsl:((iT V.ao y.1.mod).map iH.name).length<2^40:=by
  have h1:(iT V.ao y.1.mod).length<=V.ao.lines.length:=by unfold iT;exact aav _ _
  have:=w.l0;rw[ZU];omega
 refine Rs (A2 t0 t1) ?_;refine WF.res T.c127 (r127 T (o.ext Xx) l h3 hsl) ?_;rintro v4 g4 h4;refine Rs (A2 t0 t1) ?_;rw[qo,<-hjj,<-VF];exact h4
end
def vL{s c}:jq (s++[c])=(339*jq s+(c.toNat:Int)).tmod 9999749:=by simp[jq]
theorem zj:∀(s:By) (a:Int),0<=a/\a<9999749->0<=s.foldl (λx c=>(339*x+(c.toNat:Int)).tmod 9999749) a/\s.foldl (λx c=>(339*x+(c.toNat:Int)).tmod 9999749) a<9999749
 |[],_,h=>h
 |c::s,a,h=>by
  rw[ab4];exact zj s _ ⟨Int.tmod_nonneg _ Om,Int.tmod_lt_of_pos _ Om⟩
def nQ(s:By):0<=jq s/\jq s<9999749:=zj s 1 Om
def uy(s:By):(ee (jq s)).length<=7:=by
 have:=nQ s;rw[jt];exact lA (k:=6) Om
def nP(s:By):(jo s).length=7:=by
 have:=uy s;unfold jo;rw[ZL,aaV];omega
theorem rT{c}:∀{xs},Lib.join xs [c]=iv c xs
 |[]=>rfl
 |[x]=>Lib.join_one x [c]
 |x::y::r=>by
  rw[jV Si,<-rT (xs:=y::r),Lib.join_cons,Lib.join_cons];simp[Lib.joinTail]
def C4:∀{xs},Lib.join xs []=xs.flatten
 |[]=>rfl
 |x::r=>by rw[Lib.join_cons];simp[Lib.joinTail]
section
variable {P:Program}(T:fD P) (Z:nj P) {h:ah}
include T Z
set_option maxRecDepth 10000 in
def r187(s:By)(hs:s.length<=2^40)(w:Pw h):ay P 187 [.str s] h (λv _=>v=.str (jo s)):=by
 refine .jd 28 T.mix T.c187 ?_;intro ts hlen t0;unfold fn187 gA;refine Rs t0 ?_;refine WL.inv T.mix (λn ts' h'=>∃k:Nat,k<=s.length/\n=s.length-k/\h' =h/\ts'.length=28/\slot ts' 0=.str s/\slot ts' 3=.i (jq (s.take k))/\slot ts' 7=.i s.length/\slot ts' 8=.i k) s.length
  ⟨0,Om,rfl,rfl,(Sq t0),(Sq t0),gf,(Sq t0),gf⟩ ?_
 rintro _ ts' _ ⟨k,hk,rfl,rfl,S3,u0,u3,u7,u8⟩;clear hlen t0;have hlen:=S3;by_cases hlt:k<s.length
 ·have e3:=eF hlt;have hb:=nQ (s.take k);have hcn:=UInt8.toNat_lt s[k];have w1:IntKind.i64.wrap (339*jq (s.take k))=339*jq (s.take k):=aZ Om Om;have w2:IntKind.i64.wrap (s[k].toNat:Int)=(s[k].toNat:Int):=aZ Om Om;have w3:IntKind.i64.wrap (339*jq (s.take k)+(s[k].toNat:Int))=339*jq (s.take k)+(s[k].toNat:Int):=aZ Om Om;have er:=o9 (k:=.i64) (a:=339*jq (s.take k)+(s[k].toNat:Int)) (b:=9999749) De;rw[<-vL,<-cY hlt]at er
  repeat (first|simp (config:={maxSteps:=1000000}) only[aQ,aR,aX,aY,reduceAdd,reduceMul,reduceLeDiff,reduceEqDiff,bd,hlen,Z3,Z7,u0,u3,u7,u8,e3,cM hlt,w1,w2,w3,er,wrapN (show k+1<2^63 by omega)]|simp (config:={maxSteps:=1000000}) (disch:=first|(simp only[ZL,ZP,ZT]<;>omega)|rfl|omega|fail) only[eD,aQ,aR,aX,aY,reduceAdd,reduceMul,reduceLeDiff,reduceEqDiff,bd,hlen,Z3,Z7,u0,u3,u7,u8,e3,cM hlt,w1,w2,w3,er,wrapN (show k+1<2^63 by omega)])
  exact KB
 ·have e3:=fq hlt;have ek:k=s.length:=Om
  rw[ek,aaj]at u3;have hb:=nQ s;have hl:=uy s;refine Rs (A5 @u0 @u3 @u7 @u8 e3) ?_;refine WF.ce T.c113 (Z.itoa Om Om w) λg=>?_
  rw[iw hb.1];have w1:IntKind.i64.wrap (7-((ee (jq s)).length:Int))=((7-(ee (jq s)).length:Nat):Int):=by rw[aZ Om Om];omega
  refine Rs (A2 @u0 @w1) ?_;refine WF.ce T.c252 (Z.rep Om) λg2=>?_
  refine Rs (A2 @u0 (ep (show(List.replicate (7-(ee (jq s)).length) (48:UInt8)).length+(ee (jq s)).length<2^62 by rw[aaV];omega))) ?_;rfl
def ze{x}(h0:0<=x)(h1:x<2^62)(w:Pw h):bH P (.func (.func 113) [] []) [.i x] h (λv _=>v=.str (ee x)):=by
 rw[<-iw h0];exact bH.of (a:=[]) (c:=[]) T.c113 (Z.itoa Om Om w)
end
structure Q2(e:fi):Prop where
 num:0<=e.num/\e.num<2^62
 bQ:∀x∈e.bQ,0<=x/\x<2^62
 nl:e.names.length<=2^30
 vl:e.bQ.length<=2^30
 bl:(dX e).length<=2^38
section
variable {P:Program}(T:fD P) (Z:nj P) {h:ah}
include T Z
set_option maxRecDepth 10000 in
def r186{x}(ox:bj h x)(en:Q2 x.ev)(w:Pw h):ay P 186 [.agg x.row] h (λv _=>v=.str (dX x.ev)):=by
 refine .jd 19 T.mix T.c186 ?_;intro ts hlen t0;unfold fn186 gA;have Su:=@bj.box _ _ ox;have hnl:=en.nl;have Tf:=en.vl;refine Rs (A5 t0 @Su @jY @bC @aP) ?_;refine WF.ce T.c113 (Z.itoa (by have:=en.num;omega) (by have:=en.num;omega) (w.ext Xx)) λg1=>?_
 rw[iw en.num.1];refine Rs (A4 t0 @jY @bC @aP) ?_;have hF:=Fr.push (N:=h.length) (h:=h++[an.b x.row]++g1) (es:=1) (by simp only[ZL];omega) (([ee x.ev.num,x.ev.kind] :List (By)).map ak) (by simp[ak]);refine WR.DM (h0:=h) (cs:=([ee x.ev.num,x.ev.kind] :List (By)).map ak) (ys:=x.ev.names.map ak) hF (ox.n.ext Xx) De (by simp;omega) Xx ?_;intro s' g hfr hkp hle;rw[<-ZV]at hfr;have Ta:(h++g)[h.length]? =some (.b x.row):=by
  rw[hkp _ (by simp only[ZL,Z6];omega) (λe=>by have e2:(h++[an.b x.row]++g1).length=h.length:=aaN e;simp only[ZL,Z6]at e2;omega)];simp
 have lb:∀{k:ah}{n':Option Nat}{a:Nat},Ext (h++g) k->aq n' (.ptr h.length a) (λz=>k[z]?)=dK n' a (.b x.row):=λe=>az (e.some Ta)
 refine Rs (A3 t0 @lb @bg) ?_;refine WF.res T.c199 (r199 T (ox.v.ext Xx) Om ee (λy hy k ek=>ze T Z (en.bQ y hy).1 (en.bQ y hy).2 (w.ext (Ext.trans Xx ek)))) ?_;intro v g2 hv;refine Rs t0 ?_;refine WR.DM (h0:=h) (hfr.app g2) hv.aO De (by simp;omega) Xx ?_;intro s2 g3 Ve hkp2 Vd;rw[<-ZV]at Ve;refine Rs t0 ?_;have hbl:=en.bl;refine WF.ce T.c114 (Z.join Ve.aO ⟨by rw[rT];show(dX x.ev).length<=_;omega,by simp;omega⟩) λg4=>?_
 refine Rs t0 ?_;rw[rT];rfl
set_option maxRecDepth 10000 in
def r97{x}(ox:bj h x)(en:Q2 x.ev)(w:Pw h):ay P 97 [.agg x.row] h (λv _=>v=.str (lU x.ev)):=by
 refine .jd 12 T.mix T.c97 ?_;intro ts hlen t0;unfold fn97 gA;have Su:=@bj.box _ _ ox;have hbl:=en.bl;refine Rs (A3 t0 @Su @bS) ?_;refine WF.ce T.c186 (r186 T Z (ox.ext Xx) en (w.ext Xx)) λg=>?_
 refine Rs (A2 t0 (ep (show(dX x.ev).length+([35] :By).length<2^62 by simp;omega))) ?_;refine WF.ce T.c187 (r187 T Z _ Om (w.ext Xx)) λg2=>?_
 have h7:=nP (dX x.ev);refine Rs (A3 t0 (ep (show(dX x.ev++[35]).length+(jo (dX x.ev)).length<2^62 by simp;omega)) (ep (show(dX x.ev++[35]++jo (dX x.ev)).length+([10] :By).length<2^62 by simp;omega))) ?_;rfl
theorem CB{e}:(lU e).length=(dX e).length+9:=by
 have:=nP (dX e);unfold lU;simp;omega
end
def Ext.jD{h W b X}(e:Ext h W)(hb:h.length<=b):Ext h (W.set b X):=by
 obtain⟨g,rfl⟩:=e;exact⟨g.set (b-h.length) X,aaE _ _ hb⟩
structure fF(B W0:ah)(b:Nat)(K:Nat->Prop)(W:ah)(U:RV):Prop where
 bk:b9 B.length W b U
 ex:Ext B W
 ln:W0.length<=W.length
 kp:∀i,K i->W[i]? =W0[i]?
 kl:∀i,K i->i<W0.length/\i≠b/\some i∉U.bl
section
variable {B W0 W W2:ah}{b:Nat}{K:Nat->Prop}{U:RV}(s:fF B W0 b K W U)
include s
def fF.grow(e:Ext W W2):fF B W0 b K W2 U:=by
 obtain⟨g,rfl⟩:=e;refine⟨s.bk.app g,s.ex.trans ⟨g,rfl⟩,aaz s.ln Si,λi hi=>?_,s.kl⟩;rw[ZQ (aaG (s.kl i hi).1 s.ln)];exact s.kp i hi
omit s in
theorem QG{L s' i}(h:some i∈{U with lines:=L,s0:=s'}.bl):some i∈U.bl\/sB s' =some i:=by
 exact z20
def fF.p0{L s'}(hff:Fr B.length W2 s' 3 (L.map cC))(hn:∀i,sB s' =some i->sB U.s0=some i\/W.length<=i)(hk:∀i,i<W.length->sB U.s0≠some i->W2[i]? =W[i]?)(hx:Ext B W2)(hl:W.length<=W2.length):
  fF B W0 b K (W2.set b (.b (U.row.set 1 s'))) {U with lines:=L,s0:=s'}:=by
 have hbl:=s.bk.lt;have SK:sB U.s0≠some b:=λz=>s.bk.ne (by rw[<-z];simp[RV.bl])
 have hsb:∀i,sB s' =some i->i≠b:=λi hi z=>by
  exact z59
 obtain⟨X,hX⟩:∃X,X=an.b (U.row.set 1 s'):=⟨_,rfl⟩;rw[<-hX];have g2:∀i,i≠b->(W2.set b X)[i]? =W2[i]? :=λi hi=>Z4 (abe hi)
 have gb:(W2.set b X)[b]? =some X:=Z8 Om;refine⟨s.bk.NY (hff.aB λi hi=>g2 i (hsb i hi)) hn (by rw[hX]at gb ⊢;exact gb) (λi hi h1 h2=>(g2 i h2).trans (hk i hi h1)),hx.jD s.bk.hN,by rw[aax];exact aaz s.ln hl,λi hi=>?_,λi hi=>?_⟩
 ·exact J1
 ·obtain⟨h1,h2,h3⟩:=s.kl i hi;refine⟨h1,h2,λhm=>?_⟩;rcases QG hm with z|z
  ·exact h3 z
  ·exact z91
def fF.q0{L}(hff:Fr B.length W2 U.s0 3 (L.map cC))(hk:∀i,i<W.length->sB U.s0≠some i->W2[i]? =W[i]?)(hx:Ext B W2)(hl:W.length<=W2.length):fF B W0 b K W2 {U with lines:=L}:=by
 have hbl:=s.bk.lt;have SK:sB U.s0≠some b:=λz=>s.bk.ne (by rw[<-z];simp[RV.bl])
 refine⟨s.bk.NY (s:=U.s0) hff (λi hi=>.inl hi) ((hk b hbl SK).trans s.bk.m) (λi hi h1 _=>hk i hi h1),hx,aaz s.ln hl,λi hi=>?_,s.kl⟩;exact Lg
omit s in
theorem QF{L s' i}(h:some i∈{U with aH:=L,s1:=s'}.bl):some i∈U.bl\/sB s' =some i:=by
 exact z20
def fF.p1{L s'}(hff:Fr B.length W2 s' 2 (L.map eP))(hn:∀i,sB s' =some i->sB U.s1=some i\/W.length<=i)(hk:∀i,i<W.length->sB U.s1≠some i->W2[i]? =W[i]?)(hx:Ext B W2)(hl:W.length<=W2.length):
  fF B W0 b K (W2.set b (.b (U.row.set 2 s'))) {U with aH:=L,s1:=s'}:=by
 have hbl:=s.bk.lt;have SK:sB U.s1≠some b:=λz=>s.bk.ne (by rw[<-z];simp[RV.bl])
 have hsb:∀i,sB s' =some i->i≠b:=λi hi z=>by
  exact z59
 obtain⟨X,hX⟩:∃X,X=an.b (U.row.set 2 s'):=⟨_,rfl⟩;rw[<-hX];have g2:∀i,i≠b->(W2.set b X)[i]? =W2[i]? :=λi hi=>Z4 (abe hi)
 have gb:(W2.set b X)[b]? =some X:=Z8 Om;refine⟨s.bk.RJ (hff.aB λi hi=>g2 i (hsb i hi)) hn (by rw[hX]at gb ⊢;exact gb) (λi hi h1 h2=>(g2 i h2).trans (hk i hi h1)),hx.jD s.bk.hN,by rw[aax];exact aaz s.ln hl,λi hi=>?_,λi hi=>?_⟩
 ·exact J1
 ·obtain⟨h1,h2,h3⟩:=s.kl i hi;refine⟨h1,h2,λhm=>?_⟩;rcases QF hm with z|z
  ·exact h3 z
  ·exact z91
omit s in
theorem QB{L s' i}(h:some i∈{U with aK:=L,s5:=s'}.bl):some i∈U.bl\/sB s' =some i:=by
 exact z20
def fF.p5{L s'}(hff:Fr B.length W2 s' 4 (L.map dG))(hn:∀i,sB s' =some i->sB U.s5=some i\/W.length<=i)(hk:∀i,i<W.length->sB U.s5≠some i->W2[i]? =W[i]?)(hx:Ext B W2)(hl:W.length<=W2.length):
  fF B W0 b K (W2.set b (.b (U.row.set 6 s'))) {U with aK:=L,s5:=s'}:=by
 have hbl:=s.bk.lt;have SK:sB U.s5≠some b:=λz=>s.bk.ne (by rw[<-z];simp[RV.bl])
 have hsb:∀i,sB s' =some i->i≠b:=λi hi z=>by
  exact z59
 obtain⟨X,hX⟩:∃X,X=an.b (U.row.set 6 s'):=⟨_,rfl⟩;rw[<-hX];have g2:∀i,i≠b->(W2.set b X)[i]? =W2[i]? :=λi hi=>Z4 (abe hi)
 have gb:(W2.set b X)[b]? =some X:=Z8 Om;refine⟨s.bk.NX (hff.aB λi hi=>g2 i (hsb i hi)) hn (by rw[hX]at gb ⊢;exact gb) (λi hi h1 h2=>(g2 i h2).trans (hk i hi h1)),hx.jD s.bk.hN,by rw[aax];exact aaz s.ln hl,λi hi=>?_,λi hi=>?_⟩
 ·exact J1
 ·obtain⟨h1,h2,h3⟩:=s.kl i hi;refine⟨h1,h2,λhm=>?_⟩;rcases QB hm with z|z
  ·exact h3 z
  ·exact z91
def fF.q5{L}(hff:Fr B.length W2 U.s5 4 (L.map dG))(hk:∀i,i<W.length->sB U.s5≠some i->W2[i]? =W[i]?)(hx:Ext B W2)(hl:W.length<=W2.length):fF B W0 b K W2 {U with aK:=L}:=by
 have hbl:=s.bk.lt;have SK:sB U.s5≠some b:=λz=>s.bk.ne (by rw[<-z];simp[RV.bl])
 refine⟨s.bk.NX (s:=U.s5) hff (λi hi=>.inl hi) ((hk b hbl SK).trans s.bk.m) (λi hi h1 _=>hk i hi h1),hx,aaz s.ln hl,λi hi=>?_,s.kl⟩;exact Lg
omit s in
theorem QE{y t s' i}(h:some i∈{U with aj:=U.aj++[(y,t)],s2:=s'}.bl):some i∈U.bl\/sB s' =some i\/sB t=some i:=by
 exact z20
def fF.p2{y t s'}(hff:Fr B.length W2 s' 3 ((U.aj++[(y,t)]).map bt))(ht:Fr B.length W2 t 1 (y.aH.map ak))(hn:∀i,sB s' =some i->sB U.s2=some i\/W.length<=i)(hnt:∀i,sB t=some i->W.length<=i/\sB s'≠some i)(hk:∀i,i<W.length->sB U.s2≠some i->W2[i]? =W[i]?)(hx:Ext B W2)(hl:W.length<=W2.length):
  fF B W0 b K (W2.set b (.b (U.row.set 3 s'))) {U with aj:=U.aj++[(y,t)],s2:=s'}:=by
 have hbl:=s.bk.lt;have SK:sB U.s2≠some b:=λz=>s.bk.ne (by rw[<-z];simp[RV.bl])
 have hsb:∀i,sB s' =some i->i≠b:=λi hi z=>by
  exact z59
 have htb:∀i,sB t=some i->i≠b:=λi hi z=>by
  exact Aw
 obtain⟨X,hX⟩:∃X,X=an.b (U.row.set 3 s'):=⟨_,rfl⟩;rw[<-hX];have g2:∀i,i≠b->(W2.set b X)[i]? =W2[i]? :=λi hi=>Z4 (abe hi)
 have gb:(W2.set b X)[b]? =some X:=Z8 Om;refine⟨s.bk.RI (hff.aB λi hi=>g2 i (hsb i hi)) (ht.aB λi hi=>g2 i (htb i hi)) hn hnt (by rw[hX]at gb ⊢;exact gb) (λi hi h1 h2=>(g2 i h2).trans (hk i hi h1)),hx.jD s.bk.hN,by rw[aax];exact aaz s.ln hl,λi hi=>?_,λi hi=>?_⟩
 ·exact J1
 ·obtain⟨h1,h2,h3⟩:=s.kl i hi;have XS:=s.ln;refine⟨h1,h2,λhm=>?_⟩;rcases QE hm with z|z|z
  ·exact h3 z
  ·rcases hn i z with z|z
   ·exact HM
   ·omega
  ·have:=(hnt i z).1;omega
omit s in
theorem QD{y t s' i}(h:some i∈{U with aD:=U.aD++[(y,t)],s3:=s'}.bl):some i∈U.bl\/sB s' =some i\/sB t=some i:=by
 exact z20
def fF.p3{y t s'}(hff:Fr B.length W2 s' 4 ((U.aD++[(y,t)]).map bf))(ht:Fr B.length W2 t 1 (y.bA.map ak))(hn:∀i,sB s' =some i->sB U.s3=some i\/W.length<=i)(hnt:∀i,sB t=some i->W.length<=i/\sB s'≠some i)(hk:∀i,i<W.length->sB U.s3≠some i->W2[i]? =W[i]?)(hx:Ext B W2)(hl:W.length<=W2.length):
  fF B W0 b K (W2.set b (.b (U.row.set 4 s'))) {U with aD:=U.aD++[(y,t)],s3:=s'}:=by
 have hbl:=s.bk.lt;have SK:sB U.s3≠some b:=λz=>s.bk.ne (by rw[<-z];simp[RV.bl])
 have hsb:∀i,sB s' =some i->i≠b:=λi hi z=>by
  exact z59
 have htb:∀i,sB t=some i->i≠b:=λi hi z=>by
  exact Aw
 obtain⟨X,hX⟩:∃X,X=an.b (U.row.set 4 s'):=⟨_,rfl⟩;rw[<-hX];have g2:∀i,i≠b->(W2.set b X)[i]? =W2[i]? :=λi hi=>Z4 (abe hi)
 have gb:(W2.set b X)[b]? =some X:=Z8 Om;refine⟨s.bk.RH (hff.aB λi hi=>g2 i (hsb i hi)) (ht.aB λi hi=>g2 i (htb i hi)) hn hnt (by rw[hX]at gb ⊢;exact gb) (λi hi h1 h2=>(g2 i h2).trans (hk i hi h1)),hx.jD s.bk.hN,by rw[aax];exact aaz s.ln hl,λi hi=>?_,λi hi=>?_⟩
 ·exact J1
 ·obtain⟨h1,h2,h3⟩:=s.kl i hi;have XS:=s.ln;refine⟨h1,h2,λhm=>?_⟩;rcases QD hm with z|z|z
  ·exact h3 z
  ·rcases hn i z with z|z
   ·exact HM
   ·omega
  ·have:=(hnt i z).1;omega
omit s in
theorem QC{y t s' i}(h:some i∈{U with aG:=U.aG++[(y,t)],s4:=s'}.bl):some i∈U.bl\/sB s' =some i\/sB t=some i:=by
 exact z20
def fF.p4{y t s'}(hff:Fr B.length W2 s' 3 ((U.aG++[(y,t)]).map bO))(ht:Fr B.length W2 t 1 (y.bz.map aJ))(hn:∀i,sB s' =some i->sB U.s4=some i\/W.length<=i)(hnt:∀i,sB t=some i->W.length<=i/\sB s'≠some i)(hk:∀i,i<W.length->sB U.s4≠some i->W2[i]? =W[i]?)(hx:Ext B W2)(hl:W.length<=W2.length):
  fF B W0 b K (W2.set b (.b (U.row.set 5 s'))) {U with aG:=U.aG++[(y,t)],s4:=s'}:=by
 have hbl:=s.bk.lt;have SK:sB U.s4≠some b:=λz=>s.bk.ne (by rw[<-z];simp[RV.bl])
 have hsb:∀i,sB s' =some i->i≠b:=λi hi z=>by
  exact z59
 have htb:∀i,sB t=some i->i≠b:=λi hi z=>by
  exact Aw
 obtain⟨X,hX⟩:∃X,X=an.b (U.row.set 5 s'):=⟨_,rfl⟩;rw[<-hX];have g2:∀i,i≠b->(W2.set b X)[i]? =W2[i]? :=λi hi=>Z4 (abe hi)
 have gb:(W2.set b X)[b]? =some X:=Z8 Om;refine⟨s.bk.RG (hff.aB λi hi=>g2 i (hsb i hi)) (ht.aB λi hi=>g2 i (htb i hi)) hn hnt (by rw[hX]at gb ⊢;exact gb) (λi hi h1 h2=>(g2 i h2).trans (hk i hi h1)),hx.jD s.bk.hN,by rw[aax];exact aaz s.ln hl,λi hi=>?_,λi hi=>?_⟩
 ·exact J1
 ·obtain⟨h1,h2,h3⟩:=s.kl i hi;have XS:=s.ln;refine⟨h1,h2,λhm=>?_⟩;rcases QC hm with z|z|z
  ·exact h3 z
  ·rcases hn i z with z|z
   ·exact HM
   ·omega
  ·have:=(hnt i z).1;omega
def fF.qJ{i}(hi:i<U.aG.length){y}(hy:y.name=U.aG[i].1.name/\y.mod=U.aG[i].1.mod)(hf:Fr B.length W2 U.aG[i].2 1 (y.bz.map aJ))(hk:∀j,j<W.length->sB U.aG[i].2≠some j->W2[j]? =W[j]?)(hx:Ext B W2)(hl:W.length<=W2.length):
  fF B W0 b K W2 {U with aG:=U.aG.set i (y,U.aG[i].2) }:=by
 have Ua:sB U.aG[i].2∈U.bl:=by simp only[RV.bl,ZX,aal];exact .inr ⟨_,ZZ hi,rfl⟩
 have hbl:{U with aG:=U.aG.set i (y,U.aG[i].2) }.bl=U.bl:=by
  simp only[RV.bl,abU];congr 1;have:sB U.aG[i].2=(U.aG.map λx=>sB x.2)[i]'(by simpa using hi):=Si
  exact z194
 refine⟨s.bk.RF hi hy hf hk,hx,aaz s.ln hl,λj hj=>?_,λj hj=>by rw[hbl];exact s.kl j hj⟩;obtain⟨h1,h2,h3⟩:=s.kl j hj;rw[hk j (aaG h1 s.ln) (λz=>h3 (by rw[<-z];exact Ua))];exact s.kp j hj
omit s in
theorem QA{i j y t}(h:some j∈{U with aj:=U.aj.set i (y,t) }.bl):some j∈U.bl\/sB t=some j:=by
 simp only[RV.bl,ZX,aal]at h ⊢;rcases h with((h|⟨x,hx,h⟩)|h)|h
 ·exact .inl (.inl (.inl (.inl h)))
 ·rcases abz hx with hx|hx
  ·exact .inl (.inl (.inl (.inr ⟨x,hx,h⟩)))
  ·rw[hx]at h;exact .inr h
 ·exact .inl (.inl (.inr h))
 ·exact .inl (.inr h)
def fF.qS{i}(hi:i<U.aj.length){y t}(hs:Fr B.length W2 U.s2 3 ((U.aj.set i (y,t)).map bt))(ht:Fr B.length W2 t 1 (y.aH.map ak))(hnt:∀j,sB t=some j->W.length<=j)
  (hk:∀j,j<W.length->sB U.s2≠some j->sB U.aj[i].2≠some j->W2[j]? =W[j]?) (hx:Ext B W2) (hl:W.length<=W2.length):fF B W0 b K W2 {U with aj:=U.aj.set i (y,t) }:=by
 have m1:sB U.s2∈U.bl:=by simp[RV.bl]
 have m2:sB U.aj[i].2∈U.bl:=by simp only[RV.bl,ZX,aal];exact .inl (.inl (.inr ⟨_,ZZ hi,rfl⟩))
 refine⟨s.bk.RE hi hs ht hnt hk,hx,aaz s.ln hl,λj hj=>?_,λj hj=>?_⟩
 ·obtain⟨h1,h2,h3⟩:=s.kl j hj;rw[hk j (aaG h1 s.ln) (λz=>h3 (by rw[<-z];exact m1)) (λz=>h3 (by rw[<-z];exact m2))];exact s.kp j hj
 ·obtain⟨h1,h2,h3⟩:=s.kl j hj;refine⟨h1,h2,λhm=>?_⟩;rcases QA hm with z|z
  ·exact h3 z
  ·have:=hnt j z;have:=s.ln;omega
end
def ow(k:Nat):ai:=((fn224).body.dr k).hd
def qT(k:Nat):ai:=(fn224).body.dr k
def O2:qT 9=.seq (ow 9) .ret:=rfl
def O3:qT 8=.seq (ow 8) (qT 9):=rfl
def O4:qT 7=.seq (ow 7) (qT 8):=rfl
def O5:qT 6=.seq (ow 6) (qT 7):=rfl
def O6:qT 5=.seq (ow 5) (qT 6):=rfl
def O7:qT 4=.seq (ow 4) (qT 5):=rfl
def O8:qT 3=.seq (ow 3) (qT 4):=rfl
def O9:qT 2=.seq (ow 2) (qT 3):=rfl
def Pa:qT 1=.seq (ow 1) (qT 2):=rfl
def Pb:fn224=⟨100,1,[(2,some (some 7))],.seq (ow 0) (qT 1)⟩:=rfl
def lI:List AV:=[.i 0,.af,.af,.af,.af,.af,.af]
def Sl(h:ah)(i:Nat):Prop:=i<h.length\/i=h.length+1
def yd(h:ah)(r:an)(W:ah)(U:RV):Prop:=fF h (h++[r]++[.b lI]) h.length (Sl h) W U
def yd.rb{h W r U}(s:yd h r W U):W[h.length+1]? =some (.b lI):=by
 rw[fF.kp s _ (.inr rfl)];simp
def Kb(h:ah)(V:RV):AV->ah->Prop:=λv h'=>Ext h h'/\∃V':RV,V'.ao=V.ao/\v=.agg V'.row/\cP h.length h' V'
section
variable {P:Program}(T:fD P) {h W:ah}{ts:TS}{V U:RV}{r:an}
include T
def R3(s:yd h r W U)(hr:U.ao=V.ao)(hlen:ts.length=100)(t1:slot ts 1=.ptr h.length 0)(t2:slot ts 2=.ptr (h.length+1) 0):
  WC P bL (qT 9) [] ts W (FQ [(2,some (some 7))] (Kb h V)):=by
 have:=T.mix;rw[O2];unfold ow fn224 gA;simp only[ai.j,ai.s,ai.r,ai.dr,ai.tl,ai.hd];have lb:=@fw _ _ _ s.bk.m;have sb:=@aN 7 (h.length+1) 0 (.agg U.row) (λz=>W[z]?) _ s.rb;have st:=@aC.st _ _ s.bk.o.ok;unfold lI at sb;rw[st]at sb;have hl:=(ZM.1 s.rb).1;have gm:(W.set (h.length+1) (.b U.row))[h.length+1]? =some (.b U.row):=Z8 hl
 repeat (first|simp (config:={maxSteps:=1000000}) only[aQ,aR,aX,aY,reduceAdd,reduceMul,reduceLeDiff,reduceEqDiff,bd,hlen,Z3,Z7,t1,t2,lb,sb,aE,az gm]|simp (config:={maxSteps:=1000000}) (disch:=first|(simp only[ZL,ZP,ZT]<;>omega)|rfl|omega|fail) only[eD,aQ,aR,aX,aY,reduceAdd,reduceMul,reduceLeDiff,reduceEqDiff,bd,hlen,Z3,Z7,t1,t2,lb,sb,aE,az gm])
 refine⟨s.ex.jD Om,U,hr,rfl,s.bk.o.ar λi hi=>?_⟩;have:i≠h.length+1:=λe=>(s.kl _ (.inr rfl)).2.2 (e▸hi)
 rw[Z4 (abe this)]
def Pc(o:aC h V)(w:fQ V.ao)(hj:∀x∈V.aG,x.1.bz.length<=2^30)(s:yd h r W U)(hr:U.ao={V.ao with aG:=V.ao.aG.take 0})(hlen:ts.length=100)(t1:slot ts 1=.ptr h.length 0)(t2:slot ts 2=.ptr (h.length+1) 0)(t5:slot ts 5=V.s4):
  WC P bL (qT 8) [] ts W (FQ [(2,some (some 7))] (Kb h V)):=by
 have hL:V.aG.length<=16:=by have:=w.l4;simpa [RV.ao]using this
 have hRl:V.ao.aG.length=V.aG.length:=by simp[RV.ao]
 rw[O3];unfold ow fn224 gA;simp only[ai.j,ai.s,ai.r,ai.dr,ai.tl,ai.hd];refine Rs (A3 t1 t2 t5) ?_;refine WL.inv T.mix (λm ts h'=>∃(k:Nat) (U:RV),k<=V.aG.length/\m=V.aG.length-k/\yd h r h' U/\U.ao={V.ao with aG:=V.ao.aG.take k}/\ts.length=100/\slot ts 1=.ptr h.length 0/\slot ts 2=.ptr (h.length+1) 0/\slot ts 5=V.s4/\slot ts 10=.i k) V.aG.length
  ⟨0,U,Om,rfl,s,hr,Sn,(Sq t1),(Sq t2),(Sq t5),gf⟩ ?_
 clear t1 t2 t5 hlen s hr;rintro _ ts W ⟨k,U,hk,rfl,s,hr,hlen,t1,t2,t5,t10⟩;have oW:=o.ext s.ex;by_cases hlt:k<V.aG.length
 ·have e3:=eF hlt;have e5:=wrapN (n:=k) Om;have ix:=oW.i4.dA (kk:=.i64) hlt;obtain⟨y,hy⟩:∃y,y=V.aG[k]:=⟨_,rfl⟩;have Un:y∈V.aG:=by rw[hy];exact ZZ _
  have ld:∀{k':ah},Ext W k'->aq (some 3) (cF V.s4 3 k) (λb=>k'[b]?)=some (.agg (bO y),.ar):=λ{k'} e=>by rw[hy];exact oW.i4.kR hlt e
  have oy:=oW.e4 y Un;have YV:=oy.one;unfold bO at ld;obtain⟨n,hn⟩:∃n,n=W.length:=⟨_,rfl⟩;refine Rs (A9 t1 t2 t5 t10 oW.i4.aL e3 ix @ld @YV) ?_;refine WR.pg (N:=n+1) ba (by rw[hn];simp) (oy.ext Xx) (by have:=hj y Un;simp only[ZU];omega) λt g f=>?_
  have p1:=f.aO.one;rw[<-hn];obtain⟨W3,SS⟩:∃W3,W3=W++[an.b [AV.str y.1.name,AV.str y.1.mod,y.2]]++[.b []]++g:=⟨_,rfl⟩;rw[<-SS]at f ⊢;have YE:Ext W W3:=by rw[SS];exact Xx
  have l3:n+2<=W3.length:=by rw[SS,hn];simp only[ZL,ZP,ZT];omega
  have m3:W3[n]? =some (.b [AV.str y.1.name,AV.str y.1.mod,y.2]):=by rw[SS,hn];exact(show Ext (W++[an.b [AV.str y.1.name,AV.str y.1.mod,y.2]]) _ from Xx).some ba
  have X8:a8 1 (.ptr n 2) t (λz=>W3[z]?)=some (aA,.set n (.b [AV.str y.1.name,AV.str y.1.mod,t])):=(aN m3).trans (cD p1 (by show 2+1<=3;omega));refine Rs (A6 t1 t2 t5 t10 @X8 @p1) ?_;obtain⟨W4,Tw⟩:∃W4,W4=W3.set n (.b [AV.str y.1.name,AV.str y.1.mod,t]):=⟨_,rfl⟩;rw[<-Tw];have l4:W4.length=W3.length:=by rw[Tw,aax]
  have k4:∀i,i≠n->W4[i]? =W3[i]? :=λi hi=>by rw[Tw,Z4 (abe hi)]
  have m4:W4[n]? =some (.b [AV.str y.1.name,AV.str y.1.mod,t]):=by rw[Tw,Z8 Om]
  have e4:Ext W W4:=by rw[Tw];exact YE.jD Om
  have s4:yd h r W4 U:=s.grow e4;have f4:Fr (n+1) W4 t 1 (y.1.bz.map aJ):=f.aB λi hi=>k4 i (by have:=(f.bB hi).1;omega)
  have lr:=@fw _ _ _ s4.bk.m;have ln4:=@fw _ _ _ m4;clear YE m3 X8 f Tw SS;refine Rs (A8 t1 t2 t5 t10 @lr @ln4 @gq @p1) ?_;have UG:U.aG.length<=16:=by
   have h1:U.ao.aG.length=U.aG.length:=by simp[RV.ao]
   exact z138
  obtain⟨z,hz⟩:∃z:List AV,z=bO (y.1,t):=⟨_,rfl⟩;have Uw:[AV.str y.1.name,AV.str y.1.mod,t]=z:=by rw[hz];rfl
  rw[Uw];have Y7:aI (W4++[an.cells z true true]) (AV.slice W4.length 0 1 3) 3 [z]:=by
   exact Ll
  refine WR.fP (h0:=h) (cs:=U.aG.map bO) (ys:=[z]) ((s4.bk.o.i4).app _) Y7 De Si (by simp only[ZU,ZP,ZT];omega) (s4.ex.trans Xx) ?_;intro g' SI hff hkp;have hrow:U.aG.map bO++[z]=(U.aG++[(y.1,t)]).map bO:=by rw[ZV,hz];rfl
  rw[hrow]at hff;rw[hrow];obtain⟨s',Sx⟩:∃s',s' =AV.slice (W4++[an.cells z true true]).length 0 ((U.aG++[(y.1,t)]).map bO).length 3:=⟨_,rfl⟩;rw[<-Sx]at hff;rw[<-Sx];have Ux:sB s' =some (W4.length+1):=by rw[Sx];simp[sB]
  have q1:s'.one=true:=by rw[Sx];rfl
  obtain⟨W5,U4⟩:∃W5,W5=h++g':=⟨_,rfl⟩;rw[<-U4]at SI hff hkp ⊢;have hk1:∀i,i<W4.length->sB U.s4≠some i->W5[i]? =W4[i]? :=λi hi hne=>by
   exact NU
  have hl5:W4.length<=W5.length:=by rw[SI];simp only[ZL];omega
  have htb:∀i,sB t=some i->W.length<=i/\i<W4.length:=λi hi=>by have:=f4.bB hi;omega
  have bP:∀i,sB t=some i->sB U.s4≠some i:=λi hi e=>by
   exact N9
  have f5:Fr h.length W5 t 1 (y.1.bz.map aJ):=(f4.aB λi hi=>hk1 i (htb i hi).2 (bP i hi)).low (by have:=s.bk.lt;omega);have YD:W.length<=W4.length:=e4.len;have s5:yd h r (W5.set h.length (.b (U.row.set 5 s'))) {U with aG:=U.aG++[(y.1,t)],s4:=s'}:=
   s.p4 hff f5 (λi hi=>.inr (by rw[Ux]at hi;cases hi;omega)) (λi hi=>⟨(htb i hi).1,λe=>by rw[Ux]at e;cases e;have:=(htb _ hi).2;omega⟩) (λi hi hne=>(hk1 i Om hne).trans (e4.get hi)) (by rw[U4];exact⟨_,rfl⟩) Om
  have mB:W5[h.length]? =some (.b U.row):=(hk1 _ s4.bk.lt (λz=>s4.bk.ne (by rw[<-z];simp[RV.bl]))).trans s4.bk.m;have Uh:a8 1 (.ptr h.length 5) s' (λz=>W5[z]?)=some (aA,.set h.length (.b (U.row.set 5 s'))):=(aN mB).trans (cD q1 (by show 5+1<=7;omega));refine Rs (A7 t1 t2 t5 t10 @Uh q1 e5) ?_;refine⟨_,Om,k+1,_,Om,rfl,s5,?_,rfl⟩;have:V.ao.aG.take (k+1)=V.ao.aG.take k++[y.1]:=by
   exact Oa
  rw[this];have hf:(U.aG++[(y.1,t)]).map Prod.fst=V.ao.aG.take k++[y.1]:=by
   have h1:U.ao.aG=V.ao.aG.take k:=by rw[hr]
   rw[ZV,<-h1];rfl
  have e:({U with aG:=U.aG++[(y.1,t)],s4:=s'}:RV).ao={U.ao with aG:=(U.aG++[(y.1,t)]).map Prod.fst}:=rfl;rw[e,hf,hr]
 ·have e3:decide ((k:Int)<V.aG.length)=false:=ZN Om;have e4:k=V.aG.length:=Om
  rw[e4,<-hRl,aaj]at hr;refine Rs (A6 t1 t2 t5 t10 oW.i4.aL e3) ?_;refine R3 T s hr Sn (Sq t1) (Sq t2)
def Pd(o:aC h V)(w:fQ V.ao)(hm:∀x∈V.aD,x.1.bA.length<=2^30)(hj:∀x∈V.aG,x.1.bz.length<=2^30)(s:yd h r W U)(hr:U.ao={V.ao with aD:=V.ao.aD.take 0,aG:=[] })(hlen:ts.length=100)(t1:slot ts 1=.ptr h.length 0)(t2:slot ts 2=.ptr (h.length+1) 0)(t4:slot ts 4=V.s3)(t5:slot ts 5=V.s4):
  WC P bL (qT 7) [] ts W (FQ [(2,some (some 7))] (Kb h V)):=by
 have hL:V.aD.length<=32:=by have:=w.l3;simpa [RV.ao]using this
 have hRl:V.ao.aD.length=V.aD.length:=by simp[RV.ao]
 rw[O4];unfold ow fn224 gA;simp only[ai.j,ai.s,ai.r,ai.dr,ai.tl,ai.hd];refine Rs (A3 t1 t2 t4) ?_;refine WL.inv T.mix (λm ts h'=>∃(k:Nat) (U:RV),k<=V.aD.length/\m=V.aD.length-k/\yd h r h' U/\U.ao={V.ao with aD:=V.ao.aD.take k,aG:=[] }/\ts.length=100/\slot ts 1=.ptr h.length 0/\slot ts 2=.ptr (h.length+1) 0/\slot ts 4=V.s3/\slot ts 5=V.s4/\slot ts 8=.i k) V.aD.length
  ⟨0,U,Om,rfl,s,hr,Sn,(Sq t1),(Sq t2),(Sq t4),(Sq t5),gf⟩ ?_
 clear t1 t2 t4 t5 hlen s hr;rintro _ ts W ⟨k,U,hk,rfl,s,hr,hlen,t1,t2,t4,t5,t8⟩;have oW:=o.ext s.ex;by_cases hlt:k<V.aD.length
 ·have e3:=eF hlt;have e5:=wrapN (n:=k) Om;have ix:=oW.i3.dA (kk:=.i64) hlt;obtain⟨y,hy⟩:∃y,y=V.aD[k]:=⟨_,rfl⟩;have Un:y∈V.aD:=by rw[hy];exact ZZ _
  have ld:∀{k':ah},Ext W k'->aq (some 4) (cF V.s3 4 k) (λb=>k'[b]?)=some (.agg (bf y),.ar):=λ{k'} e=>by rw[hy];exact oW.i3.kR hlt e
  have oy:=oW.e3 y Un;have YV:=oy.one;unfold bf at ld;obtain⟨n,hn⟩:∃n,n=W.length:=⟨_,rfl⟩;refine Rs (kJ t1 t2 t4 t5 t8 oW.i3.aL e3 ix @ld @YV) ?_;refine WR.pg (N:=n+1) ba (by rw[hn];simp) (oy.ext Xx) (by have:=hm y Un;simp only[ZU];omega) λt g f=>?_
  have p1:=f.aO.one;rw[<-hn];obtain⟨W3,SS⟩:∃W3,W3=W++[an.b [AV.str y.1.name,AV.str y.1.gives,AV.str y.1.line,y.2]]++[.b []]++g:=⟨_,rfl⟩;rw[<-SS]at f ⊢;have YE:Ext W W3:=by rw[SS];exact Xx
  have l3:n+2<=W3.length:=by rw[SS,hn];simp only[ZL,ZP,ZT];omega
  have m3:W3[n]? =some (.b [AV.str y.1.name,AV.str y.1.gives,AV.str y.1.line,y.2]):=by rw[SS,hn];exact(show Ext (W++[an.b [AV.str y.1.name,AV.str y.1.gives,AV.str y.1.line,y.2]]) _ from Xx).some ba
  have X8:a8 1 (.ptr n 3) t (λz=>W3[z]?)=some (aA,.set n (.b [AV.str y.1.name,AV.str y.1.gives,AV.str y.1.line,t])):=(aN m3).trans (cD p1 (by show 3+1<=4;omega));refine Rs (A7 t1 t2 t4 t5 t8 @X8 @p1) ?_;obtain⟨W4,Tw⟩:∃W4,W4=W3.set n (.b [AV.str y.1.name,AV.str y.1.gives,AV.str y.1.line,t]):=⟨_,rfl⟩;rw[<-Tw];have l4:W4.length=W3.length:=by rw[Tw,aax]
  have k4:∀i,i≠n->W4[i]? =W3[i]? :=λi hi=>by rw[Tw,Z4 (abe hi)]
  have m4:W4[n]? =some (.b [AV.str y.1.name,AV.str y.1.gives,AV.str y.1.line,t]):=by rw[Tw,Z8 Om]
  have e4:Ext W W4:=by rw[Tw];exact YE.jD Om
  have s4:yd h r W4 U:=s.grow e4;have f4:Fr (n+1) W4 t 1 (y.1.bA.map ak):=f.aB λi hi=>k4 i (by have:=(f.bB hi).1;omega)
  have lr:=@fw _ _ _ s4.bk.m;have ln4:=@fw _ _ _ m4;clear YE m3 X8 f Tw SS;refine Rs (A9 t1 t2 t4 t5 t8 @lr @ln4 @gF @p1) ?_;have UG:U.aD.length<=32:=by
   have h1:U.ao.aD.length=U.aD.length:=by simp[RV.ao]
   exact z138
  obtain⟨z,hz⟩:∃z:List AV,z=bf (y.1,t):=⟨_,rfl⟩;have Uw:[AV.str y.1.name,AV.str y.1.gives,AV.str y.1.line,t]=z:=by rw[hz];rfl
  rw[Uw];have Y7:aI (W4++[an.cells z true true]) (AV.slice W4.length 0 1 4) 4 [z]:=by
   have:=(Fr.push (N:=0) (es:=4) (h:=W4) (aam _) [z] (λx hx=>by rw[Z9]at hx;rw[hx,hz];rfl)).aO
   simpa using this
  refine WR.fP (h0:=h) (cs:=U.aD.map bf) (ys:=[z]) ((s4.bk.o.i3).app _) Y7 De Si (by simp only[ZU,ZP,ZT];omega) (s4.ex.trans Xx) ?_;intro g' SI hff hkp;have hrow:U.aD.map bf++[z]=(U.aD++[(y.1,t)]).map bf:=by rw[ZV,hz];rfl
  rw[hrow]at hff;rw[hrow];obtain⟨s',Sx⟩:∃s',s' =AV.slice (W4++[an.cells z true true]).length 0 ((U.aD++[(y.1,t)]).map bf).length 4:=⟨_,rfl⟩;rw[<-Sx]at hff;rw[<-Sx];have Ux:sB s' =some (W4.length+1):=by rw[Sx];simp[sB]
  have q1:s'.one=true:=by rw[Sx];rfl
  obtain⟨W5,U4⟩:∃W5,W5=h++g':=⟨_,rfl⟩;rw[<-U4]at SI hff hkp ⊢;have hk1:∀i,i<W4.length->sB U.s3≠some i->W5[i]? =W4[i]? :=λi hi hne=>by
   exact NU
  have hl5:W4.length<=W5.length:=by rw[SI];simp only[ZL];omega
  have htb:∀i,sB t=some i->W.length<=i/\i<W4.length:=λi hi=>by have:=f4.bB hi;omega
  have bP:∀i,sB t=some i->sB U.s3≠some i:=λi hi e=>by
   exact N9
  have f5:Fr h.length W5 t 1 (y.1.bA.map ak):=(f4.aB λi hi=>hk1 i (htb i hi).2 (bP i hi)).low (by have:=s.bk.lt;omega);have YD:W.length<=W4.length:=e4.len;have s5:yd h r (W5.set h.length (.b (U.row.set 4 s'))) {U with aD:=U.aD++[(y.1,t)],s3:=s'}:=
   s.p3 hff f5 (λi hi=>.inr (by rw[Ux]at hi;cases hi;omega)) (λi hi=>⟨(htb i hi).1,λe=>by rw[Ux]at e;cases e;have:=(htb _ hi).2;omega⟩) (λi hi hne=>(hk1 i Om hne).trans (e4.get hi)) (by rw[U4];exact⟨_,rfl⟩) Om
  have mB:W5[h.length]? =some (.b U.row):=(hk1 _ s4.bk.lt (λz=>s4.bk.ne (by rw[<-z];simp[RV.bl]))).trans s4.bk.m;have Uh:a8 1 (.ptr h.length 4) s' (λz=>W5[z]?)=some (aA,.set h.length (.b (U.row.set 4 s'))):=(aN mB).trans (cD q1 (by show 4+1<=7;omega));refine Rs (A8 t1 t2 t4 t5 t8 @Uh q1 e5) ?_;refine⟨_,Om,k+1,_,Om,rfl,s5,?_,rfl⟩;have:V.ao.aD.take (k+1)=V.ao.aD.take k++[y.1]:=by
   exact Oa
  rw[this];have hf:(U.aD++[(y.1,t)]).map Prod.fst=V.ao.aD.take k++[y.1]:=by
   have h1:U.ao.aD=V.ao.aD.take k:=by rw[hr]
   rw[ZV,<-h1];rfl
  have e:({U with aD:=U.aD++[(y.1,t)],s3:=s'}:RV).ao={U.ao with aD:=(U.aD++[(y.1,t)]).map Prod.fst}:=rfl;rw[e,hf,hr]
 ·have e3:decide ((k:Int)<V.aD.length)=false:=ZN Om;have e4:k=V.aD.length:=Om
  rw[e4,<-hRl,aaj]at hr;refine Rs (A7 t1 t2 t4 t5 t8 oW.i3.aL e3) ?_;refine Pc T o w hj s hr Sn (Sq t1) (Sq t2) (Sq t5)
def Pe(o:aC h V)(w:fQ V.ao)(hs:∀x∈V.aj,x.1.aH.length<=2^30)(hm:∀x∈V.aD,x.1.bA.length<=2^30)(hj:∀x∈V.aG,x.1.bz.length<=2^30)(s:yd h r W U)(hr:U.ao={V.ao with aj:=V.ao.aj.take 0,aD:=[],aG:=[] })(hlen:ts.length=100)(t1:slot ts 1=.ptr h.length 0)(t2:slot ts 2=.ptr (h.length+1) 0)(t3:slot ts 3=V.s2)(t4:slot ts 4=V.s3)(t5:slot ts 5=V.s4):
  WC P bL (qT 6) [] ts W (FQ [(2,some (some 7))] (Kb h V)):=by
 have hL:V.aj.length<=64:=by have:=w.l2;simpa [RV.ao]using this
 have hRl:V.ao.aj.length=V.aj.length:=by simp[RV.ao]
 rw[O5];unfold ow fn224 gA;simp only[ai.j,ai.s,ai.r,ai.dr,ai.tl,ai.hd];refine Rs (A3 t1 t2 t3) ?_;refine WL.inv T.mix (λm ts h'=>∃(k:Nat) (U:RV),k<=V.aj.length/\m=V.aj.length-k/\yd h r h' U/\U.ao={V.ao with aj:=V.ao.aj.take k,aD:=[],aG:=[] }/\ts.length=100/\slot ts 1=.ptr h.length 0/\slot ts 2=.ptr (h.length+1) 0/\slot ts 3=V.s2/\slot ts 4=V.s3/\slot ts 5=V.s4/\slot ts 6=.i k) V.aj.length
  ⟨0,U,Om,rfl,s,hr,Sn,(Sq t1),(Sq t2),(Sq t3),(Sq t4),(Sq t5),gf⟩ ?_
 clear t1 t2 t3 t4 t5 hlen s hr;rintro _ ts W ⟨k,U,hk,rfl,s,hr,hlen,t1,t2,t3,t4,t5,t6⟩;have oW:=o.ext s.ex;by_cases hlt:k<V.aj.length
 ·have e3:=eF hlt;have e5:=wrapN (n:=k) Om;have ix:=oW.i2.dA (kk:=.i64) hlt;obtain⟨y,hy⟩:∃y,y=V.aj[k]:=⟨_,rfl⟩;have Un:y∈V.aj:=by rw[hy];exact ZZ _
  have ld:∀{k':ah},Ext W k'->aq (some 3) (cF V.s2 3 k) (λb=>k'[b]?)=some (.agg (bt y),.ar):=λ{k'} e=>by rw[hy];exact oW.i2.kR hlt e
  have oy:=oW.e2 y Un;have YV:=oy.one;unfold bt at ld;obtain⟨n,hn⟩:∃n,n=W.length:=⟨_,rfl⟩;refine Rs (mQ t1 t2 t3 t4 t5 t6 oW.i2.aL e3 ix @ld @YV) ?_;refine WR.pg (N:=n+1) ba (by rw[hn];simp) (oy.ext Xx) (by have:=hs y Un;simp only[ZU];omega) λt g f=>?_
  have p1:=f.aO.one;rw[<-hn];obtain⟨W3,SS⟩:∃W3,W3=W++[an.b [AV.str y.1.name,AV.str y.1.line,y.2]]++[.b []]++g:=⟨_,rfl⟩;rw[<-SS]at f ⊢;have YE:Ext W W3:=by rw[SS];exact Xx
  have l3:n+2<=W3.length:=by rw[SS,hn];simp only[ZL,ZP,ZT];omega
  have m3:W3[n]? =some (.b [AV.str y.1.name,AV.str y.1.line,y.2]):=by rw[SS,hn];exact(show Ext (W++[an.b [AV.str y.1.name,AV.str y.1.line,y.2]]) _ from Xx).some ba
  have X8:a8 1 (.ptr n 2) t (λz=>W3[z]?)=some (aA,.set n (.b [AV.str y.1.name,AV.str y.1.line,t])):=(aN m3).trans (cD p1 (by show 2+1<=3;omega));refine Rs (A8 t1 t2 t3 t4 t5 t6 @X8 @p1) ?_;obtain⟨W4,Tw⟩:∃W4,W4=W3.set n (.b [AV.str y.1.name,AV.str y.1.line,t]):=⟨_,rfl⟩;rw[<-Tw];have l4:W4.length=W3.length:=by rw[Tw,aax]
  have k4:∀i,i≠n->W4[i]? =W3[i]? :=λi hi=>by rw[Tw,Z4 (abe hi)]
  have m4:W4[n]? =some (.b [AV.str y.1.name,AV.str y.1.line,t]):=by rw[Tw,Z8 Om]
  have e4:Ext W W4:=by rw[Tw];exact YE.jD Om
  have s4:yd h r W4 U:=s.grow e4;have f4:Fr (n+1) W4 t 1 (y.1.aH.map ak):=f.aB λi hi=>k4 i (by have:=(f.bB hi).1;omega)
  have lr:=@fw _ _ _ s4.bk.m;have ln4:=@fw _ _ _ m4;clear YE m3 X8 f Tw SS;refine Rs (kJ t1 t2 t3 t4 t5 t6 @lr @ln4 @fG @p1) ?_;have UG:U.aj.length<=64:=by
   have h1:U.ao.aj.length=U.aj.length:=by simp[RV.ao]
   exact z138
  obtain⟨z,hz⟩:∃z:List AV,z=bt (y.1,t):=⟨_,rfl⟩;have Uw:[AV.str y.1.name,AV.str y.1.line,t]=z:=by rw[hz];rfl
  rw[Uw];have Y7:aI (W4++[an.cells z true true]) (AV.slice W4.length 0 1 3) 3 [z]:=by
   exact Ll
  refine WR.fP (h0:=h) (cs:=U.aj.map bt) (ys:=[z]) ((s4.bk.o.i2).app _) Y7 De Si (by simp only[ZU,ZP,ZT];omega) (s4.ex.trans Xx) ?_;intro g' SI hff hkp;have hrow:U.aj.map bt++[z]=(U.aj++[(y.1,t)]).map bt:=by rw[ZV,hz];rfl
  rw[hrow]at hff;rw[hrow];obtain⟨s',Sx⟩:∃s',s' =AV.slice (W4++[an.cells z true true]).length 0 ((U.aj++[(y.1,t)]).map bt).length 3:=⟨_,rfl⟩;rw[<-Sx]at hff;rw[<-Sx];have Ux:sB s' =some (W4.length+1):=by rw[Sx];simp[sB]
  have q1:s'.one=true:=by rw[Sx];rfl
  obtain⟨W5,U4⟩:∃W5,W5=h++g':=⟨_,rfl⟩;rw[<-U4]at SI hff hkp ⊢;have hk1:∀i,i<W4.length->sB U.s2≠some i->W5[i]? =W4[i]? :=λi hi hne=>by
   exact NU
  have hl5:W4.length<=W5.length:=by rw[SI];simp only[ZL];omega
  have htb:∀i,sB t=some i->W.length<=i/\i<W4.length:=λi hi=>by have:=f4.bB hi;omega
  have bP:∀i,sB t=some i->sB U.s2≠some i:=λi hi e=>by
   exact N9
  have f5:Fr h.length W5 t 1 (y.1.aH.map ak):=(f4.aB λi hi=>hk1 i (htb i hi).2 (bP i hi)).low (by have:=s.bk.lt;omega);have YD:W.length<=W4.length:=e4.len;have s5:yd h r (W5.set h.length (.b (U.row.set 3 s'))) {U with aj:=U.aj++[(y.1,t)],s2:=s'}:=
   s.p2 hff f5 (λi hi=>.inr (by rw[Ux]at hi;cases hi;omega)) (λi hi=>⟨(htb i hi).1,λe=>by rw[Ux]at e;cases e;have:=(htb _ hi).2;omega⟩) (λi hi hne=>(hk1 i Om hne).trans (e4.get hi)) (by rw[U4];exact⟨_,rfl⟩) Om
  have mB:W5[h.length]? =some (.b U.row):=(hk1 _ s4.bk.lt (λz=>s4.bk.ne (by rw[<-z];simp[RV.bl]))).trans s4.bk.m;have Uh:a8 1 (.ptr h.length 3) s' (λz=>W5[z]?)=some (aA,.set h.length (.b (U.row.set 3 s'))):=(aN mB).trans (cD q1 (by show 3+1<=7;omega));refine Rs (A9 t1 t2 t3 t4 t5 t6 @Uh q1 e5) ?_;refine⟨_,Om,k+1,_,Om,rfl,s5,?_,rfl⟩;have:V.ao.aj.take (k+1)=V.ao.aj.take k++[y.1]:=by
   exact Oa
  rw[this];have hf:(U.aj++[(y.1,t)]).map Prod.fst=V.ao.aj.take k++[y.1]:=by
   have h1:U.ao.aj=V.ao.aj.take k:=by rw[hr]
   rw[ZV,<-h1];rfl
  have e:({U with aj:=U.aj++[(y.1,t)],s2:=s'}:RV).ao={U.ao with aj:=(U.aj++[(y.1,t)]).map Prod.fst}:=rfl;rw[e,hf,hr]
 ·have e3:decide ((k:Int)<V.aj.length)=false:=ZN Om;have e4:k=V.aj.length:=Om
  rw[e4,<-hRl,aaj]at hr;refine Rs (A8 t1 t2 t3 t4 t5 t6 oW.i2.aL e3) ?_;refine Pd T o w hm hj s hr Sn (Sq t1) (Sq t2) (Sq t4) (Sq t5)
def Pf(o:aC h V)(w:fQ V.ao)(hs:∀x∈V.aj,x.1.aH.length<=2^30)(hm:∀x∈V.aD,x.1.bA.length<=2^30)(hj:∀x∈V.aG,x.1.bz.length<=2^30)
  {W0}(hW0:W0=h++[.b V.row]++[.b lI]) (hlen:ts.length=100) (t1:slot ts 1=.ptr h.length 0) (t2:slot ts 2=.ptr (h.length+1) 0):
  WC P bL (qT 1) [] ts W0 (FQ [(2,some (some 7))] (Kb h V)):=by
 have nb0:V.lines.length<=16:=w.l0;have nb5:V.aK.length<=16:=w.l5;have nb1:V.aH.length<=16:=w.l1;have o0:=o.i0.one;have o1:=o.i1.one;have o2:=o.i2.one;have o3:=o.i3.one;have o4:=o.i4.one;have o5:=o.i5.one;have m0:W0[h.length]? =some (.b [AV.i V.tick,V.s0,V.s1,V.s2,V.s3,V.s4,V.s5]):=by rw[hW0];simp;rfl
 have z0:W0[h.length+1]? =some (.b lI):=by rw[hW0];simp
 have e0:Ext h W0:=by rw[hW0];exact Xx
 rw[Pa,O9,O8,O7,O6];unfold ow fn224 gA;simp only[ai.j,ai.s,ai.r,ai.dr,ai.tl,ai.hd];obtain⟨n0,Xs⟩:∃n,n=W0.length:=⟨_,rfl⟩;have lr0:=@fw _ _ _ m0;refine Rs (A4 t1 t2 @lr0 @o0) ?_;refine WR.pg (N:=n0) (w:=32) ba (Nat.le_of_eq Xs) ((o.i0.ext e0).ext Xx) (by simp only[ZU];omega) λa0 g0 f0=>?_
 have p0:=f0.aO.one;obtain⟨Y0,hY0⟩:∃Y,Y=W0++[an.b []]++g0:=⟨_,rfl⟩;rw[<-hY0]at f0 ⊢;have eY0:Ext W0 Y0:=by rw[hY0];exact Xx
 have sb0:a8 1 (.ptr h.length 1) a0 (λz=>Y0[z]?)=some (aA,.set h.length (.b [AV.i V.tick,a0,V.s1,V.s2,V.s3,V.s4,V.s5])):=(aN (eY0.some m0)).trans (cD p0 (by show 1+1<=7;omega));refine Rs (A4 t1 t2 @sb0 @p0) ?_;obtain⟨W1,UN⟩:∃W,W=Y0.set h.length (.b [AV.i V.tick,a0,V.s1,V.s2,V.s3,V.s4,V.s5]):=⟨_,rfl⟩;rw[<-UN];have l1:W0.length<=W1.length:=by rw[UN,aax];exact eY0.len
 have k1:∀i,i<W0.length->i≠h.length->W1[i]? =W0[i]? :=λi hi hne=>by rw[UN,Z4 (abe hne),eY0.get hi]
 have m1:W1[h.length]? =some (.b [AV.i V.tick,a0,V.s1,V.s2,V.s3,V.s4,V.s5]):=by rw[UN,Z8 (by have:=eY0.len;have:=(ZM.1 m0).1;omega)]
 have e1:Ext h W1:=by rw[UN];exact(e0.trans eY0).jD (Z0 _)
 have z1:W1[h.length+1]? =some (.b lI):=(k1 _ (ZM.1 z0).1 Om).trans z0;have c0:Fr n0 W1 a0 3 (V.lines.map cC):=f0.aB λi hi=>by
  have:=(f0.bB hi).1;have:=(ZM.1 z0).1;rw[UN,Z4 Om]
 clear f0 sb0 lr0;obtain⟨n1,hn1⟩:∃n,n=W1.length:=⟨_,rfl⟩;have lr1:=@fw _ _ _ m1;refine Rs (A4 t1 t2 @lr1 @o1) ?_;refine WR.pg (N:=n1) (w:=24) ba (Nat.le_of_eq hn1) ((o.i1.ext e1).ext Xx) (by simp only[ZU];omega) λa1 g1 f1=>?_
 have p1:=f1.aO.one;obtain⟨Y1,Xd⟩:∃Y,Y=W1++[an.b []]++g1:=⟨_,rfl⟩;rw[<-Xd]at f1 ⊢;have eY1:Ext W1 Y1:=by rw[Xd];exact Xx
 have sb1:a8 1 (.ptr h.length 2) a1 (λz=>Y1[z]?)=some (aA,.set h.length (.b [AV.i V.tick,a0,a1,V.s2,V.s3,V.s4,V.s5])):=(aN (eY1.some m1)).trans (cD p1 (by show 2+1<=7;omega));refine Rs (A4 t1 t2 @sb1 @p1) ?_;obtain⟨W2,Tj⟩:∃W,W=Y1.set h.length (.b [AV.i V.tick,a0,a1,V.s2,V.s3,V.s4,V.s5]):=⟨_,rfl⟩;rw[<-Tj];have l2:W1.length<=W2.length:=by rw[Tj,aax];exact eY1.len
 have k2:∀i,i<W1.length->i≠h.length->W2[i]? =W1[i]? :=λi hi hne=>by rw[Tj,Z4 (abe hne),eY1.get hi]
 have m2:W2[h.length]? =some (.b [AV.i V.tick,a0,a1,V.s2,V.s3,V.s4,V.s5]):=by rw[Tj,Z8 (by have:=eY1.len;have:=(ZM.1 m1).1;omega)]
 have e2:Ext h W2:=by rw[Tj];exact(e1.trans eY1).jD (Z0 _)
 have z2:W2[h.length+1]? =some (.b lI):=(k2 _ (ZM.1 z1).1 Om).trans z1;have c1:Fr n1 W2 a1 2 (V.aH.map eP):=f1.aB λi hi=>by
  have:=(f1.bB hi).1;have:=(ZM.1 z1).1;rw[Tj,Z4 Om]
 clear f1 sb1 lr1;obtain⟨n2,hn2⟩:∃n,n=W2.length:=⟨_,rfl⟩;have lr2:=@fw _ _ _ m2;refine Rs (A4 t1 t2 @lr2 @o5) ?_;refine WR.pg (N:=n2) (w:=48) ba (Nat.le_of_eq hn2) ((o.i5.ext e2).ext Xx) (by simp only[ZU];omega) λa5 g2 f5=>?_
 have p5:=f5.aO.one;obtain⟨Y2,Ut⟩:∃Y,Y=W2++[an.b []]++g2:=⟨_,rfl⟩;rw[<-Ut]at f5 ⊢;have Vp:Ext W2 Y2:=by rw[Ut];exact Xx
 have sb2:a8 1 (.ptr h.length 6) a5 (λz=>Y2[z]?)=some (aA,.set h.length (.b [AV.i V.tick,a0,a1,V.s2,V.s3,V.s4,a5])):=(aN (Vp.some m2)).trans (cD p5 (by show 6+1<=7;omega));refine Rs (A4 t1 t2 @sb2 @p5) ?_;obtain⟨W3,SS⟩:∃W,W=Y2.set h.length (.b [AV.i V.tick,a0,a1,V.s2,V.s3,V.s4,a5]):=⟨_,rfl⟩;rw[<-SS];have l3:W2.length<=W3.length:=by rw[SS,aax];exact Vp.len
 have k3:∀i,i<W2.length->i≠h.length->W3[i]? =W2[i]? :=λi hi hne=>by rw[SS,Z4 (abe hne),Vp.get hi]
 have m3:W3[h.length]? =some (.b [AV.i V.tick,a0,a1,V.s2,V.s3,V.s4,a5]):=by rw[SS,Z8 (by have:=Vp.len;have:=(ZM.1 m2).1;omega)]
 have e3:Ext h W3:=by rw[SS];exact(e2.trans Vp).jD (Z0 _)
 have z3:W3[h.length+1]? =some (.b lI):=(k3 _ (ZM.1 z2).1 Om).trans z2;have c5:Fr n2 W3 a5 4 (V.aK.map dG):=f5.aB λi hi=>by
  have:=(f5.bB hi).1;have:=(ZM.1 z2).1;rw[SS,Z4 Om]
 clear f5 sb2 lr2;have lr3:=@fw _ _ _ m3;have VS:=(ZM.1 m3).1;have s3:a8 1 (.ptr h.length 3) .af (λz=>W3[z]?)=some (aA,.set h.length (.b [AV.i V.tick,a0,a1,.af,V.s3,V.s4,a5])):=(aN m3).trans (cD rfl (by show 3+1<=7;omega));have m4:(W3.set h.length (.b [AV.i V.tick,a0,a1,.af,V.s3,V.s4,a5]))[h.length]? =some (.b [AV.i V.tick,a0,a1,.af,V.s3,V.s4,a5]):=Z8 VS;have s4:a8 1 (.ptr h.length 4) .af (λz=>(W3.set h.length (.b [AV.i V.tick,a0,a1,.af,V.s3,V.s4,a5]))[z]?)=some (aA,.set h.length (.b [AV.i V.tick,a0,a1,.af,.af,V.s4,a5])):=(aN m4).trans (cD rfl (by show 4+1<=7;omega));have m5:((W3.set h.length (.b [AV.i V.tick,a0,a1,.af,V.s3,V.s4,a5])).set h.length (.b [AV.i V.tick,a0,a1,.af,.af,V.s4,a5]))[h.length]? =some (.b [AV.i V.tick,a0,a1,.af,.af,V.s4,a5]):=Z8 (by rw[aax];exact VS)
 have s5:a8 1 (.ptr h.length 5) .af (λz=>((W3.set h.length (.b [AV.i V.tick,a0,a1,.af,V.s3,V.s4,a5])).set h.length (.b [AV.i V.tick,a0,a1,.af,.af,V.s4,a5]))[z]?)=some (aA,.set h.length (.b [AV.i V.tick,a0,a1,.af,.af,.af,a5])):=(aN m5).trans (cD rfl (by show 5+1<=7;omega));obtain⟨W6,Uq⟩:∃W,W=W3.set h.length (.b [AV.i V.tick,a0,a1,.af,.af,.af,a5]):=⟨_,rfl⟩;have k6:∀i,i≠h.length->W6[i]? =W3[i]? :=λi hi=>by rw[Uq,Z4 (abe hi)]
 have m6:W6[h.length]? =some (.b [AV.i V.tick,a0,a1,.af,.af,.af,a5]):=by rw[Uq,Z8 VS]
 have l0:n0=h.length+2:=by rw[Xs,hW0];simp
 have r0:∀i,sB a0=some i->n0<=i/\i<W1.length:=λi hi=>c0.bB hi
 have r1:∀i,sB a1=some i->n1<=i/\i<W2.length:=λi hi=>c1.bB hi
 have r5:∀i,sB a5=some i->n2<=i/\i<W3.length:=λi hi=>c5.bB hi
 have fa0:Fr h.length W6 a0 3 (V.lines.map cC):=(c0.aB λi hi=>by
  have:=r0 i hi;rw[k6 i Om,k3 i Om Om,k2 i Om Om]).low Om
 have fa1:Fr h.length W6 a1 2 (V.aH.map eP):=(c1.aB λi hi=>by
  have:=r1 i hi;rw[k6 i Om,k3 i Om Om]).low Om
 have fa5:Fr h.length W6 a5 4 (V.aK.map dG):=(c5.aB λi hi=>by
  have:=r5 i hi;rw[k6 i Om]).low Om
 obtain⟨U,hU⟩:∃U:RV,U=⟨V.tick,V.lines,V.aH,[],[],[],V.aK,a0,a1,.af,.af,.af,a5⟩:=⟨_,rfl⟩;have hbl:U.bl=[sB a0,sB a1,none,none,none,sB a5]:=by rw[hU];rfl
 have hlo:∀i,some i∈U.bl->h.length+2<=i:=λi hi=>by
  rw[hbl]at hi;simp only[aap,aaI,abm,reduceCtorEq,false_or]at hi;rcases hi with hi|hi|hi
  ·have:=r0 i hi.symm;omega
  ·have:=r1 i hi.symm;omega
  ·have:=r5 i hi.symm;omega
 have Tt:lR U.bl:=by
  rw[hbl];refine aaM.2 ⟨λy hy b hb e=>?_,aaM.2 ⟨λy hy b hb e=>?_,aaM.2 ⟨(λy hy b hb e=>by cases hb),aaM.2 ⟨(λy hy b hb e=>by cases hb),aaM.2 ⟨(λy hy b hb e=>by cases hb),abu _ _⟩⟩⟩⟩⟩
  ·have h1:=r0 b hb;subst e;simp only[aap,aaI,abm,reduceCtorEq,false_or]at hy;rcases hy with hy|hy
   ·have:=r1 b hy.symm;omega
   ·have:=r5 b hy.symm;omega
  ·have h1:=r1 b hb;subst e;simp only[aap,aaI,abm,reduceCtorEq,false_or]at hy;have:=r5 b hy.symm;omega
 have own:cP h.length W6 U:=by
  rw[hU]at Tt ⊢;exact⟨fa0,fa1,.nil,.nil,.nil,fa5,(λx hx=>by cases hx),(λx hx=>by cases hx),(λx hx=>by cases hx),Tt⟩
 have s:yd h (.b V.row) W6 U:=by
  refine⟨⟨own,Z0 _,by rw[hU];exact m6,λhi=>by have:=hlo _ hi;omega⟩,by rw[Uq];exact e3.jD (Z0 _),by rw[<-hW0,Uq,aax];omega,λi hi=>?_,λi hi=>⟨?_,?_,λhm=>?_⟩⟩
  ·have:i≠h.length/\i<W0.length:=by rcases hi with hi|hi<;>omega
   rw[<-hW0,k6 i this.1,k3 i Om this.1,k2 i Om this.1,k1 i Om this.1]
  ·simp only[ZL,ZP,ZT];rcases hi with hi|hi<;>omega
  ·rcases hi with hi|hi<;>omega
  ·have:=hlo _ hm;rcases hi with hi|hi<;>omega
 clear c0 c1 c5 fa0 fa1 fa5 own Tt;refine Rs (A9 t1 t2 @lr3 @o2 @o3 @o4 @s3 @s4 @s5) ?_;have aR:((W3.set h.length (.b [AV.i V.tick,a0,a1,.af,V.s3,V.s4,a5])).set h.length (.b [AV.i V.tick,a0,a1,.af,.af,V.s4,a5])).set h.length (.b [AV.i V.tick,a0,a1,.af,.af,.af,a5])=W6:=by rw[Uq,List.set_set,List.set_set]
 rw[aR];exact Pe T o w hs hm hj s (by rw[hU];rfl) Sn (Sq t1) (Sq t2) Sw Sw Sw
def r224(o:aC h V)(w:fQ V.ao):ay P 224 [.agg V.row] h (λv h'=>∃V':RV,V'.ao=V.ao/\v=.agg V'.row/\cP h.length h' V'):=by
 have i:=w.yL;have hs:∀x∈V.aj,x.1.aH.length<=2^30:=λx hx=>by have:=(i.sh x hx).2;omega
 have hm:∀x∈V.aD,x.1.bA.length<=2^30:=λx hx=>by have:=(w.md x.1 (aah hx)).2.1;omega
 have hj:∀x∈V.aG,x.1.bz.length<=2^30:=λx hx=>by have:=(w.jb x.1 (aah hx)).2.2.1;omega
 refine .of T.mix (acb T.c224 (aan some Pb)) ?_;obtain⟨ts,Sv⟩:∃ts,ts=aU 100 [.agg V.row]:=⟨_,rfl⟩;have hlen:ts.length=100:=by rw[Sv];rfl
 have t0:slot ts 0=.agg V.row:=by rw[Sv];rfl
 show WC P bL (.seq (ow 0) (qT 1)) [] (aU 100 [.agg V.row]) h (FQ [(2,some (some 7))] (Kb h V));rw[<-Sv];clear Sv;have Su:=@aC.box _ _ o;unfold ow fn224 gA;simp only[ai.j,ai.s,ai.r,ai.dr,ai.tl,ai.hd];refine Rs (A2 t0 @Su) ?_;refine Pf T o w hs hm hj rfl Sn Sw (by simp only[aQ,aR,aX,aY,reduceAdd,reduceMul,reduceLeDiff,reduceEqDiff,bd,hlen,Z3,Z7];simp)
end
end Go.Abs
namespace Go.Abs
def Sk(X:ah)(V:RV)(i:Nat):Prop:=(i<X.length/\some i∉V.bl)\/i=X.length+1\/i=X.length+2
def cJ(B X:ah)(x:EV)(V:RV)(W:ah)(U:RV):Prop:=
 fF B (X++[.b V.row]++[.b x.row]++[.b lI]) X.length (Sk X V) W U
def sM(B X:ah)(V:RV)(c:Int)(R':hO):AV->ah->Prop:=λv k=>
 Ext B k/\X.length<=k.length/\(∀i,i<X.length->some i∉V.bl->k[i]? =X[i]?)/\∃V':RV,v=.dz [.agg V'.row,.i c]/\cP B.length k V'/\(c=0->V'.ao=R')/\∀i,some i∈V'.bl->some i∈V.bl\/X.length<=i
section
variable {B X W:ah}{x:EV}{V U:RV}(s:cJ B X x V W U)
include s
def cJ.lr{k n a}(e:Ext W k):aq n (.ptr X.length a) (λz=>k[z]?)=dK n a (.b U.row):=az (e.some s.bk.m)
def cJ.M0:W[X.length+1]? =some (.b x.row):=by rw[fF.kp s _ (.inr (.inl rfl))];simp
def cJ.MZ:W[X.length+2]? =some (.b lI):=by rw[fF.kp s _ (.inr (.inr rfl))];simp
def cJ.le{k n a}(e:Ext W k):aq n (.ptr (X.length+1) a) (λz=>k[z]?)=dK n a (.b x.row):=az (e.some s.M0)
def cJ.sb{k}(e:Ext W k):a8 7 (.ptr (X.length+2) 0) (.agg U.row) (λz=>k[z]?)=some (aA,.set (X.length+2) (.b U.row)):=by
 have h1:=@aN 7 (X.length+2) 0 (.agg U.row) (λz=>k[z]?) _ (e.some s.MZ);have st:=@aC.st _ _ s.bk.o.ok;unfold lI at h1;rw[st]at h1;exact h1
def cJ.gm{k}(e:Ext W k):aq (some 7) (.ptr (X.length+2) 0) (λz=>(k.set (X.length+2) (.b U.row))[z]?)=some (.agg U.row,.ar):=by
 have hl:=(ZM.1 (e.some s.MZ)).1;rw[az (Z8 hl)];rfl
def cJ.fa:=A4 (@cJ.lr _ _ _ _ _ _ s) (@cJ.le _ _ _ _ _ _ s) (@cJ.sb _ _ _ _ _ _ s) (@cJ.gm _ _ _ _ _ _ s)
def cJ.fin{c R'}(hc:c=0->U.ao=R'):sM B X V c R' (.dz [.agg U.row,.i c]) (W.set (X.length+2) (.b U.row)):=by
 have hN:B.length<=X.length:=s.bk.hN;have XS:X.length+3<=W.length:=by have:=fF.ln s;simpa using this
 refine⟨s.ex.jD Om,by rw[aax];omega,λi hi hv=>?_,U,rfl,s.bk.o.ar λi hi=>?_,hc,λi hi=>?_⟩
 ·rw[Z4 Om,fF.kp s i (.inl ⟨hi,hv⟩)];simp only[ZO];exact ZQ hi
 ·have:i≠X.length+2:=λe=>(fF.kl s _ (.inr (.inr rfl))).2.2 (e▸hi)
  rw[Z4 (abe this)]
 ·by_cases h1:some i∈V.bl
  ·exact .inl h1
  ·by_cases h2:i<X.length
   ·exact absurd hi (fF.kl s i (.inl ⟨h2,h1⟩)).2.2
   ·exact .inr Om
end
def xG{h x d}(o:bj h x)(we:kH x.ev d){i:Nat}(hi:i<(aM d).length):aV 1 x.sn (.i (i:Int))=some (cF x.sn 1 i,.ar)/\∀{k},Ext h k->aq none (cF x.sn 1 i) (λb=>k[b]?)=some (.str (aS x.ev i),.ar):=by
 have hi':i<x.ev.names.length:=by rw[we.nl];exact hi
 refine⟨o.n.dA hi',λ{k} e=>?_⟩;have:aS x.ev i=x.ev.names[i]:=by rw[aS,aar,ZS hi'];rfl
 rw[this];exact o.n.gR hi' rfl e
def bR{h x d}(o:bj h x)(we:kH x.ev d)(i:Nat)(z:Int)(hz:(i:Int)=z)(hi:i<(aM d).length):aV 1 x.sn (.i z)=some (cF x.sn 1 i,.ar)/\∀{k},Ext h k->aq none (cF x.sn 1 i) (λb=>k[b]?)=some (.str (aS x.ev i),.ar):=hz▸xG o we hi
def Nb{h x d}(o:bj h x)(we:kH x.ev d){i:Nat}(hi:i<bK d):aV 1 x.sv (.i (i:Int))=some (cF x.sv 1 i,.ar)/\(∀{k},Ext h k->aq none (cF x.sv 1 i) (λb=>k[b]?)=some (.i (bM x.ev i),.ar))/\0<=bM x.ev i/\bM x.ev i<=999999999:=by
 have hi':i<x.ev.bQ.length:=by rw[we.vl];exact hi
 have:bM x.ev i=x.ev.bQ[i]:=by rw[bM,aar,ZS hi'];rfl
 refine⟨o.v.dA hi',λ{k} e=>?_,we.vr _ (qQ hi')⟩;rw[this];exact o.v.gR hi' rfl e
def dq{h x d}(o:bj h x)(we:kH x.ev d)(i:Nat)(z:Int)(hz:(i:Int)=z)(hi:i<bK d):aV 1 x.sv (.i z)=some (cF x.sv 1 i,.ar)/\(∀{k},Ext h k->aq none (cF x.sv 1 i) (λb=>k[b]?)=some (.i (bM x.ev i),.ar))/\0<=bM x.ev i/\bM x.ev i<=999999999:=hz▸Nb o we hi
def WR.ml{P ro ks ts Q B Y s es w cs z d l}
  (hs:Fr B.length Y s es cs) (hz:z.length=es) (he:Ext B Y) (hes:0<es) (fj:(cs.length+1)*w<=2^46)
  (K:∀(W5:ah) (s':AV),Ext B W5->Fr B.length W5 s' es (cs++[z])->(∀i,sB s' =some i->Y.length<i)->s'.one=true->Y.length<=W5.length->(∀i,i<Y.length->sB s≠some i->W5[i]? =Y[i]?)->WP P ro l ks (put ts d s') W5 Q):
  WR P ro (p6 es w s (.slice Y.length 0 1 es) (λb=>(Y++[an.cells z true true])[b]?) (Y++[an.cells z true true]).length) false d l ks ts (Y++[an.cells z true true]) Q:=by
 have Y7:aI (Y++[an.cells z true true]) (AV.slice Y.length 0 1 es) es [z]:=by
  have:=(Fr.push (N:=0) (es:=es) (h:=Y) (aam _) [z] (λx hx=>by rw[Z9]at hx;rw[hx,hz])).aO
  simpa using this
 refine WR.fP (h0:=B) (cs:=cs) (ys:=[z]) (hs.app _) Y7 hes Si (by simpa using fj) (he.trans (Ext.app _ (Ext.refl _))) ?_;intro g' SI hff hkp;refine K _ _ ⟨_,rfl⟩ hff (λi hi=>by cases hi;simp) rfl (by rw[SI];simp only[ZL,Z6];omega) (λi hi hne=>?_);exact NU
def AI:ai:=(fn225).body.tl
def O0:fn225=⟨250,2,[(4,some (some 7)),(5,none)],.seq ((fn225).body.hd) AI⟩:=rfl
set_option maxRecDepth 10000
attribute [local irreducible] WP WC WE WB WR WF WL WG fR WM
section
variable {P:Program}(T:fD P) {B X W:ah}{ts:TS}{V:RV}{x:EV}
include T
def EP(w:fQ V.ao)(ox:bj B x)(we:kH x.ev .line)(nk:tj V.ao x.ev .line)(s:cJ B X x V W V)(hlen:ts.length=250)(t2:slot ts 2=.ptr X.length 0)(t3:slot ts 3=.ptr (X.length+1) 0)(t4:slot ts 4=.ptr (X.length+2) 0):
  WC P bL AI [] ts W (FQ [(4,some (some 7)),(5,none)] (sM B X V (bD V.ao x.ev .line) (dO V.ao x.ev .line))):=by
 have ow:=ox.ext s.ex;have oV:=s.bk.o.ok;have SE:x.ev.kind=bw .line:=bZ we.kd;obtain⟨lr,le,sb,gm⟩:=cJ.fa s;obtain⟨i0,d0⟩:=bR ow we 0 0 rfl De;obtain⟨j0,f0,q0⟩:=dq ow we 0 0 rfl De;obtain⟨j1,f1,q1⟩:=dq ow we 1 1 rfl De;unfold AI fn225;simp only[ai.tl];refine Rs (Kh t2 t3 t4 @le @lr @bC @aP @bg @gG @aE @SE @iA @j0 @f0 @j1 @f1 @Z5) ?_;refine WF.ce T.c20 (r20 T _ _ _) λg1=>?_
 obtain⟨W2,Tj⟩:∃Z,Z=W++g1:=⟨_,rfl⟩;rw[<-Tj];have SV:cJ B X x V W2 V:=by rw[Tj];exact fF.grow s ⟨g1,rfl⟩
 have ow:=ox.ext SV.ex;have oV:=SV.bk.o.ok;obtain⟨lr,le,sb,gm⟩:=cJ.fa SV;by_cases h1:bG (bM x.ev 1) 1 64=0
 case neg=>
  have e1:decide (bG (bM x.ev 1) 1 64≠0)=true:=ZR h1;refine Rs (A8 t2 t3 t4 e1 @lr @aE @sb @gm) ?_;rw[bD,ZY h1];exact Kj
 have e1:decide (bG (bM x.ev 1) 1 64≠0)=false:=ZN (λz=>z h1);by_cases h2:16<=V.lines.length
 case pos=>
  have e2:decide ((16:Int)<=(V.lines.length:Int))=true:=ZR Om;refine Rs (mQ t2 t3 t4 e1 @gG oV.i0.aL e2 @lr @aE @sb @gm) ?_;rw[bD,ZW (λz=>z h1),ZY (show 16<=V.ao.lines.length from h2)];exact Kj
 have e2:decide ((16:Int)<=(V.lines.length:Int))=false:=ZN Om;obtain⟨i0,d0⟩:=bR ow we 0 0 rfl De;obtain⟨j1,f1,q1⟩:=dq ow we 1 1 rfl De;refine Rs (BD t2 t3 t4 e1 @le @lr @gG oV.i0.aL e2 @aP @bg @i0 @d0 @j1 @f1) ?_;have Tp:bD V.ao x.ev .line=0:=by rw[bD,ZW (λz=>z h1),ZW (show ¬16<=V.ao.lines.length from h2)]
 obtain⟨y,hy⟩:∃y:iH,y=⟨aS x.ev 0,bM x.ev 1,false⟩:=⟨_,rfl⟩;obtain⟨z,hz⟩:∃z:List AV,z=cC y:=⟨_,rfl⟩;have Uw:[AV.str (aS x.ev 0),.i (bM x.ev 1),.bool false]=z:=by rw[hz,hy];rfl
 rw[Uw];refine WR.ml (B:=B) (cs:=V.lines.map cC) (SV.bk.o.i0) (by rw[hz];rfl) SV.ex De (by have:=w.len.l0;rw[ZU];omega) ?_;intro W5 s' x5 hff hn5 q5 l5 hk5;have hrow:V.lines.map cC++[z]=(V.lines++[y]).map cC:=by rw[ZV,hz];rfl
 rw[hrow]at hff;have s5:cJ B X x V (W5.set X.length (.b (V.row.set 1 s'))) {V with lines:=V.lines++[y],s0:=s'}:=fF.p0 SV hff (λi hi=>.inr (acg (hn5 i hi))) hk5 x5 l5;have mB:W5[X.length]? =some (.b V.row):=(hk5 _ SV.bk.lt (λz=>SV.bk.ne (by rw[<-z];simp[RV.bl]))).trans SV.bk.m;have Uh:a8 1 (.ptr X.length 1) s' (λz=>W5[z]?)=some (aA,.set X.length (.b (V.row.set 1 s'))):=(aN mB).trans (cD q5 (by show 1+1<=7;omega));refine Rs (A5 t2 t3 t4 @Uh q5) ?_;obtain⟨W6,Uq⟩:∃Z,Z=W5.set X.length (.b (V.row.set 1 s')):=⟨_,rfl⟩;rw[<-Uq]at s5 ⊢;obtain⟨lr,le,sb,gm⟩:=cJ.fa s5;refine Rs (A7 t2 t3 t4 @lr @aE @sb @gm) ?_
 rw[Tp];exact cJ.fin s5 (λ_=>by rw[hy];rfl)
theorem EN(w:fQ V.ao)(ox:bj B x)(we:kH x.ev .tape)(nk:tj V.ao x.ev .tape)(s:cJ B X x V W V)(hlen:ts.length=250)(t2:slot ts 2=.ptr X.length 0)(t3:slot ts 3=.ptr (X.length+1) 0)(t4:slot ts 4=.ptr (X.length+2) 0):
  WC P bL AI [] ts W (FQ [(4,some (some 7)),(5,none)] (sM B X V (bD V.ao x.ev .tape) (dO V.ao x.ev .tape))):=by
 have ow:=ox.ext s.ex;have oV:=s.bk.o.ok;have SE:x.ev.kind=bw .tape:=bZ we.kd;obtain⟨lr,le,sb,gm⟩:=cJ.fa s;obtain⟨i0,d0⟩:=bR ow we 0 0 rfl De;obtain⟨j0,f0,q0⟩:=dq ow we 0 0 rfl De;obtain⟨j1,f1,q1⟩:=dq ow we 1 1 rfl De;unfold AI fn225;simp only[ai.tl];by_cases h1:999999999<bM x.ev 0+bM x.ev 1
 case pos=>
  have e1:decide ((999999999:Int)<bM x.ev 0+bM x.ev 1)=true:=ZR h1;have hw:IntKind.i64.wrap (bM x.ev 0+bM x.ev 1)=bM x.ev 0+bM x.ev 1:=aZ Om Om;refine pH (N7 t2 t3 t4 @le @lr @bC @aP @bg @aE @SE @iA @jl @aac @j0 @f0 @j1 @f1 @Z5 @hw e1 @sb @gm) ?_;rw[bD,ZY h1];exact z164
 have e1:decide ((999999999:Int)<bM x.ev 0+bM x.ev 1)=false:=ZN h1;have hw:IntKind.i64.wrap (bM x.ev 0+bM x.ev 1)=bM x.ev 0+bM x.ev 1:=aZ Om Om;by_cases h2:16<=V.aH.length
 case pos=>
  have e2:decide ((16:Int)<=(V.aH.length:Int))=true:=ZR Om
  repeat (first|simp (config:={maxSteps:=1000000}) only[aQ,aR,aX,aY,reduceAdd,reduceMul,reduceLeDiff,reduceEqDiff,bd,hlen,Z3,Z7,t2,t3,t4,le,lr,bC,aP,bg,aE,lT,SE,iA,jl,reduceCtorEq,aac,j0,f0,j1,f1,Z5,hw,e1,oV.i1.aL,e2,sb,gm]|simp (config:={maxSteps:=1000000}) (disch:=first|(simp only[ZL,ZP,ZT]<;>omega)|rfl|omega|fail) only[eD,aQ,aR,aX,aY,reduceAdd,reduceMul,reduceLeDiff,reduceEqDiff,bd,hlen,Z3,Z7,t2,t3,t4,le,lr,bC,aP,bg,aE,lT,SE,iA,jl,reduceCtorEq,aac,j0,f0,j1,f1,Z5,hw,e1,oV.i1.aL,e2,sb,gm])
  rw[bD,ZW h1,ZY (show 16<=V.ao.aH.length from h2)];exact z164
 have e2:decide ((16:Int)<=(V.aH.length:Int))=false:=ZN Om
 repeat (first|simp (config:={maxSteps:=1000000}) only[aQ,aR,aX,aY,reduceAdd,reduceMul,reduceLeDiff,reduceEqDiff,bd,hlen,Z3,Z7,t2,t3,t4,le,lr,bC,aP,bg,aE,lT,SE,iA,jl,reduceCtorEq,aac,j0,f0,j1,f1,Z5,hw,e1,oV.i1.aL,e2,i0,d0]|simp (config:={maxSteps:=1000000}) (disch:=first|(simp only[ZL,ZP,ZT]<;>omega)|rfl|omega|fail) only[eD,aQ,aR,aX,aY,reduceAdd,reduceMul,reduceLeDiff,reduceEqDiff,bd,hlen,Z3,Z7,t2,t3,t4,le,lr,bC,aP,bg,aE,lT,SE,iA,jl,reduceCtorEq,aac,j0,f0,j1,f1,Z5,hw,e1,oV.i1.aL,e2,i0,d0])
 have Tp:bD V.ao x.ev .tape=0:=by rw[bD,ZW h1,ZW (show ¬16<=V.ao.aH.length from h2)]
 obtain⟨y,hy⟩:∃y:sQ,y=⟨aS x.ev 0,bM x.ev 0+bM x.ev 1⟩:=⟨_,rfl⟩;obtain⟨z,hz⟩:∃z:List AV,z=eP y:=⟨_,rfl⟩;have Uw:[AV.str (aS x.ev 0),.i (bM x.ev 0+bM x.ev 1)]=z:=by rw[hz,hy];rfl
 rw[Uw];refine WR.ml (B:=B) (cs:=V.aH.map eP) (s.bk.o.i1) (by rw[hz];rfl) s.ex De (by have:=w.len.l1;rw[ZU];omega) ?_;intro W5 s' x5 hff hn5 q5 l5 hk5;have hrow:V.aH.map eP++[z]=(V.aH++[y]).map eP:=by rw[ZV,hz];rfl
 rw[hrow]at hff;have s5:cJ B X x V (W5.set X.length (.b (V.row.set 2 s'))) {V with aH:=V.aH++[y],s1:=s'}:=fF.p1 s hff (λi hi=>.inr (acg (hn5 i hi))) hk5 x5 l5;have mB:W5[X.length]? =some (.b V.row):=(hk5 _ s.bk.lt (λz=>s.bk.ne (by rw[<-z];simp[RV.bl]))).trans s.bk.m;have Uh:a8 1 (.ptr X.length 2) s' (λz=>W5[z]?)=some (aA,.set X.length (.b (V.row.set 2 s'))):=(aN mB).trans (cD q5 (by show 2+1<=7;omega));refine Rs (A5 t2 t3 t4 @Uh q5) ?_;obtain⟨W6,Uq⟩:∃Z,Z=W5.set X.length (.b (V.row.set 2 s')):=⟨_,rfl⟩;rw[<-Uq]at s5 ⊢;obtain⟨lr,le,sb,gm⟩:=cJ.fa s5;refine Rs (A7 t2 t3 t4 @lr @aE @sb @gm) ?_
 rw[Tp];exact cJ.fin s5 (λ_=>by rw[hy];rfl)
def EO(w:fQ V.ao)(ox:bj B x)(we:kH x.ev .hP)(nk:tj V.ao x.ev .hP)(s:cJ B X x V W V)(hlen:ts.length=250)(t2:slot ts 2=.ptr X.length 0)(t3:slot ts 3=.ptr (X.length+1) 0)(t4:slot ts 4=.ptr (X.length+2) 0):
  WC P bL AI [] ts W (FQ [(4,some (some 7)),(5,none)] (sM B X V (bD V.ao x.ev .hP) (dO V.ao x.ev .hP))):=by
 have ow:=ox.ext s.ex;have oV:=s.bk.o.ok;have SE:x.ev.kind=bw .hP:=bZ we.kd;obtain⟨lr,le,sb,gm⟩:=cJ.fa s;obtain⟨i0,d0⟩:=bR ow we 0 0 rfl De;obtain⟨i1,d1⟩:=bR ow we 1 1 rfl De;obtain⟨i2,d2⟩:=bR ow we 2 2 rfl De;obtain⟨j0,f0,q0⟩:=dq ow we 0 0 rfl De;unfold AI fn225;simp only[ai.tl];have k1:aS x.ev 1∈gC V.ao:=nk.kn 1 0 rfl;have k2:aS x.ev 2∈kB V.ao:=nk.kn 2 1 rfl;have hlt:aW (gC V.ao) (aS x.ev 1)<V.lines.length:=by have:=cL k1;simpa [gC,RV.ao]using this
 have ei:de (λy:iH=>decide (y.name=aS x.ev 1)) V.lines=(aW (gC V.ao) (aS x.ev 1):Int):=eS (f:=iH.name) k1;have sp:du V.ao (aS x.ev 1)=V.lines[aW (gC V.ao) (aS x.ev 1)]:=cS k1;refine pH (RW t2 t3 t4 @le @lr @bC @aP @bg @aE @gG @SE @iA @jl @rX @aac @j0 @f0 @i1 @d1 @Z5) ?_;refine WF.ce T.c28 (r28 T (oV.ext Xx) w.len _) λg1=>?_
 rw[ei];obtain⟨W2,Tj⟩:∃Z,Z=W++g1:=⟨_,rfl⟩;rw[<-Tj];have SV:cJ B X x V W2 V:=by rw[Tj];exact fF.grow s ⟨g1,rfl⟩
 have ow:=ox.ext SV.ex;have oV:=SV.bk.o.ok;obtain⟨lr,le,sb,gm⟩:=cJ.fa SV;obtain⟨i0,d0⟩:=bR ow we 0 0 rfl De;obtain⟨i1,d1⟩:=bR ow we 1 1 rfl De;obtain⟨i2,d2⟩:=bR ow we 2 2 rfl De;obtain⟨j0,f0,q0⟩:=dq ow we 0 0 rfl De;have ix:aV 3 V.s0 (.i (aW (gC V.ao) (aS x.ev 1):Int))=some (cF V.s0 3 (aW (gC V.ao) (aS x.ev 1)),.ar):=oV.i0.dA hlt;have l2:∀{k:ah},Ext W2 k->aq none (j6 V.s0 3 (aW (gC V.ao) (aS x.ev 1)) 2) (λb=>k[b]?)=some (.bool (du V.ao (aS x.ev 1)).acc,.ar):=λ{k} e=>by rw[sp];exact oV.i0.lO hlt rfl e
 cases h1:(du V.ao (aS x.ev 1)).acc with
 |true=>
  rw[h1]at l2;refine Rs (A9 t2 t3 t4 ix @l2 @lr @aE @sb @gm) ?_;rw[bD,ZY h1];exact Kj
 |false=>
 rw[h1]at l2;refine Rs (mQ t2 t3 t4 ix @l2 @le @lr @aE @aP @i2 @d2) ?_;refine WF.ce T.c84 (r84 T (oV.ext Xx) w.len k2 _) λg2=>?_
 obtain⟨W3,SS⟩:∃Z,Z=W2++g2:=⟨_,rfl⟩;rw[<-SS];have S2:cJ B X x V W3 V:=by rw[SS];exact fF.grow SV ⟨g2,rfl⟩
 have ow:=ox.ext S2.ex;have oV:=S2.bk.o.ok;obtain⟨lr,le,sb,gm⟩:=cJ.fa S2;obtain⟨i0,d0⟩:=bR ow we 0 0 rfl De;obtain⟨i1,d1⟩:=bR ow we 1 1 rfl De;obtain⟨i2,d2⟩:=bR ow we 2 2 rfl De;obtain⟨j0,f0,q0⟩:=dq ow we 0 0 rfl De;cases h2:ki V.ao (bM x.ev 0) (aS x.ev 2)with
 |false=>
  refine Rs (A8 t2 t3 t4 @aai @lr @aE @sb @gm) ?_;rw[bD,ZW (by rw[h1];decide),ZY (by rw[h2];rfl)];exact D9
 |true=>
 by_cases h3:64<=V.aj.length
 case pos=>
  have e3:decide ((64:Int)<=(V.aj.length:Int))=true:=ZR Om;refine Rs (mQ t2 t3 t4 @aad @fG oV.i2.aL e3 @lr @aE @sb @gm) ?_;rw[bD,ZW (by rw[h1];decide),ZW (by rw[h2];decide),ZY (show 64<=V.ao.aj.length by simpa [RV.ao]using h3)];exact D9
 have e3:decide ((64:Int)<=(V.aj.length:Int))=false:=ZN Om;have Tp:bD V.ao x.ev .hP=0:=by rw[bD,ZW (by rw[h1];decide),ZW (by rw[h2];decide),ZW (show ¬64<=V.ao.aj.length by simpa [RV.ao]using h3)]
 obtain⟨t,ht⟩:∃t,t=AV.slice W3.length 0 1 1:=⟨_,rfl⟩;have ot:t.one=true:=by rw[ht];rfl
 refine Rs (GM t2 t3 t4 @aad @le @lr @fG oV.i2.aL e3 @aP @i0 @d0 @i1 @d1 @i2 @d2) ?_;rw[<-ht];refine Rs (A4 t2 t3 t4 @ot) ?_;obtain⟨y,hy⟩:∃y:j7,y=⟨aS x.ev 0,aS x.ev 1,[aS x.ev 2]⟩:=⟨_,rfl⟩;obtain⟨z,hz⟩:∃z:List AV,z=bt (y,t):=⟨_,rfl⟩;have Uw:[AV.str (aS x.ev 0),.str (aS x.ev 1),t]=z:=by rw[hz,hy];rfl
 rw[Uw];obtain⟨Y,hY⟩:∃Z,Z=W3++[an.cells [.str (aS x.ev 2)] true true]:=⟨_,rfl⟩;rw[<-hY];have TE:Fr W3.length Y t 1 (y.aH.map ak):=by
  rw[ht,hy,hY];exact(Fr.push (h:=W3) (N:=W3.length) (Z0 _) [ak (aS x.ev 2)] (by simp[ak]))
 have sY:cJ B X x V Y V:=by rw[hY];exact fF.grow S2 ⟨_,rfl⟩
 have lY:W3.length<Y.length:=by rw[hY];simp
 have eY:Ext W3 Y:=by rw[hY];exact⟨_,rfl⟩
 refine WR.ml (B:=B) (cs:=V.aj.map bt) (sY.bk.o.i2) (by rw[hz];rfl) sY.ex De (by have:=w.len.l2;rw[ZU];omega) ?_;intro W5 s' x5 hff hn5 q5 l5 hk5;have hrow:V.aj.map bt++[z]=(V.aj++[(y,t)]).map bt:=by rw[ZV,hz];rfl
 rw[hrow]at hff;have bP:∀i,sB t=some i->sB V.s2≠some i:=λi hi e=>by
  have h1:=(TE.bB hi).1;have h2:=(S2.bk.o.eO (b:=i) (by rw[<-e];simp[RV.bl])).2;omega
 have f5:Fr B.length W5 t 1 (y.aH.map ak):=(TE.aB λi hi=>hk5 i (TE.bB hi).2 (bP i hi)).low S2.ex.len;have s5:cJ B X x V (W5.set X.length (.b (V.row.set 3 s'))) {V with aj:=V.aj++[(y,t)],s2:=s'}:=fF.p2 S2 hff f5 (λi hi=>.inr (by have:=hn5 i hi;omega)) (λi hi=>⟨(TE.bB hi).1,λe=>by have:=hn5 i e;have:=(TE.bB hi).2;omega⟩) (λi hi hne=>(hk5 i Om hne).trans (eY.get hi)) x5 Om;have mB:W5[X.length]? =some (.b V.row):=(hk5 _ sY.bk.lt (λz=>sY.bk.ne (by rw[<-z];simp[RV.bl]))).trans sY.bk.m;have Uh:a8 1 (.ptr X.length 3) s' (λz=>W5[z]?)=some (aA,.set X.length (.b (V.row.set 3 s'))):=(aN mB).trans (cD q5 (by show 3+1<=7;omega))
 refine Rs (A5 t2 t3 t4 @Uh q5) ?_;obtain⟨W6,Uq⟩:∃Z,Z=W5.set X.length (.b (V.row.set 3 s')):=⟨_,rfl⟩;rw[<-Uq]at s5 ⊢;obtain⟨lr,le,sb,gm⟩:=cJ.fa s5;refine Rs (A7 t2 t3 t4 @lr @aE @sb @gm) ?_;rw[Tp];exact cJ.fin s5 (λ_=>by simp only[RV.ao,ZV,dO,aaJ,abd,hy])
end
def gJ:List AV:=[.int .i64 0,.str [],.af,.af,.str []]
def xH(kd:By)(sn sv:AV):an:=.cells [.int .i64 0,.str kd,sn,sv,.str []] true false
structure vD(A:ah)(kd:By)(b8:Nat)(kb:an)(sw:AV)(wr:Bool)(ws:List (By))(sn sv:AV)(ns:List (By))(vs:List Int)(B:ah):Prop where
 m7:(A++[iI sw wr]++B)[A.length+1]? =some (xH kd sn sv)
 m8:(A++[iI sw wr]++B)[b8]? =some kb
 l8:A.length+1<b8
 s:aI A sw 1 (ws.map ak)
 wl:∀x∈ws,x.length<=2^40
 n:Fr (A.length+1) (A++[iI sw wr]++B) sn 1 (ns.map ak)
 v:Fr (A.length+1) (A++[iI sw wr]++B) sv 1 (vs.map aJ)
 dn:∀i,sB sn=some i->A.length+1<i/\i≠b8
 dv:∀i,sB sv=some i->A.length+1<i/\i≠b8
 dd:∀i,sB sn=some i->sB sv≠some i
section
variable {A B:ah}{kd:By}{b8:Nat}{kb:an}{sw:AV}{wr:Bool}{ws:List (By)}{sn sv:AV}{ns:List (By)}{vs:List Int}
def wO{x}:(A++[x]).length=A.length+1:=Si
def vD.tk(o:vD A kd b8 kb sw wr ws sn sv ns vs B){sw' wr' ws'}(hs:aI A sw' 1 (ws'.map ak))(hw:∀x∈ws',x.length<=2^40):vD A kd b8 kb sw' wr' ws' sn sv ns vs B:=
 ⟨by rw[qX (K':=iI sw wr) Om];exact o.m7,by rw[qX (K':=iI sw wr) (by have:=o.l8;omega)];exact o.m8,o.l8,hs,hw,o.n.swap' wO wO,o.v.swap' wO wO,o.dn,o.dv,o.dd⟩
theorem vD.app(o:vD A kd b8 kb sw wr ws sn sv ns vs B)(g:ah):vD A kd b8 kb sw wr ws sn sv ns vs (B++g):=by
 have e:A++[iI sw wr]++(B++g)=A++[iI sw wr]++B++g:=(ZO _ _ _).symm;exact⟨by rw[e];exact(Ext.app g (Ext.refl _)).some o.m7,by rw[e];exact(Ext.app g (Ext.refl _)).some o.m8,o.l8,o.s,o.wl,by rw[e];exact o.n.app g,by rw[e];exact o.v.app g,o.dn,o.dv,o.dd⟩
def n6{K X g}:(A++[K]++g).set (A.length+1) X=A++[K]++g.set 0 X:=by
 rw[aaE _ _ Si];simp
def vD.Im(o:vD A kd b8 kb sw wr ws sn sv ns vs B){U0 ns' g}(hF:Fr (A.length+1) (A++[iI sw wr]++g) U0 1 (ns'.map ak))(hlo:∀i,sB U0=some i->(A++[iI sw wr]++B).length<i)
  (hle:(A++[iI sw wr]++B).length<=(A++[iI sw wr]++g).length) (hk:∀i,i<(A++[iI sw wr]++B).length->sB sn≠some i->(A++[iI sw wr]++g)[i]? =(A++[iI sw wr]++B)[i]?):
  vD A kd b8 kb sw wr ws U0 sv ns' vs (g.set 0 (xH kd U0 sv)):=by
 have l7:=(ZM.1 o.m7).1;have l8:=(ZM.1 o.m8).1;have h8:=o.l8;have ne:∀i,i≠A.length+1->((A++[iI sw wr]++g).set (A.length+1) (xH kd U0 sv))[i]? =(A++[iI sw wr]++g)[i]? :=λi hi=>Z4 (λe=>hi e.symm)
 refine⟨?_,?_,h8,o.s,o.wl,?_,?_,λi hi=>?_,o.dv,λi hi e=>?_⟩
 ·rw[<-n6,Z8 Om]
 ·rw[<-n6,ne _ Om,hk _ l8 (λe=>(o.dn _ e).2 rfl)];exact o.m8
 ·exact z182
 ·rw[<-n6];exact o.v.aB λj hj=>by rw[ne j (by have:=(o.dv j hj).1;omega),hk j (o.v.bB hj).2 (λe=>o.dd j e hj)]
 ·have:=hlo i hi;exact⟨Om,Om⟩
 ·have h1:=hlo i hi;have h2:=(o.v.bB e).2;omega
def vD.Il(o:vD A kd b8 kb sw wr ws sn sv ns vs B){UZ vs' g}(hF:Fr (A.length+1) (A++[iI sw wr]++g) UZ 1 (vs'.map aJ))(hlo:∀i,sB UZ=some i->(A++[iI sw wr]++B).length<i)
  (hle:(A++[iI sw wr]++B).length<=(A++[iI sw wr]++g).length) (hk:∀i,i<(A++[iI sw wr]++B).length->sB sv≠some i->(A++[iI sw wr]++g)[i]? =(A++[iI sw wr]++B)[i]?):
  vD A kd b8 kb sw wr ws sn UZ ns vs' (g.set 0 (xH kd sn UZ)):=by
 have l7:=(ZM.1 o.m7).1;have l8:=(ZM.1 o.m8).1;have h8:=o.l8;have ne:∀i,i≠A.length+1->((A++[iI sw wr]++g).set (A.length+1) (xH kd sn UZ))[i]? =(A++[iI sw wr]++g)[i]? :=λi hi=>Z4 (λe=>hi e.symm)
 refine⟨?_,?_,h8,o.s,o.wl,?_,?_,o.dn,λi hi=>?_,λi hi e=>?_⟩
 ·rw[<-n6,Z8 Om]
 ·rw[<-n6,ne _ Om,hk _ l8 (λe=>(o.dv _ e).2 rfl)];exact o.m8
 ·rw[<-n6];exact o.n.aB λj hj=>by rw[ne j (by have:=(o.dn j hj).1;omega),hk j (o.n.bB hj).2 (λe=>o.dd j hj e)]
 ·exact z182
 ·have:=hlo i hi;exact⟨Om,Om⟩
 ·have h1:=hlo i e;have h2:=(o.n.bB hi).2;omega
end
def rm{ws wr}:∀x∈(bI ws wr).2.1,x∈ws:=by
 intro x hx;cases ws with
 |nil=>simp[bI]at hx
 |cons w r=>
  by_cases hw:w=[]
  ·rw[bI,ZY hw]at hx;simp at hx
  ·rw[bI,ZW hw]at hx;exact aao _ hx
def NM(h:ah)(ws:List (By))(v:AV)(k:ah):Prop:=Ext h k/\∃x:EV,x.ev=(cp ws).1/\v=.dz [.agg x.row,.bool (cp ws).2]/\Fr h.length k x.sn 1 (x.ev.names.map ak)/\Fr h.length k x.sv 1 (x.ev.bQ.map aJ)
def wj{h k}(e:Ext (h++[an.cells [.int .i64 0,.str [],.af,.af,.str []] true false]) k):k[h.length]? =some (.cells [.int .i64 0,.str [],.af,.af,.str []] true false):=e.some (by rw[Z1 (Z0 _)];simp)
def zx{h k}(e:Ext (h++[an.cells [.int .i64 0,.str [],.af,.af,.str []] true false]) k):a8 5 (.ptr h.length 0) (.agg [.int .i64 0,.str [],.af,.af,.str []]) (λz=>k[z]?)=some (aA,.set h.length (.cells [.int .i64 0,.str [],.af,.af,.str []] true false)):=by rw[aN (wj e)];rfl
def zA{h k}(e:Ext (h++[an.cells [.int .i64 0,.str [],.af,.af,.str []] true false]) k):aq (some 5) (.ptr h.length 0) (λz=>k[z]?)=some (.agg [.int .i64 0,.str [],.af,.af,.str []],.ar):=by rw[az (wj e)];rfl
def zy{h k}(e:Ext (h++[an.cells [.int .i64 0,.str [],.af,.af,.str []] true false]) k):k.set h.length (.cells [.int .i64 0,.str [],.af,.af,.str []] true false)=k:=by
 have:=wj e;exact Lj
def zw{h k x}(ox:bj k x)(e:Ext (h++[an.cells [.int .i64 0,.str [],.af,.af,.str []] true false]) k):a8 5 (.ptr h.length 0) (.agg x.row) (λz=>k[z]?)=some (aA,.set h.length (.cells x.row true false)):=by rw[aN (wj e)];exact ox.st
def zv{h k:ah}{x:EV}(e:Ext (h++[an.cells [.int .i64 0,.str [],.af,.af,.str []] true false]) k):aq (some 5) (.ptr h.length 0) (λz=>(k.set h.length (.cells x.row true false))[z]?)=some (.agg x.row,.ar):=by
 rw[az (Z8 (ZM.1 (wj e)).1)];rfl
theorem tt:∀{n}{ws}{wr},(cA n ws wr).1.length=n
 | 0,_,_=>rfl
 |n+1,ws,wr=>by rw[cA,ZP,tt]
theorem wB:∀{n}{ws}{wr},(dC n ws wr).1.length=n
 | 0,_,_=>rfl
 |n+1,ws,wr=>by rw[dC,ZP,wB]
def n8(ws:List (By)):(cp ws).1.names.length<=3/\(cp ws).1.bQ.length<=3:=by
 unfold cp;cases ff (bI ws false).1 with
 |none=>exact⟨aam _,aam _⟩
 |some d=>
  have h3:(aM d).length<=3/\bK d<=3:=by cases d<;>decide
  exact⟨by show(cA _ _ _).1.length<=3;rw[tt];exact h3.1,by show(dC _ _ _).1.length<=3;rw[wB];exact h3.2⟩
def yb(k:Nat):ai:=(fn111).body.dr k
def CD(k:Nat):ai:=(yb k).hd
def OZ:fn111=⟨73,1,[(2,some (some 5)),(3,none)],.seq (CD 0) (.seq (CD 1) (.seq (CD 2) (.seq (CD 3) (.seq (CD 4) (.seq (CD 5) (yb 6))))))⟩:=rfl
def OY:yb 6=.seq (CD 6) (yb 7):=rfl
def OX:yb 7=.seq (CD 7) (yb 8):=rfl
attribute [local irreducible] WQ
section
variable {P:Program}(T:fD P) {h A B:ah}{kd:By}{b8:Nat}{kb:an}{sw:AV}{wr:Bool}{ws YK:List (By)}{sn sv:AV}{ns:List (By)}{vs:List Int}{ts:TS}
include T
theorem Ij(hA:A=h++[.cells gJ true false])(o:vD A kd b8 kb sw wr ws sn sv ns vs B)(hlen:ts.length=73)(t2:slot ts 2=.ptr h.length 0)(t4:slot ts 4=.ptr A.length 0)(t7:slot ts 7=.ptr (A.length+1) 0)
  (hw:cp YK=(⟨0,kd,ns,vs,[]⟩,!wr&&decide (ws.length=0))):WC P bL (yb 8) [] ts (A++[iI sw wr]++B) (FQ [(2,some (some 5)),(3,none)] (NM h YK)):=by
 have hAl:A.length=h.length+1:=by rw[hA];simp
 obtain⟨Y,hY⟩:∃Y,Y=A++[iI sw wr]++B:=⟨_,rfl⟩;have Ut:Y=h++([an.cells gJ true false]++[iI sw wr]++B):=by rw[hY,hA];simp
 have m2:Y[h.length]? =some (.cells gJ true false):=by rw[Ut,Z1 (Z0 _)];simp
 have m4:Y[A.length]? =some (.cells [sw,.bool wr] true false):=by rw[hY];exact JD
 have m7:Y[A.length+1]? =some (.cells [.int .i64 0,.str kd,sn,sv,.str []] true false):=by rw[hY];exact o.m7
 have ln:=o.n;have lv:=o.v;rw[<-hY]at ln lv ⊢;have x:∃x:EV,x=⟨⟨0,kd,ns,vs,[]⟩,sn,sv⟩:=⟨_,rfl⟩;obtain⟨x,hx⟩:=x;have hrow:x.row=[.int .i64 0,.str kd,sn,sv,.str []]:=by rw[hx];rfl
 have ox:Fr h.length (Y.set h.length (.cells x.row true false)) x.sn 1 (x.ev.names.map ak)/\Fr h.length (Y.set h.length (.cells x.row true false)) x.sv 1 (x.ev.bQ.map aJ):=by
  rw[hx];exact⟨(ln.aB λj hj=>Z4 (by have:=(o.dn j hj).1;omega)).low Om,(lv.aB λj hj=>Z4 (by have:=(o.dv j hj).1;omega)).low Om⟩
 have oy:bj Y x:=by rw[hx];exact⟨ln.aO,lv.aO⟩
 have l4:∀{n:Option Nat}{a:Nat},aq n (.ptr A.length a) (λz=>Y[z]?)=dK n a (.cells [sw,.bool wr] true false):=az m4;have l7:aq (some 5) (.ptr (A.length+1) 0) (λz=>Y[z]?)=some (.agg x.row,.ar):=by rw[az m7,hrow];rfl
 have s2:a8 5 (.ptr h.length 0) (.agg x.row) (λz=>Y[z]?)=some (aA,.set h.length (.cells x.row true false)):=by rw[aN m2];exact oy.st
 have l2:aq (some 5) (.ptr h.length 0) (λz=>(Y.set h.length (.cells x.row true false))[z]?)=some (.agg x.row,.ar):=by rw[az (Z8 (ZM.1 m2).1)];rfl
 have hlw:=(o.s.aL (row:=ak));have fin:∀b,b=(!wr&&decide (ws.length=0))->NM h YK (.dz [.agg x.row,.bool b]) (Y.set h.length (.cells x.row true false)):=λb hb=>by
  refine⟨⟨([an.cells gJ true false]++[iI sw wr]++B).set 0 (.cells x.row true false),by rw[Ut,aaE _ _ (Z0 _),aaR]⟩,x,by rw[hw,hx],by rw[hw,hb],ox⟩
 unfold yb fn111;simp only[ai.j,ai.s,ai.r,ai.dr,ai.tl,ai.hd];cases wr with
 |true=>
  repeat (first|simp (config:={maxSteps:=1000000}) only[aQ,aR,aX,aY,reduceAdd,reduceMul,reduceLeDiff,reduceEqDiff,bd,hlen,Z3,Z7,t2,t4,t7,l4,l7,s2,aad,aai,ri,pv,pA,pz,rf,pr,vk,Am,vm,rh,mP,An,vp,vq,ra,pt,vi,vh]|simp (config:={maxSteps:=1000000}) (disch:=first|(simp only[ZL,ZP,ZT]<;>omega)|rfl|omega|fail) only[eD,aQ,aR,aX,aY,reduceAdd,reduceMul,reduceLeDiff,reduceEqDiff,bd,hlen,Z3,Z7,t2,t4,t7,l4,l7,s2,aad,aai,ri,pv,pA,pz,rf,pr,vk,Am,vm,rh,mP,An,vp,vq,ra,pt,vi,vh])
  rw[DW];refine⟨?_,?_⟩
  ·exact Q9
  ·repeat (first|simp (config:={maxSteps:=1000000}) only[aQ,aR,aX,aY,reduceAdd,reduceMul,reduceLeDiff,reduceEqDiff,bd,hlen,Z3,Z7,t2,l2,pn,po,pq,abg,aaX]|simp (config:={maxSteps:=1000000}) (disch:=first|(simp only[ZL,ZP,ZT]<;>omega)|rfl|omega|fail) only[eD,aQ,aR,aX,aY,reduceAdd,reduceMul,reduceLeDiff,reduceEqDiff,bd,hlen,Z3,Z7,t2,l2,pn,po,pq,abg,aaX])
   exact fin _ rfl
 |false=>
  repeat (first|simp (config:={maxSteps:=1000000}) only[aQ,aR,aX,aY,reduceAdd,reduceMul,reduceLeDiff,reduceEqDiff,bd,hlen,Z3,Z7,t2,t4,t7,l4,l7,s2,hlw,aad,aai,ri,pv,pA,pz,rf,pr,vk,Am,vm,rh,mP,An,vp,vq,ra,pt,vi,vh]|simp (config:={maxSteps:=1000000}) (disch:=first|(simp only[ZL,ZP,ZT]<;>omega)|rfl|omega|fail) only[eD,aQ,aR,aX,aY,reduceAdd,reduceMul,reduceLeDiff,reduceEqDiff,bd,hlen,Z3,Z7,t2,t4,t7,l4,l7,s2,hlw,aad,aai,ri,pv,pA,pz,rf,pr,vk,Am,vm,rh,mP,An,vp,vq,ra,pt,vi,vh])
  rw[DW];refine⟨?_,?_⟩
  ·exact Q9
  ·repeat (first|simp (config:={maxSteps:=1000000}) only[aQ,aR,aX,aY,reduceAdd,reduceMul,reduceLeDiff,reduceEqDiff,bd,hlen,Z3,Z7,t2,l2,pn,po,pq,abg,aaX]|simp (config:={maxSteps:=1000000}) (disch:=first|(simp only[ZL,ZP,ZT]<;>omega)|rfl|omega|fail) only[eD,aQ,aR,aX,aY,reduceAdd,reduceMul,reduceLeDiff,reduceEqDiff,bd,hlen,Z3,Z7,t2,l2,pn,po,pq,abg,aaX])
   refine fin _ ?_;cases ws<;>simp
   try omega
def OV(Z:nj P){vN rs c2 c3 a4}(hA:A=h++[.cells gJ true false])(hkb:kb=.cells [rs,.int .i64 (vN:Nat),c2,c3,a4] true false)(hvN:vN<=100)(o:vD A kd b8 kb sw wr ws sn sv ns [] B)(hlen:ts.length=73)(t2:slot ts 2=.ptr h.length 0)(t4:slot ts 4=.ptr A.length 0)(t6:slot ts 6=.func (.func 208) [.ptr A.length 0] [])(t7:slot ts 7=.ptr (A.length+1) 0)(t8:slot ts 8=.ptr b8 0)
  (hw:cp YK=(⟨0,kd,ns,(dC vN ws wr).1,[]⟩,!(dC vN ws wr).2.2&&decide ((dC vN ws wr).2.1.length=0))):WC P bL (yb 7) [] ts (A++[iI sw wr]++B) (FQ [(2,some (some 5)),(3,none)] (NM h YK)):=by
 have m8:=o.m8;rw[hkb]at m8;have l8:∀{n:Option Nat}{a:Nat},aq n (.ptr b8 a) (λz=>(A++[iI sw wr]++B)[z]?)=dK n a (.cells [rs,.int .i64 (vN:Nat),c2,c3,a4] true false):=az m8;obtain⟨RR,TC⟩:∃RR,RR=yb 8:=⟨_,rfl⟩;rw[OX,<-TC];unfold CD yb fn111;simp only[ai.j,ai.s,ai.r,ai.dr,ai.tl,ai.hd];refine Rs (A6 t2 t4 t6 t7 t8 @l8) ?_;refine WL.inv T.mix (λn ts' h'=>∃(k:Nat) (sw' UZ:AV) (wr':Bool) (ws':List (By)) (vs':List Int) (B':ah),k<=vN/\n=vN-k/\h' =A++[iI sw' wr']++B'/\vD A kd b8 kb sw' wr' ws' sn UZ ns vs' B'/\vs'.length=k/\dC vN ws wr=(vs'++(dC (vN-k) ws' wr').1,(dC (vN-k) ws' wr').2)/\
   ts'.length=73/\slot ts' 2=.ptr h.length 0/\slot ts' 4=.ptr A.length 0/\slot ts' 6=.func (.func 208) [.ptr A.length 0] []/\slot ts' 7=.ptr (A.length+1) 0/\slot ts' 47=.int .i64 vN/\slot ts' 48=.int .i64 k) vN
  ⟨0,sw,sv,wr,ws,[],B,Om,rfl,rfl,o,rfl,rfl,(Sq t2),(Sq t2),(Sq t4),(Sq t6),(Sq t7),(Sq t2),gf⟩ ?_
 clear hlen t2 t4 t6 t7 t8 l8 m8 o;rintro _ ts' _ ⟨k,sw',UZ,wr',ws',vs',B',hk,rfl,rfl,o,Tf,TA,hlen,u2,u4,u6,u7,u47,u48⟩;by_cases hlt:k<vN
 ·have e3:decide ((k:Int)<vN)=true:=ZR Om;refine Rs (A7 @u2 @u4 @u6 @u7 @u47 @u48 e3) ?_;refine WF.gen T.c208 (PQ T Z o.s o.wl) ?_;rintro _ _ ⟨UI,g,rfl,rfl,Te⟩;obtain⟨TP,Wj⟩:∃TP,TP=((bI ws' wr').2.2 || !cE (bI ws' wr').1):=⟨_,rfl⟩;obtain⟨y,hy⟩:∃y,y=dM (bI ws' wr').1:=⟨_,rfl⟩;rw[<-Wj,<-hy];have o2:=(o.tk (wr':=TP) Te (λx hx=>o.wl x (rm x hx))).app g;have bP:dC vN ws wr=((vs'++[y])++(dC (vN-(k+1)) (bI ws' wr').2.1 TP).1,(dC (vN-(k+1)) (bI ws' wr').2.1 TP).2):=by
   rw[TA,show vN-k=(vN-(k+1))+1 by omega,dC,hy,Wj];simp
  have l7:∀{kk:ah}{n:Option Nat}{a:Nat},Ext (A++[iI UI TP]++(B'++g)) kk->aq n (.ptr (A.length+1) a) (λz=>kk[z]?)=dK n a (.cells [.int .i64 0,.str kd,sn,UZ,.str []] true false):=λe=>az (e.some o2.m7)
  refine Rs (A7 @u2 @u4 @u6 @u7 @u47 @u48 @l7) ?_;refine WR.ml (B:=A++[iI UI TP]) (cs:=vs'.map aJ) (z:=aJ y) (by rw[wO];exact o2.v) rfl ⟨_,rfl⟩ De (by simp;omega) ?_;rintro _ s' ⟨g2,rfl⟩ hF hlo hone hle hkp;rw[wO]at hF;have er:vs'.map aJ++[aJ y]=(vs'++[y]).map aJ:=by rw[ZV];rfl
  rw[er]at hF;have q7:=(ZM.1 o2.m7).1;have m7':(A++[iI UI TP]++g2)[A.length+1]? =some (.cells [.int .i64 0,.str kd,sn,UZ,.str []] true false):=by
   rw[hkp _ q7 (λe=>by have:=(o2.dv _ e).1;omega)];exact o2.m7
  have s7:a8 1 (.ptr (A.length+1) 3) s' (λz=>(A++[iI UI TP]++g2)[z]?)=some (aA,.set (A.length+1) (.cells [.int .i64 0,.str kd,sn,s',.str []] true false)):=by
   exact z124
  have o3:=o2.Il hF hlo hle hkp;refine Rs (A8 @u2 @u4 @u6 @u7 @u47 @u48 @s7 (wrapN (show k+1<2^63 by omega))) ?_;exact⟨vN-(k+1),Om,k+1,UI,s',TP,_,vs'++[y],_,Om,rfl,n6,o3,by simp[Tf],bP,rfl⟩
 ·have e3:decide ((k:Int)<vN)=false:=ZN Om;have ek:k=vN:=Om
  subst ek;rw[aaR,dC,aaf]at TA;rw[TA]at hw;refine Rs (A7 @u2 @u4 @u6 @u7 @u47 @u48 e3) ?_;rw[TC];exact Ij T hA o (Sq @u2) (Sq @u2) (Sq @u4) (Sq @u7) hw
def OW(Z:nj P){nN vN rs c2 c3 a4}(hA:A=h++[.cells gJ true false])(hkb:kb=.cells [rs,.int .i64 (vN:Nat),c2,c3,a4] true false)(hnN:nN<=100)(hrs:∀G,j9 .sl G rs=some nN)(hvN:vN<=100)(o:vD A kd b8 kb sw wr ws sn sv [] [] B)(hlen:ts.length=73)(t2:slot ts 2=.ptr h.length 0)(t4:slot ts 4=.ptr A.length 0)
  (t5:slot ts 5=.func (.func 207) [.ptr A.length 0] []) (t6:slot ts 6=.func (.func 208) [.ptr A.length 0] []) (t7:slot ts 7=.ptr (A.length+1) 0) (t8:slot ts 8=.ptr b8 0)
  (hw:cp YK=(⟨0,kd,(cA nN ws wr).1,(dC vN (cA nN ws wr).2.1 (cA nN ws wr).2.2).1,[]⟩,!(dC vN (cA nN ws wr).2.1 (cA nN ws wr).2.2).2.2&&decide ((dC vN (cA nN ws wr).2.1 (cA nN ws wr).2.2).2.1.length=0))):WC P bL (yb 6) [] ts (A++[iI sw wr]++B) (FQ [(2,some (some 5)),(3,none)] (NM h YK)):=by
 have m8:=o.m8;rw[hkb]at m8;have l8:∀{n:Option Nat}{a:Nat},aq n (.ptr b8 a) (λz=>(A++[iI sw wr]++B)[z]?)=dK n a (.cells [rs,.int .i64 (vN:Nat),c2,c3,a4] true false):=az m8;obtain⟨RR,TC⟩:∃RR,RR=yb 7:=⟨_,rfl⟩;rw[OY,<-TC];unfold CD yb fn111;simp only[ai.j,ai.s,ai.r,ai.dr,ai.tl,ai.hd];refine Rs (A8 t2 t4 t5 t6 t7 t8 @l8 @hrs) ?_;refine WL.inv T.mix (λn ts' h'=>∃(k:Nat) (sw' U0:AV) (wr':Bool) (ws' ns':List (By)) (B':ah),k<=nN/\n=nN-k/\h' =A++[iI sw' wr']++B'/\vD A kd b8 kb sw' wr' ws' U0 sv ns' [] B'/\ns'.length=k/\cA nN ws wr=(ns'++(cA (nN-k) ws' wr').1,(cA (nN-k) ws' wr').2)/\
   ts'.length=73/\slot ts' 2=.ptr h.length 0/\slot ts' 4=.ptr A.length 0/\slot ts' 5=.func (.func 207) [.ptr A.length 0] []/\slot ts' 6=.func (.func 208) [.ptr A.length 0] []/\slot ts' 7=.ptr (A.length+1) 0/\slot ts' 8=.ptr b8 0/\slot ts' 34=.int .i64 nN/\slot ts' 35=.int .i64 k) nN
  ⟨0,sw,sn,wr,ws,[],B,Om,rfl,rfl,o,rfl,rfl,(Sq t2),(Sq t2),(Sq t4),(Sq t5),(Sq t6),(Sq t7),(Sq t8),(Sq t2),gf⟩ ?_
 clear hlen t2 t4 t5 t6 t7 t8 l8 m8 o;rintro _ ts' _ ⟨k,sw',U0,wr',ws',ns',B',hk,rfl,rfl,o,Tf,TA,hlen,u2,u4,u5,u6,u7,u8,u34,u35⟩;by_cases hlt:k<nN
 ·have e3:decide ((k:Int)<nN)=true:=ZR Om;refine Rs (A9 @u2 @u4 @u5 @u6 @u7 @u8 @u34 @u35 e3) ?_;refine WF.gen T.c207 (I3 T o.s) ?_;rintro _ _ ⟨UI,rfl,rfl,Te⟩;obtain⟨TP,Wj⟩:∃TP,TP=(bI ws' wr').2.2:=⟨_,rfl⟩;obtain⟨y,hy⟩:∃y,y=(bI ws' wr').1:=⟨_,rfl⟩;rw[<-Wj,<-hy];have o2:=o.tk (wr':=TP) Te (λx hx=>o.wl x (rm x hx));have bP:cA nN ws wr=((ns'++[y])++(cA (nN-(k+1)) (bI ws' wr').2.1 TP).1,(cA (nN-(k+1)) (bI ws' wr').2.1 TP).2):=by
   rw[TA,show nN-k=(nN-(k+1))+1 by omega,cA,hy,Wj];simp
  have l7:∀{kk:ah}{n:Option Nat}{a:Nat},Ext (A++[iI UI TP]++B') kk->aq n (.ptr (A.length+1) a) (λz=>kk[z]?)=dK n a (.cells [.int .i64 0,.str kd,U0,sv,.str []] true false):=λe=>az (e.some o2.m7)
  refine Rs (A9 @u2 @u4 @u5 @u6 @u7 @u8 @u34 @u35 @l7) ?_;refine WR.ml (B:=A++[iI UI TP]) (cs:=ns'.map ak) (z:=ak y) (by rw[wO];exact o2.n) rfl ⟨_,rfl⟩ De (by simp;omega) ?_;rintro _ s' ⟨g2,rfl⟩ hF hlo hone hle hkp;rw[wO]at hF;have er:ns'.map ak++[ak y]=(ns'++[y]).map ak:=by rw[ZV];rfl
  rw[er]at hF;have q7:=(ZM.1 o2.m7).1;have m7':(A++[iI UI TP]++g2)[A.length+1]? =some (.cells [.int .i64 0,.str kd,U0,sv,.str []] true false):=by
   rw[hkp _ q7 (λe=>by have:=(o2.dn _ e).1;omega)];exact o2.m7
  have s7:a8 1 (.ptr (A.length+1) 2) s' (λz=>(A++[iI UI TP]++g2)[z]?)=some (aA,.set (A.length+1) (.cells [.int .i64 0,.str kd,s',sv,.str []] true false)):=by
   exact z124
  have o3:=o2.Im hF hlo hle hkp;refine Rs (kJ @u2 @u4 @u5 @u6 @u7 @u8 @u34 @u35 @s7 (wrapN (show k+1<2^63 by omega))) ?_;exact⟨nN-(k+1),Om,k+1,UI,s',TP,_,ns'++[y],_,Om,rfl,n6,o3,by simp[Tf],bP,rfl⟩
 ·have e3:decide ((k:Int)<nN)=false:=ZN Om;have ek:k=nN:=Om
  subst ek;rw[aaR,cA,aaf]at TA;rw[TA]at hw;refine Rs (A9 @u2 @u4 @u5 @u6 @u7 @u8 @u34 @u35 e3) ?_;rw[TC];exact OV T Z hA hkb hvN o (Sq @u2) (Sq @u2) (Sq @u4) (Sq @u6) (Sq @u7) (Sq @u8) hw
def r111(Z:nj P){s ws}(hs:aI h s 1 (ws.map ak))(hwl:∀x∈ws,x.length<=2^40):ay P 111 [s] h (λv k=>∃x:EV,x.ev=(cp ws).1/\v=.dz [.agg x.row,.bool (cp ws).2]/\Fr h.length k x.sn 1 (x.ev.names.map ak)/\Fr h.length k x.sv 1 (x.ev.bQ.map aJ)):=by
 refine .of T.mix (acb T.c111 (aan some OZ)) ?_;obtain⟨ts,Sv⟩:∃ts,ts=aU 73 [s]:=⟨_,rfl⟩;have hlen:ts.length=73:=by rw[Sv];rfl
 have t0:slot ts 0=s:=by rw[Sv];rfl
 obtain⟨RR,TC⟩:∃RR,RR=yb 6:=⟨_,rfl⟩;show WC P bL _ [] (aU 73 [s]) h (FQ _ (NM h ws));rw[<-Sv,<-TC];clear Sv;have hso:=hs.one;unfold CD yb fn111;simp only[ai.j,ai.s,ai.r,ai.dr,ai.tl,ai.hd];refine Rs (A2 t0 @hso) ?_;obtain⟨A,hA⟩:∃A,A=h++[an.cells gJ true false]:=⟨_,rfl⟩;have hAl:A.length=h.length+1:=by rw[hA];simp
 have gw:=I3 T (A:=A) (B:=[]) (wr:=false) (hs.ext (k:=A) ⟨_,hA⟩);rw[aaf,hA]at gw;refine WF.gen T.c207 gw ?_;rintro _ _ ⟨UI,rfl,rfl,Te⟩;rw[aaf];rw[<-hA]at Te;have hwl2:∀x∈(bI ws false).2.1,x.length<=2^40:=λx hx=>hwl x (rm x hx)
 have TH:cp ws=match ff (bI ws false).1 with
  |none=>(fg,false)
  |some d=>(⟨0,bw d,(cA (aM d).length (bI ws false).2.1 (bI ws false).2.2).1,(dC (bK d) (cA (aM d).length (bI ws false).2.1 (bI ws false).2.2).2.1 (cA (aM d).length (bI ws false).2.1 (bI ws false).2.2).2.2).1,[]⟩,!(dC (bK d) (cA (aM d).length (bI ws false).2.1 (bI ws false).2.2).2.1 (cA (aM d).length (bI ws false).2.1 (bI ws false).2.2).2.2).2.2&&decide ((dC (bK d) (cA (aM d).length (bI ws false).2.1 (bI ws false).2.2).2.1 (cA (aM d).length (bI ws false).2.1 (bI ws false).2.2).2.2).2.1.length=0)):=by
  unfold cp;cases ff (bI ws false).1<;>rfl
 generalize (bI ws false).1=kd at *;generalize (bI ws false).2.1=ws2 at *;generalize (bI ws false).2.2=TP at *;refine Rs t0 ?_;refine WF.res T.c90 (r90 T) ?_;rintro _ g2 ⟨vf,rfl,hk⟩;have lk:∀{z:AV},jj .s z true (.map (h++[an.cells gJ true false]++[iI UI TP]++[xH kd .af .af]).length) (.str kd) (λb=>(h++[an.cells gJ true false]++[iI UI TP]++[xH kd .af .af]++g2)[b]?)=lX z true ((ff kd).map vf):=hk.look;unfold xH at lk;cases hd:ff kd with
 |none=>
  rw[hd]at lk TH;have Th:∀{z:AV},_=some (AV.dz [z,.bool false],jv.ar):=@lk;have z2:∀{k:ah},Ext (h++[an.cells gJ true false]) k->k[h.length]? =some (.cells gJ true false):=λe=>e.some (by rw[Z1 (Z0 _)];simp)
  have s2:∀{k:ah},Ext (h++[an.cells gJ true false]) k->a8 5 (.ptr h.length 0) (.agg [.int .i64 0,.str [],.af,.af,.str []]) (λz=>k[z]?)=some (aA,.set h.length (.cells gJ true false)):=λe=>by rw[aN (z2 e)];rfl
  have l2:∀{k:ah},Ext (h++[an.cells gJ true false]) k->aq (some 5) (.ptr h.length 0) (λz=>k[z]?)=some (.agg gJ,.ar):=λe=>by rw[az (z2 e)];rfl
  have sq:∀{k:ah},Ext (h++[an.cells gJ true false]) k->k.set h.length (.cells gJ true false)=k:=λ{k} e=>by
   have:=z2 e;exact Lj
  refine Rs (A8 t0 @bX @Th @jr @aai @s2 @sq @l2) ?_;exact⟨Xx,⟨fg,.af,.af⟩,by rw[TH],by rw[TH];rfl,.nil,.nil⟩
 |some d=>
  rw[hd]at lk TH;have Th:∀{z:AV},_=some (AV.dz [vf d,.bool true],jv.ar):=@lk;obtain⟨rs,a,hv,hr,ha,hab⟩:=(hk.k d).ex;rw[hv]at Th;have hlr:=hr.aL;have c1:=mH d;have c2:=l9 d;have c3:=hr.one;have h3:(aM d).length<=3/\bK d<=3:=by cases d<;>decide
  refine Rs (A8 t0 @bX @Th @aad @c1 @c2 @c3 @ha) ?_;rw[TC];obtain⟨kb,hkb⟩:∃kb,kb=an.cells [rs,.int .i64 (bK d:Nat),kS d,pS d,a] true false:=⟨_,rfl⟩;obtain⟨b8,ZE⟩:∃b8,b8=(h++[an.cells gJ true false]++[iI UI TP]++[an.cells [.int .i64 0,.str kd,.af,.af,.str []] true false]++g2).length:=⟨_,rfl⟩;rw[<-hkb,<-ZE];have eh:h++[an.cells gJ true false]++[iI UI TP]++[an.cells [.int .i64 0,.str kd,.af,.af,.str []] true false]++g2++[kb]=A++[iI UI TP]++([xH kd .af .af]++g2++[kb]):=by rw[hA];unfold xH;simp
  rw[eh];have o:vD A kd b8 kb UI TP ws2 .af .af [] [] ([xH kd .af .af]++g2++[kb]):=by
   refine⟨?_,?_,?_,Te,hwl2,.nil,.nil,λi hi=>(by cases hi),λi hi=>(by cases hi),λi hi=>(by cases hi)⟩
   ·rw[Z1 Si];simp
   ·rw[<-eh,ZE,Z1 (Z0 _),aaR];rfl
   ·rw[ZE,hAl];simp only[ZL,Z6];omega
  refine OW T Z (nN:=(aM d).length) (vN:=bK d) hA hkb Om hlr Om o (Sq t0) (Sq t0) ?_ ?_ ?_ ?_ (Sq t0) ?_
  all_goals first|(rw[TH,bZ hd];done)|skip
  ·refine Zs t0 ?_;rw[hA];rfl
  ·refine Zs t0 ?_;rw[hA];rfl
  ·refine Zs t0 ?_;rw[hA];rfl
  ·refine Zs t0 ?_;rw[hA];simp
end
def tA{c s n}(hs:s.length<=n):∀x∈aF c s,x.length<=n:=λx hx=>aaz (kM x hx) hs
theorem oZ{c}:∀{s},(cK c s).1.length<=s.length/\(cK c s).2.1.length<=s.length
 |[]=>⟨Z0 _,Z0 _⟩
 |x::r=>by
  have ih:=oZ (c:=c) (s:=r);rw[cK];split
  ·simp
  ·simp only[ZP];omega
def GP{h G:ah}{X Y:an}{j:Nat}(hj:j≠h.length):(h++([X]++G))[j]? =(h++([Y]++G))[j]? :=by
 rw[<-ZO,<-ZO];exact qX hj
section
variable {P:Program}(T:fD P) {h:ah}
include T
def r99(X:xX P)(Z:nj P)(w:Pw h)(s:By)(hsl:s.length<=2^38)(n:Int):ay P 99 [.str s,.i n] h (λv k=>∃x:EV,x.ev=(cZ s n).1/\v=.dz [.agg x.row,.i (cZ s n).2]/\Fr h.length k x.sn 1 (x.ev.names.map ak)/\Fr h.length k x.sv 1 (x.ev.bQ.map aJ)):=by
 refine .fo 83 T.mix T.c99 ?_;intro ts hlen t0 t1;unfold fn99 gA;have w1:IntKind.i64.wrap ((s.length:Int)-7)=(s.length:Int)-7:=aZ Om Om;have w2:IntKind.i64.wrap ((s.length:Int)-7-1)=(s.length:Int)-8:=by rw[aZ Om Om];omega
 have s2:=@zx h;have l2:=@zA h;have sq:=@zy h;have bad:∀{c:Int}{k:ah},cZ s n=(fg,c)->Ext h k->(Ext h k/\∃x:EV,x.ev=(cZ s n).1/\AV.dz [.agg [.i 0,.str [],.af,.af,.str []],.i c]=.dz [.agg x.row,.i (cZ s n).2]/\Fr h.length k x.sn 1 (x.ev.names.map ak)/\Fr h.length k x.sv 1 (x.ev.bQ.map aJ)):=
  λhe e=>⟨e,⟨fg,.af,.af⟩,by rw[he],by rw[he];rfl,.nil,.nil⟩
 by_cases h8:s.length<8
 ·have d1:decide ((s.length:Int)-8<0)=true:=ZR Om;refine Rs (A8 t0 t1 @w1 @w2 @d1 @s2 @l2 @sq) ?_;exact(bad (by rw[cZ,ZY h8]) Xx).2
 have d1:decide ((s.length:Int)-8<0)=false:=ZN Om;have ea:(s.length:Int)-8=((s.length-8:Nat):Int):=Om
 rw[ea]at w2 d1;have hlt:s.length-8<s.length:=Om
 have w3:IntKind.i64.wrap (((s.length-8:Nat):Int)+1)=((s.length-7:Nat):Int):=by rw[aZ Om Om];omega
 have gd:s.getD (s.length-8) 0=s[s.length-8]:=by rw[aar,ZS hlt];rfl
 by_cases hh:s[s.length-8]=35
 case neg=>
  have d2:decide ((s[s.length-8].toNat:Int)≠35)=true:=ZR λe=>hh (abG.1 (by simpa using (by omega:s[s.length-8].toNat=35)))
  repeat (first|simp (config:={maxSteps:=1000000}) only[aQ,aR,aX,aY,reduceAdd,reduceMul,reduceLeDiff,reduceEqDiff,bd,hlen,Z3,Z7,t0,t1,w1,w2,d1,cM hlt,d2,s2,l2,sq]|simp (config:={maxSteps:=1000000}) (disch:=first|(simp only[ZL,ZP,ZT]<;>omega)|rfl|omega|fail) only[eD,aQ,aR,aX,aY,reduceAdd,reduceMul,reduceLeDiff,reduceEqDiff,bd,hlen,Z3,Z7,t0,t1,w1,w2,d1,cM hlt,d2,s2,l2,sq])
  exact(bad (by rw[cZ,ZW h8,ZY (.inl (by rw[gd];exact hh))]) Xx).2
 have d2:decide ((s[s.length-8].toNat:Int)≠35)=false:=ZN (by rw[hh];decide)
 repeat (first|simp (config:={maxSteps:=1000000}) only[aQ,aR,aX,aY,reduceAdd,reduceMul,reduceLeDiff,reduceEqDiff,bd,hlen,Z3,Z7,t0,t1,w1,w2,d1,cM hlt,d2,w3,gP (show s.length-7<=s.length by omega)]|simp (config:={maxSteps:=1000000}) (disch:=first|(simp only[ZL,ZP,ZT]<;>omega)|rfl|omega|fail) only[eD,aQ,aR,aX,aY,reduceAdd,reduceMul,reduceLeDiff,reduceEqDiff,bd,hlen,Z3,Z7,t0,t1,w1,w2,d1,cM hlt,d2,w3,gP (show s.length-7<=s.length by omega)])
 refine WF.ce T.c189 (r189 T _ (by rw[aa7];omega)) λg1=>?_
 cases hd:lB (s.drop (s.length-7))with
 |false=>
  refine Rs (A7 t0 t1 @hd @aai @s2 @l2 @sq) ?_;exact(bad (by rw[cZ,ZW h8,ZY (.inr (by rw[hd];simp))]) Xx).2
 |true=>
 repeat (first|simp (config:={maxSteps:=1000000}) only[aQ,aR,aX,aY,reduceAdd,reduceMul,reduceLeDiff,reduceEqDiff,bd,hlen,Z3,Z7,t0,t1,hd,aad,nw (show s.length-8<=s.length by omega)]|simp (config:={maxSteps:=1000000}) (disch:=first|(simp only[ZL,ZP,ZT]<;>omega)|rfl|omega|fail) only[eD,aQ,aR,aX,aY,reduceAdd,reduceMul,reduceLeDiff,reduceEqDiff,bd,hlen,Z3,Z7,t0,t1,hd,aad,nw (show s.length-8<=s.length by omega)])
 have U1:∀{α:Type}{a b:α},(if s.getD (s.length-8) 0≠35\/¬lB (s.drop (s.length-7))=true then a else b)=b:=λ{_ _ _}=>ZW (by rw[gd,hd];simp[hh])
 refine WF.ce T.c187 (r187 T Z _ (by rw[aaw];omega) (w.ext Xx)) λg2=>?_
 by_cases hc:jo (s.take (s.length-8))=s.drop (s.length-7)
 case neg=>
  have d3:decide (jo (s.take (s.length-8))≠s.drop (s.length-7))=true:=ZR hc
  repeat (first|simp (config:={maxSteps:=1000000}) only[aQ,aR,aX,aY,reduceAdd,reduceMul,reduceLeDiff,reduceEqDiff,bd,hlen,Z3,Z7,t0,t1,w3,gP (show s.length-7<=s.length by omega),d3,s2,l2,sq]|simp (config:={maxSteps:=1000000}) (disch:=first|(simp only[ZL,ZP,ZT]<;>omega)|rfl|omega|fail) only[eD,aQ,aR,aX,aY,reduceAdd,reduceMul,reduceLeDiff,reduceEqDiff,bd,hlen,Z3,Z7,t0,t1,w3,gP (show s.length-7<=s.length by omega),d3,s2,l2,sq])
  exact(bad (by rw[cZ,ZW h8,U1,ZY hc]) Xx).2
 have d3:decide (jo (s.take (s.length-8))≠s.drop (s.length-7))=false:=ZN (λz=>z hc);have hes:cZ s n=if !cE (cK 32 (s.take (s.length-8))).1 || !(cp (aF 32 (cK 32 (s.take (s.length-8))).2.1)).2||decide (dB { (cp (aF 32 (cK 32 (s.take (s.length-8))).2.1)).1 with num:=dM (cK 32 (s.take (s.length-8))).1}≠0)then(fg,25)else({ (cp (aF 32 (cK 32 (s.take (s.length-8))).2.1)).1 with num:=dM (cK 32 (s.take (s.length-8))).1},bW (decide (dM (cK 32 (s.take (s.length-8))).1≠n)) 11):=(ZW h8).trans (U1.trans (ZW (λz=>z hc)))
 have htl:(s.take (s.length-8)).length<=2^38:=by rw[aaw];omega
 have hcl:=oZ (c:=32) (s:=s.take (s.length-8))
 repeat (first|simp (config:={maxSteps:=1000000}) only[aQ,aR,aX,aY,reduceAdd,reduceMul,reduceLeDiff,reduceEqDiff,bd,hlen,Z3,Z7,t0,t1,w3,gP (show s.length-7<=s.length by omega),d3,nw (show s.length-8<=s.length by omega)]|simp (config:={maxSteps:=1000000}) (disch:=first|(simp only[ZL,ZP,ZT]<;>omega)|rfl|omega|fail) only[eD,aQ,aR,aX,aY,reduceAdd,reduceMul,reduceLeDiff,reduceEqDiff,bd,hlen,Z3,Z7,t0,t1,w3,gP (show s.length-7<=s.length by omega),d3,nw (show s.length-8<=s.length by omega)])
 refine WF.ce T.c98 (r98 T X _ 32 Om) λg3=>?_
 generalize hq1:(cK 32 (s.take (s.length-8))).1=a1 at hes hcl ⊢;generalize hq2:(cK 32 (s.take (s.length-8))).2.1=a2 at hes hcl ⊢;refine Rs (A2 t0 t1) ?_;refine WF.ce T.c190 (r190 T Z a1 Om) λg4=>?_
 refine Rs (A2 t0 t1) ?_;refine WF.res T.c64 (r64 T X a2 32 Om) ?_;intro v g5 hv;refine Rs (A2 t0 t1) ?_;have Tz:=n8 (aF 32 a2);refine WF.res T.c111 (r111 T Z hv (tA Om)) ?_;rintro _ g6 ⟨x,hx,rfl,fn,fv⟩;have ox:bj _ x:=⟨fn.aO,fv.aO⟩;rw[<-hx]at hes Tz;generalize (cp (aF 32 a2)).2=fm at hes ⊢;obtain⟨x',SA⟩:∃x':EV,x' =⟨{x.ev with num:=dM a1},x.sn,x.sv⟩:=⟨_,rfl⟩;have SY:x'.sn=x.sn:=by rw[SA]
 have Zb:x'.sv=x.sv:=by rw[SA]
 have UM:x'.ev.names=x.ev.names:=by rw[SA]
 have Tf:x'.ev.bQ=x.ev.bQ:=by rw[SA]
 have hrow:x'.row=x.row.set 0 (.i (dM a1)):=by rw[SA];rfl
 have hev:({x.ev with num:=dM a1}:fi)=x'.ev:=by rw[SA]
 rw[hev]at hes;have Tk:cZ s n=if !cE a1 || !fm||decide (dB x'.ev≠0)then(fg,25)else(x'.ev,bW (decide (dM a1≠n)) 11):=hes
 rw[<-SY,<-UM]at fn;rw[<-Zb,<-Tf]at fv;have Vr:bj _ x':=⟨fn.aO,fv.aO⟩;have st:∀{b':Nat}{a0 a1 a2 a3 a4:AV},kG 5 0 (.agg x.row) b' (.b [a0,a1,a2,a3,a4])=some (aA,.set b' (.b x.row)):=λ{_ _ _ _ _ _}=>ox.st
 have jd:∀{b':Nat},kG 1 0 (.i (dM a1)) b' (.b x.row)=some (aA,.set b' (.b x'.row)):=λ{b'}=>by
  exact z105
 cases Vi:cE a1 with
 |false=>
  rw[Vi]at Tk;refine Rs (A9 t0 t1 @st @jd @bS @aai @s2 @l2 @sq) ?_;exact z154
 |true=>
 cases fm with
 |false=>
  rw[Vi]at Tk;refine Rs (kJ t0 t1 @st @jd @bS @aai @aad @s2 @l2 @sq) ?_;exact z154
 |true=>
 rw[Vi]at Tk;refine Rs (A7 t0 t1 @st @jd @bS @aai @aad) ?_;refine WF.ce T.c67 (r67 T (Vr.ext Xx) ⟨by rw[UM];omega,by rw[Tf];omega⟩) λg7=>?_
 by_cases Tp:dB x'.ev=0
 case neg=>
  have d4:decide (dB x'.ev≠0)=true:=ZR Tp;rw[d4]at Tk;refine Rs (A6 t0 t1 @d4 @s2 @l2 @sq) ?_;exact z154
 have d4:decide (dB x'.ev≠0)=false:=ZN (λz=>z Tp);rw[d4]at Tk;have key:∀{k:ah}{W:ah},bj W x'->Ext (h++[an.b [.i 0,.str [],.af,.af,.str []]]) W->Ext W k->a8 5 (.ptr h.length 0) (.agg x'.row) (λz=>k[z]?)=some (aA,.set h.length (.b x'.row)):=λo e1 e2=>zw (o.ext e2) (e1.trans e2)
 have sx:=λ{k:ah}=>@key k _ Vr Xx
 have ly:=@zv h;refine Rs (A4 t0 t1 @d4 @bS) ?_;refine WF.ce T.c85 (r85 T _ _) λg8=>?_
 have fn3:=((fn.app [an.b x'.row]).app g7).app g8;have YC:=((fv.app [an.b x'.row]).app g7).app g8;refine Rs (A4 t0 t1 @sx @ly) ?_;refine⟨Xx,x',by rw[Tk];rfl,by rw[Tk];rfl,(fn3.aB λj hj=>?_).low ?_,(YC.aB λj hj=>?_).low ?_⟩
 ·exact z109
 ·exact NN
 ·exact Lk
 ·exact NN
end
end Go.Abs
