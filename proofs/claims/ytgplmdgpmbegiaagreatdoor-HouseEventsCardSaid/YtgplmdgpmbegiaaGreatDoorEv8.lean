/- A part of the proof that HouseEvents holds. No condition. -/
import Derived.Test.YtgplmdgpmbegiaaGreatDoorEv7
import Derived.Lib.Bytealg
import Derived.Test.YtgplmdgpmbegiaaGreatDoorEv6
import Derived.Lib.ItoaNum
import Derived.Lib.ItoaLen
import Derived.Lib.ItoaMem
import Derived.Lib.Join
import Derived.Test.YtgplmdgpmbegiaaGreatDoorEv0
set_option maxHeartbeats 4000000
set_option linter.all false
open Nat (reduceAdd reduceMul reduceLeDiff reduceEqDiff)
namespace Go.Abs
theorem vk:∀(l m:List eD) (H:iH) (i:Nat),gL H (l++m) i=if(gL H l i).2.2≠0 then gL H l i else gL (gL H l i).1 m (i+l.length)
 |[],m,H,i=>by simp[gL]
 |e::l,m,H,i=>by
  rw[aaa,gL,gL];by_cases h:eS H e≠0
  ·simp only[Zh h]
  ·simp only[Za h];rw[vk l m (kM H e) (i+1)];have:i+1+l.length=i+(e::l).length:=by simp only[YX];omega
   rw[this]
def rR(l:List eD)(e:eD):Int:=
 if(bn l).2.2≠0 then(bn l).2.2 else if eG e≠0 then eG e else if 1000<=l.length then 5 else(bn (l++[e])).2.2
def zG{l:List eD}{e:eD}(h:(bn l).2.2=0)(hl:l.length<1000):bn (l++[e])=if eS (bn l).1 e≠0 then(iH.zero,(l.length:Int)+1,eS (bn l).1 e)else(kM (bn l).1 e,0,0):=by
 have e1:bn l=gL iH.zero l 0:=by rw[bn,Za Om]
 have e2:bn (l++[e])=gL iH.zero (l++[e]) 0:=by rw[bn,Za (by simp;omega)]
 rw[e2,vk,<-e1,Za (λz=>z h),gL,ZN];rfl
def C1(l:List eD)(e:eD):rR l e=zj l e:=by
 unfold rR zj;by_cases h1:(bn l).2.2=0
 case neg=>
  have hf:aS [(bn l).2.2,eG e,bX (decide (1000<=l.length)) 5]=(bn l).2.2:=by rw[aS,Za h1]
  rw[Zh h1,hf,Zh h1]
 rw[Za (λz=>z h1)];by_cases h2:eG e=0
 case neg=>
  have hf:aS [(bn l).2.2,eG e,bX (decide (1000<=l.length)) 5]=eG e:=by rw[aS,Zh h1,aS,Za h2]
  rw[Zh h2,hf,Zh h2]
 rw[Za (λz=>z h2)];by_cases h3:1000<=l.length
 ·have hf:aS [(bn l).2.2,eG e,bX (decide (1000<=l.length)) 5]=5:=by
   rw[aS,Zh h1,aS,Zh h2,Y5 h3];rfl
  rw[Zh h3,hf,Zh De]
 ·have hf:aS [(bn l).2.2,eG e,bX (decide (1000<=l.length)) 5]=0:=by
   rw[aS,Zh h1,aS,Zh h2,YW h3];rfl
  rw[Za h3,hf,Za (λz=>z rfl),zG h1 Om];have hb:eS (bn l).1 e=jv (bn l).1 e:=by rw[eS,Za (λz=>z h2)]
  by_cases h4:eS (bn l).1 e=0
  ·rw[Za (λz=>z h4),<-hb,h4]
  ·rw[Zh h4,hb]
def fY(R:dJ):List eD->List dJ
 |[]=>[]
 |e::l=>jZ R e (ju e)::fY (jZ R e (ju e)) l
def zN(R:dJ):List eD->Prop
 |[]=>True
 |e::l=>(∃d,kj e d/\d≠.eZ)/\gQ R e (ju e)=0/\zN (jZ R e (ju e)) l
theorem lq:∀(l:List eD) (R:dJ) (e:eD),fY R (l++[e])=fY R l++[jZ ((fY R l).getLastD R) e (ju e)]
 |[],R,e=>rfl
 |x::l,R,e=>by
  rw[aaa,fY,fY,lq l,List.getLastD_cons];rfl
theorem ri:∀(l:List eD) (R:dJ) (e:eD),zN R (l++[e])↔zN R l/\(∃d,kj e d/\d≠.eZ)/\gQ ((fY R l).getLastD R) e (ju e)=0
 |[],R,e=>by simp[zN,fY]
 |x::l,R,e=>by
  rw[aaa,zN,zN,ri l,fY,List.getLastD_cons];exact⟨λ⟨a,b,c,d,f⟩=>⟨⟨a,b,c⟩,d,f⟩,λ⟨⟨a,b,c⟩,d,f⟩=>⟨a,b,c,d,f⟩⟩
def jA{α:Type}(l:List α):l=[]\/∃m x,l=m++[x]:=by
 rcases List.eq_nil_or_concat l with h|⟨m,x,h⟩
 ·exact .inl h
 ·exact .inr ⟨m,x,by rw[h,List.concat_eq_append]⟩
structure GD(H:iH):Prop where
 rg:H.cC=fY dJ.zero H.fe
 ok:zN dJ.zero H.fe
theorem GD.zero:GD iH.zero:=⟨rfl,trivial⟩
def GD.add{H:iH}{e:eD}(c:GD H)(w:kN H)(h:eS H e=0):GD (kM H e):=by
 obtain⟨h1,h2⟩:=CM h;obtain⟨d,we⟩:=rJ h1;obtain⟨h3,h4,h5⟩:=C2 h2;unfold kM;split
 case isTrue hu=>
  rcases jA H.fe with hn|⟨m,x,hm⟩
  ·exact absurd hn (h4 hu)
  ·have e1:=c.rg;have e2:=c.ok;rw[hm,lq]at e1;rw[hm,ri]at e2;exact⟨by rw[e1,hm,List.dropLast_concat,List.dropLast_concat],by rw[hm,List.dropLast_concat];exact e2.1⟩
 case isFalse hu=>
  have Vx:H.now=(fY dJ.zero H.fe).getLastD dJ.zero:=by rw[iH.now,c.rg]
  refine⟨?_,?_⟩
  ·show H.cC++_=fY dJ.zero (H.fe++[e]);rw[lq,<-Vx,c.rg]
  ·show zN dJ.zero (H.fe++[e]);rw[ri,<-Vx];exact⟨c.ok,⟨d,we,λz=>hu (by rw[we.ju,z])⟩,h5 hu⟩
theorem yL:∀(l:List eD) (H:iH) (i:Nat),GD H->kN H->(gL H l i).2.2=0->GD (gL H l i).1/\kN (gL H l i).1
 |[],H,_,c,w,_=>⟨c,w⟩
 |e::l,H,i,c,w,h=>by
  rw[gL]at h ⊢;by_cases hb:eS H e=0
  ·rw[Za (λz=>z hb)]at h ⊢;exact yL l _ _ (c.add w hb) (w.add hb) h
  ·rw[Zh hb]at h;exact absurd h hb
def yM{l:List eD}(h:(bn l).2.2=0):GD (bn l).1/\kN (bn l).1:=by
 unfold bn at h ⊢;split at h
 ·exact absurd h De
 case isFalse hl=>
 rw[Za hl];exact yL l _ _ .zero .zero h
def wy{R:dJ}{e:eD}{d:Kd}(h:gQ R e d=0):R.tick<=bF e 0:=by
 unfold gQ at h;split at h
 ·exact absurd h De
 ·omega
theorem nT:∀(l:List eD) (R:dJ),zN R l->∀e∈l,R.tick<=bF e 0
 |[],_,_,e,he=>by cases he
 |x::l,R,h,e,he=>by
  obtain⟨_,h2,h3⟩:=h;have ht:=wy h2;rcases ZG.1 he with rfl|he
  ·exact ht
  ·exact Int.le_trans ht (nT l _ h3 e he)
theorem te:∀(l:List eD) (R:dJ),zN R l->∀x∈fY R l,R.tick<=x.tick
 |[],_,_,e,he=>by cases he
 |x::l,R,h,e,he=>by
  obtain⟨_,h2,h3⟩:=h;have ht:=wy h2;rcases ZG.1 he with rfl|he
  ·exact ht
  ·exact Int.le_trans ht (te l _ h3 e he)
def tK(t:Int)(R:dJ)(e:eD):dJ:=if bF e 0<=t then jZ R e (ju e)else R
theorem rP:∀(l:List eD) (R:dJ) (t:Int),(∀e∈l,t<bF e 0)->l.foldl (tK t) R=R
 |[],_,_,_=>rfl
 |x::l,R,t,h=>by
  have:=h x (ZU ..);rw[aaB,tK,Za Om];exact rP l R t λe he=>h e (ZH _ he)
theorem wK:∀(l:List dJ) (R:dJ) (t:Int),(∀x∈l,t<x.tick)->l.foldl (λr x=>if x.tick<=t then x else r) R=R
 |[],_,_,_=>rfl
 |x::l,R,t,h=>by
  have:=h x (ZU ..);rw[aaB,Za Om];exact wK l R t λe he=>h e (ZH _ he)
theorem CU:∀(l:List eD) (R:dJ) (t:Int),zN R l->l.foldl (tK t) R=(fY R l).foldl (λr x=>if x.tick<=t then x else r) R
 |[],_,_,_=>rfl
 |e::l,R,t,h=>by
  obtain⟨_,h2,h3⟩:=h;rw[aaB,fY,aaB,tK];have hn:(jZ R e (ju e)).tick=bF e 0:=rfl;rw[hn];by_cases ht:bF e 0<=t
  ·simp only[Zh ht];exact CU l _ t h3
  ·simp only[Za ht];rw[rP,wK]
   ·intro x hx;have:=te l _ h3 x hx;rw[hn]at this;omega
   ·intro x hx;have:=nT l _ h3 x hx;rw[hn]at this;omega
def CV{l:List eD}{t:Int}(h:(bn l).2.2=0):(bn l).1.fe.foldl (tK t) dJ.zero=tJ (bn l).1.cC t:=by
 obtain⟨c,_⟩:=yM h;rw[CU _ _ _ c.ok,tJ,c.rg]
theorem rO:∀(l1 l2:List eD) (R:dJ) (e:eD) (t:Int),zN R (l1++e::l2)->ee R->ee (l1.foldl (tK t) R)/\(∃d,kj e d/\d≠.eZ)/\(bF e 0<=t->gQ (l1.foldl (tK t) R) e (ju e)=0)
 |[],l2,R,e,t,h,w=>⟨w,h.1,λ_=>h.2.1⟩
 |x::l1,l2,R,e,t,h,w=>by
  obtain⟨⟨d,wx,hd⟩,h2,h3⟩:=h;have RK:=wx.ju;have wn:ee (jZ R x (ju x)):=by rw[RK]at h2 ⊢;exact w.step wx hd h2
  obtain⟨a1,a2,a3⟩:=rO l1 l2 _ e t h3 wn;rw[aaB];by_cases ht:bF x 0<=t
  ·have:tK t R x=jZ R x (ju x):=by rw[tK,Zh ht]
   rw[this];exact⟨a1,a2,a3⟩
  ·have hx:tK t R x=R:=by rw[tK,Za ht]
   have hl:∀y∈l1,t<bF y 0:=λy hy=>by
    have:=nT _ _ h3 y (Y8.2 (.inl hy));have hn:(jZ R x (ju x)).tick=bF x 0:=rfl;omega
   have he:=nT _ _ h3 e Si;have hn:(jZ R x (ju x)).tick=bF x 0:=rfl;rw[hx,rP l1 R t hl];exact⟨w,a2,λz=>by omega⟩
def IF{l:List eD}{R:dJ}{t:Int}(h:zN R l)(w:ee R):ee (l.foldl (tK t) R):=by
 rcases jA l with rfl|⟨m,x,rfl⟩
 ·exact w
 ·obtain⟨a1,⟨d,wx,hd⟩,a3⟩:=rO m [] R x t h w;rw[aaO];show ee (tK t _ x);unfold tK;split
  case isTrue ht=>have:=a3 ht;rw[wx.ju]at this ⊢;exact a1.step wx hd this
  case isFalse=>exact a1
def lh(l:List eD)(n:Int):Bool:=decide ((l.length:Int)<=n)&&l.all λe=>decide (e.kind.length<=40)&&decide (e.names.length<=6)&&decide (e.cB.length<=8)&&decide (e.text.length<=200)&&e.names.all λx=>decide (x.length<=40)
def bL(c:UInt8):By->List (By)
 |[]=>[[]]
 |x::r=>
  if x=c then []::bL c r
  else match bL c r with
   |p::ps=>(x::p)::ps
   |[]=>[[x]]
def jU{c:UInt8}:∀{s:By},bL c s≠[]
 |[]=>by simp[bL]
 |x::r=>by
  unfold bL;split
  ·simp
  ·split<;>simp
theorem sQ{c:UInt8}:∀{s:By},c∉s->bL c s=[s]
 |[],_=>rfl
 |x::r,h=>by
  unfold bL;rw[Za (λe=>h (by simp[e])),sQ (λhr=>h (ZH _ hr))]
theorem qR{c:UInt8}{q:By}:∀{p:By},c∉p->bL c (p++c::q)=p::bL c q
 |[],_=>by simp[bL]
 |x::r,h=>by
  rw[aaa,bL,Za (λe=>h (by simp[e])),qR (λhr=>h (ZH _ hr))]
theorem qQ{c:UInt8}:∀{s:By},(bL c s).length=s.count c+1
 |[]=>rfl
 |x::r=>by
  have ih:=qQ (c:=c) (s:=r);unfold bL;by_cases h:x=c
  ·subst h;rw[Zh rfl,YX,ih,List.count_cons_self]
  ·rw[Za h,List.count_cons_of_ne h];cases hs:bL c r with
   |nil=>exact absurd hs jU
   |cons p ps=>rw[hs]at ih;simpa using ih
theorem sR{c:UInt8}:∀{s:By},∀p∈bL c s,p.length<=s.length
 |[]=>by simp[bL]
 |x::r=>by
  have ih:=sR (c:=c) (s:=r);intro p hp;unfold bL at hp;rw[YX];by_cases h:x=c
  ·rw[Zh h]at hp;rcases ZG.1 hp with rfl|hp
   ·simp
   ·have:=ih p hp;omega
  ·rw[Za h]at hp;cases hs:bL c r with
   |nil=>exact absurd hs jU
   |cons q qs=>
    rw[hs]at hp ih;rcases ZG.1 hp with rfl|hp
    ·have:=ih q Si;rw[YX];omega
    ·have:=ih p (by simp[hp]);omega
def jn(c:UInt8):List (By)->By
 |[]=>[]
 |[p]=>p
 |p::ps=>p++c::jn c ps
def ni{c:UInt8}{p:By}{r:List (By)}(h:r≠[]):jn c (p::r)=p++c::jn c r:=by
 cases r with
 |nil=>exact absurd rfl h
 |cons=>rfl
theorem jG{c:UInt8}:∀{s:By},jn c (bL c s)=s
 |[]=>rfl
 |x::r=>by
  have ih:=jG (c:=c) (s:=r);unfold bL;by_cases h:x=c
  ·subst h;rw[Zh rfl];cases hs:bL x r with
   |nil=>exact absurd hs jU
   |cons p ps=>rw[hs]at ih;rw[jn,ih]<;>simp
  ·rw[Za h];cases hs:bL c r with
   |nil=>exact absurd hs jU
   |cons p ps=>
    rw[hs]at ih;cases ps with
    |nil=>rw[jn]at ih ⊢;rw[ih]
    |cons q qs=>
     rw[jn]at ih ⊢<;>first|(rw[<-ih];rfl)|simp
theorem Gb{c:UInt8}:∀{s:By},c∉s->Lib.indexByte s c= -1
 |[],_=>rfl
 |x::r,h=>by
  unfold Lib.indexByte;have h1:(x==c)=false:=by simp;exactλe=>h (by simp[e])
  rw[h1,Gb (λhr=>h (ZH _ hr))];rfl
theorem Ci{c:UInt8}{q:By}:∀{p:By},c∉p->Lib.indexByte (p++c::q) c=p.length
 |[],_=>by simp[Lib.indexByte]
 |x::r,h=>by
  have ih:=Ci (q:=q) (λhr=>h (ZH _ hr):c∉r);rw[aaa,Lib.indexByte];have h1:(x==c)=false:=by simp;exactλe=>h (by simp[e])
  rw[h1,ih];have h2:((r.length:Int) == -1)=false:=Si
  rw[h2];simp
def vU(c:UInt8)(s:By):(c∉s/\Lib.indexByte s c= -1)\/∃p q,c∉p/\s=p++c::q/\Lib.indexByte s c=p.length:=by
 by_cases h:c∈s
 ·right
  obtain⟨p,q,rfl,hp⟩:=List.eq_append_cons_of_mem h;exact⟨p,q,hp,rfl,Ci hp⟩
 ·exact .inl ⟨h,Gb h⟩
def Cy(s:By):Int:=s.foldl (λn c=>10*n+((c.toNat:Int)-48)) 0
def iP(s:By):Bool:=!decide (s.length=0)&&decide (s.length<=9) && !(decide (1<s.length)&&decide (s.head? =some 48))&&s.all fp
def rH(s:By):Bool:=!decide (s=[])&&s.all fp
def kX(s:By):Int:=if iP s then Cy s else 0
def Ey:Nat->Nat->By
 | 0,u=>[UInt8.ofNat (48+u)]
 |f+1,u=>
  match Nat.blt u 10 with
  |true=>[UInt8.ofNat (48+u)]
  |false=>Ey f (u / 10)++[UInt8.ofNat (48+u%10)]
theorem y8:∀(f u:Nat),u<10^(f+1)->Ey f u=Lib.decDigits u
 | 0,u,h=>by rw[Lib.decDigits,dif_pos (by simpa using h)];rfl
 |f+1,u,h=>by
  unfold Ey;cases hb:Nat.blt u 10 with
  |true=>rw[Lib.decDigits,dif_pos (by rw[Nat.blt_eq]at hb;exact hb)]
  |false=>
   have hn:¬u<10:=λx=>by rw[<-Nat.blt_eq,hb]at x;cases x
   rw[Lib.decDigits,dif_neg hn,y8 f (u / 10) (by rw[Nat.pow_succ]at h;omega)]
def jH(n:Int):By:=Ey n.toNat n.toNat
def kI(n:Int):jH n=Lib.decDigits n.toNat:=y8 _ _ (Nat.lt_trans (Nat.lt_succ_self _) (Nat.lt_pow_self De))
def iF(s:By):Int:=s.foldl (λx c=>(339*x+(c.toNat:Int)).tmod 9999749) 1
def nE(s:By):By:=List.replicate (7-(jH (iF s)).length) 48++jH (iF s)
def wF(e:eD):List (By):=[jH e.num,e.kind]++e.names++e.cB.map jH
def iQ(e:eD):By:=jn 32 (wF e)
def vu(e:eD):By:=iQ e++[35]++nE (iQ e)++[10]
def vL(l:List eD):By:=(l.map vu).flatten
def bT:List (By)->Bool->By×List (By)×Bool
 |[],_=>([],[],true)
 |w::r,wr=>if w=[]then([],[],true)else(w,r,wr)
def da:Nat->List (By)->Bool->List (By)×List (By)×Bool
 | 0,ws,b=>([],ws,b)
 |n+1,ws,b=>((bT ws b).1:: (da n (bT ws b).2.1 (bT ws b).2.2).1,(da n (bT ws b).2.1 (bT ws b).2.2).2)
def fE:Nat->List (By)->Bool->List Int×List (By)×Bool
 | 0,ws,b=>([],ws,b)
 |n+1,ws,b=>(kX (bT ws b).1:: (fE n (bT ws b).2.1 ((bT ws b).2.2 || !iP (bT ws b).1)).1,(fE n (bT ws b).2.1 ((bT ws b).2.2 || !iP (bT ws b).1)).2)
def lB:eD:=⟨0,[],[],[],[]⟩
def eQ(ws:List (By)):eD×Bool:=
 match gO (bT ws false).1 with
 |none=>(lB,false)
 |some d=>
  let n:=da (bM d).length (bT ws false).2.1 (bT ws false).2.2
  let v:=fE (cE d) n.2.1 n.2.2
  (⟨0,bA d,n.1,v.1,[]⟩,!v.2.2&&decide (v.2.1.length=0))
def fq(c:UInt8):By->By×By×Bool
 |[]=>([],[],false)
 |x::r=>if x=c then([],r,true)else(x:: (fq c r).1,(fq c r).2)
def fQ(s:By)(n:Int):eD×Int:=
 if s.length<8 then(lB,25)else
 if s.getD (s.length-8) 0≠35\/¬rH (s.drop (s.length-7))=true then(lB,25)else
 if nE (s.take (s.length-8))≠s.drop (s.length-7)then(lB,27)else
 let h:=fq 32 (s.take (s.length-8))
 let e:=eQ (bL 32 h.2.1)
 if !iP h.1 || !e.2||decide (eG {e.1 with num:=kX h.1}≠0)then(lB,25)else
 ({e.1 with num:=kX h.1},bX (decide (kX h.1≠n)) 11)
def ra:Nat->By->List eD->Nat->List eD×Int×Int
 | 0,_,l,a=>(l,(a:Int),0)
 |f+1,s,l,a=>
  if s=[]then(l,(a:Int),0)else
  if !(fq 10 s).2.2 then(l,(a:Int),28)else
  let e:=fQ (fq 10 s).1 ((l.length:Int)+1)
  if e.2≠0 then(l,(a:Int),e.2)else ra f (fq 10 s).2.1 (l++[e.1]) (a+(fq 10 s).1.length+1)
def lz(s:By):List eD×Int×Int:=if 1000000<s.length then([],0,26)else ra (s.length+1) s [] 0
def kV(w:By):Option (Nat×Bool×Nat):=
 if w=[108,101,102,116]then some (0,true,4)else
 if w=[102,114,111,109]then some (1,true,5)else
 if w=[108,105,110,101,115]then some (2,true,3)else
 if w=[117,110,115,97,102,101]then some (3,false,2)else
 if w=[116,97,112,101,115]then some (4,true,2)else
 if w=[114,101,108,101,97,115,101,100]then some (5,false,5)else
 if w=[119,97,110,116]then some (6,true,0)else none
def sf(l:List qm):List (By):=(l.map λp=>if p.rel then [p.name,jH p.lI]else []).flatten
def kK(R:dJ)(n:By):Nat->List (By)
 | 0=>(cU (gB R n).bt 0).map jH
 | 1=>sZ R n
 | 2=>(iT R n).map gZ.name
 | 3=>ko R R.tick
 | 4=>(qU R n).aE
 | 5=>sf R.aI
 |_=>[jH (zO R n).length,jH (dN R n).want,if(dN R n).acc then [97,99,99,101,112,116,101,100]else [111,112,101,110]]
def yp(l:List (By)):By:=if l=[]then [110,111,110,101]else jn 32 l
def nB(R:dJ)(ws:List (By))(q:Nat×Bool×Nat):By×Int:=
 let n:=if q.2.1=true/\ws.length=2 then ws.getD 1 []else []
 if(q.2.1=true/\¬(ws.length=2/\n≠[]))\/(q.2.1=false/\ws.length≠1)then([],25)else
 if q.2.1=true/\dX R q.2.2 n=false then([],10)else(yp (kK R n q.1),0)
def An(H:iH)(s:By):iH×By×Int:=
 if 4096<s.length then(H,[],26)else
 if s=[]then(H,[],25)else
 match kV ((bL 32 s).headD [])with
 |some q=>(H,nB H.now (bL 32 s) q)
 |none=>
  match gO ((bL 32 s).headD [])with
  |none=>(H,[],13)
  |some _=>
   if !(eQ (bL 32 s)).2 then(H,[],25)else
   if 1000<=H.dm.length then(H,[],5)else
   let e:={ (eQ (bL 32 s)).1 with num:=(H.dm.length:Int)+1}
   if eS H e≠0 then(H,[],eS H e)else(kM H e,[100,111,110,101,32]++jH e.num,0)
structure C4(P:Program):Prop where
 ib:∀(args:Array Value) (w:World),(callFunc 288 args).run P w=((Extern.BytealgIndexByte.indexByte args).run P w).andThen λv w'=>.ok (.value v) w'
 ct:∀(args:Array Value) (w:World),(callFunc 262 args).run P w=((Extern.BytealgCount.count args).run P w).andThen λv w'=>.ok (.value v) w'
def Bf(c:UInt8):(c.toNat:Int).toNat.toUInt8=c:=Si
def qT{s}{n:Nat}{kk}(hn:n<=s.length):uZ (.str s) none (some (.int kk (n:Int)))=some (.str (s.take n)):=by
 simp only[uZ,jI hn,aao,Nat.sub_zero]
def ku{s}{n:Nat}{kk}(hn:n<=s.length):uZ (.str s) (some (.int kk (n:Int))) none=some (.str (s.drop n)):=by
 simp only[uZ,ml hn];rw[ZL Si]
def tT{p r kk}:uZ (.str (p++r)) none (some (.int kk (p.length:Int)))=some (.str p):=by
 rw[qT Si];simp
def nJ{p r c kk}:uZ (.str (p++c::r)) (some (.int kk ((p.length+1:Nat):Int))) none=some (.str r):=by
 rw[ku Si];simp
def yI{α:Type}{don:List α}{z q:α}{m k:Nat}(hk:don.length=k)(hm:0<m):(don++List.replicate m z).set k q=(don++[q])++List.replicate (m-1) z:=by
 subst hk;obtain⟨n,rfl⟩:∃n,m=n+1:=⟨m-1,Om⟩;rw[aaw,ZY _ _ (Zc _),Z6];simp
section
variable {P:Program}(X:C4 P) {h:ah}
include X
def Nd(s:By)(c:UInt8):bH P (.func (.func 288) [] []) [.str s,.int .u8 c.toNat] h (λv h'=>v=.int .i64 (Lib.indexByte s c)/\h' =h):=by
 refine⟨_,[],?_,rfl,Si⟩;rw[Zr];intro m w cv vs hr hf hargs;rw[VR]at hf;obtain⟨f',a',c',rfl,hfn,ha,hc⟩:=hf;simp only[AN]at hfn;subst hfn;rw[bE]at ha hc;subst ha;subst hc;obtain⟨v1,vs1,rfl,h1,hargs⟩:=aR.1 hargs;obtain⟨v2,vs2,rfl,h2,hargs⟩:=aR.1 hargs;rw[bE]at hargs;subst hargs;have h1:v1=.string ⟨⟨s⟩⟩:=h1;have h2:v2=.int .u8 (c.toNat:Int):=h2;subst h1;subst h2;refine⟨_,λw=>rfl,?_⟩;simp only[invoke];rw[X.ib];have e:=Lib.run_indexByteString (P:=P) ⟨⟨s⟩⟩ (c.toNat:Int) w;rw[Bf]at e;have e':(Extern.BytealgIndexByte.indexByte (#[]++#[.string ⟨⟨s⟩⟩,.int .u8 (c.toNat:Int)]++#[])).run P w=.ok (.int .i64 (Lib.indexByte s c)) w:=by simpa using e
 exact Qr
def Nf(s:By)(c:UInt8):bH P (.func (.func 262) [] []) [.str s,.int .u8 c.toNat] h (λv h'=>v=.int .i64 (s.count c:Nat)/\h' =h):=by
 refine⟨_,[],?_,rfl,Si⟩;rw[Zr];intro m w cv vs hr hf hargs;rw[VR]at hf;obtain⟨f',a',c',rfl,hfn,ha,hc⟩:=hf;simp only[AN]at hfn;subst hfn;rw[bE]at ha hc;subst ha;subst hc;obtain⟨v1,vs1,rfl,h1,hargs⟩:=aR.1 hargs;obtain⟨v2,vs2,rfl,h2,hargs⟩:=aR.1 hargs;rw[bE]at hargs;subst hargs;have h1:v1=.string ⟨⟨s⟩⟩:=h1;have h2:v2=.int .u8 (c.toNat:Int):=h2;subst h1;subst h2;refine⟨_,λw=>rfl,?_⟩;simp only[invoke];rw[X.ct];have e:=Lib.run_countString (P:=P) ⟨⟨s⟩⟩ (c.toNat:Int) w;rw[Bf]at e;have e':(Extern.BytealgCount.count (#[]++#[.string ⟨⟨s⟩⟩,.int .u8 (c.toNat:Int)]++#[])).run P w=.ok (.int .i64 (s.count c:Nat)) w:=by simpa [Lib.countByte]using e
 exact Qr
end
attribute [local irreducible] WP WC WE WB WR WF WL WG fR
section
variable {P:Program}(T:fA P) (X:C4 P) {h:ah}
include T X
def r272(s:By)(c:UInt8):aA P 272 [.str s,.int .u8 c.toNat] h (λv _=>v=.int .i64 (Lib.indexByte s c)):=by
 refine .of T.mix T.c272 ?_;unfold fn272 Kn;refine Wn ?_;refine WF.val (Nd X s c) ?_;rintro _ g ⟨rfl,hg⟩;exact Wn Tv
def r221(s:By)(c:UInt8):aA P 221 [.str s,.str [c]] h (λv _=>v=.int .i64 (s.count c:Nat)):=by
 refine .of T.mix T.c221 ?_;unfold fn221 gA;simp only[aO,aQ,aY,aZ,reduceAdd,reduceMul,reduceLeDiff,reduceEqDiff,Zt,show decide (((1:Nat):Int)=0)=false from rfl,show decide (((1:Nat):Int)=1)=true from rfl,vS];refine WF.val (Nf X s c) ?_;rintro _ g ⟨rfl,hg⟩;exact Wn Tv
def r253(s:By)(c:UInt8):aA P 253 [.str s,.str [c]] h (λv _=>v=.int .i64 (Lib.indexByte s c)):=by
 refine .of T.mix T.c253 ?_;unfold fn253 gA;by_cases hs:[c]=s
 ·have d1:decide ([c]=s)=true:=Y5 hs;have e:Lib.indexByte s c=0:=by rw[<-hs];simp[Lib.indexByte]
  simp only[aO,aQ,aY,aZ,reduceAdd,reduceMul,reduceLeDiff,reduceEqDiff,Zt,show decide (((1:Nat):Int)=0)=false from rfl,d1,e]
 ·have d1:decide ([c]=s)=false:=YW hs;simp only[aO,aQ,aY,aZ,reduceAdd,reduceMul,reduceLeDiff,reduceEqDiff,Zt,show decide (((1:Nat):Int)=0)=false from rfl,show decide (((1:Nat):Int)=1)=true from rfl,d1,vS];refine WF.ce T.c272 (r272 T X s c) λg=>?_
  exact Wn Tv
def r222(s:By)(c:UInt8):aA P 222 [.str s,.str [c]] h (λv _=>v=.int .i64 (Lib.indexByte s c)):=by
 refine .of T.mix T.c222 ?_;unfold fn222 gA;refine Wn ?_;refine WF.ce T.c253 (r253 T X s c) λg=>?_
 exact Wn Tv
set_option maxRecDepth 10000 in
def r128(s:By)(c:UInt8)(hs:s.length<=2^40):aA P 128 [.str s,.str [c],.int .i64 0,.int .i64 (-1)] h (λv h'=>aK h' v 1 ((bL c s).map aq)):=by
 refine .of T.mix T.c128 ?_;obtain⟨ts,RD⟩:∃ts,ts=aV 66 [.str s,.str [c],.int .i64 0,.int .i64 (-1)]:=⟨_,rfl⟩;have hlen:ts.length=66:=by rw[RD];rfl
 have t0:slot ts 0=.str s:=by rw[RD];rfl
 have t1:slot ts 1=.str [c]:=by rw[RD];rfl
 have t2:slot ts 2=.int .i64 0:=by rw[RD];rfl
 have t3:slot ts 3=.int .i64 (-1):=by rw[RD];rfl
 unfold fn128 gA;show WC P bJ _ [] (aV 66 [.str s,.str [c],.int .i64 0,.int .i64 (-1)]) h _;rw[<-RD];clear RD;have hcnt:s.count c<=s.length:=List.count_le_length;have w1:IntKind.i64.wrap ((s.count c:Int)+1)=((s.count c+1:Nat):Int):=by rw[bz Om Om];omega
 have w2:IntKind.i64.wrap ((s.length:Int)+1)=((s.length+1:Nat):Int):=by rw[bz Om Om];omega
 have e1:min ((s.count c+1:Nat):Int) ((s.length+1:Nat):Int)=((s.count c+1:Nat):Int):=Om
 have w3:IntKind.i64.wrap (((s.count c+1:Nat):Int)-1)=((s.count c:Nat):Int):=by rw[bz Om Om];omega
 have dn:decide ([c]=([] :By))=false:=YW Si;have d1:decide ((-1:Int)=0)=false:=rfl;have d2:decide (-1<(0:Int))=true:=rfl;refine Rs (A7 t0 t1 t2 t3 @dn @d1 @d2) ?_;refine WF.ce T.c221 (r221 T X s c) λg1=>?_
 repeat (first|simp (config:={maxSteps:=1000000}) only[aO,aQ,aY,aZ,reduceAdd,reduceMul,reduceLeDiff,reduceEqDiff,ba,hlen,Zi,Zk,t0,t1,t2,t3,w1,w2,e1,w3,nU (es:=1) (w:=16) (N0:=(h++g1).length) (n:=s.count c+1) (z:=[AV.str []]) (k:=.i64) (k':=.i64) Om Om]|simp (config:={maxSteps:=1000000}) (disch:=first|(simp only[YT,YX,Y6]<;>omega)|rfl|omega|fail) only[dP,aO,aQ,aY,aZ,reduceAdd,reduceMul,reduceLeDiff,reduceEqDiff,ba,hlen,Zi,Zk,t0,t1,t2,t3,w1,w2,e1,w3,nU (es:=1) (w:=16) (N0:=(h++g1).length) (n:=s.count c+1) (z:=[AV.str []]) (k:=.i64) (k':=.i64) Om Om])
 have hF:=Fr.A1 (N:=h.length) (n:=s.count c+1) (h:=h++g1) (z:=[AV.str []]) (es:=1) Si rfl;obtain⟨sv,hsv⟩:∃sv,sv=AV.slice (h++g1).length 0 (s.count c+1) 1:=⟨_,rfl⟩;rw[<-hsv]at hF ⊢;have er:List.replicate (s.count c+1) [AV.str []]=(List.replicate (s.count c+1) ([] :By)).map aq:=by simp[aq]
 rw[er,YV]at hF;rw[YV];refine WL.inv T.mix (λn ts' h'=>∃(k:Nat) (don:List (By)) (q:By) (g':ah),don.length=k/\bL c s=don++bL c q/\k+q.count c=s.count c/\n=s.count c-k/\h' =h++g'/\Fr h.length h' sv 1 ((don++List.replicate (s.count c+1-k) ([] :By)).map aq)/\ts'.length=66/\slot ts' 0=.str q/\slot ts' 1=.str [c]/\slot ts' 2=.int .i64 0/\slot ts' 3=.int .i64 ((s.count c:Nat):Int)/\slot ts' 9=sv/\slot ts' 10=.int .i64 k) (s.count c)
  ⟨0,[],s,_,rfl,rfl,Om,rfl,rfl,hF,(Sq t0),(Sq t0),(Sq t1),(Sq t2),(Sq t0),(Sq t0),fV⟩ ?_
 rintro _ ts' _ ⟨k,don,q,g',hdl,U6,hkc,rfl,rfl,hF',S0,u0,u1,u2,u3,u9,X3⟩;clear hlen t0 t1 t2 t3;have hlen:=S0;have Wm:k<(don++List.replicate (s.count c+1-k) ([] :By)).length:=by simp;omega
 have hql:q.length<=s.length:=by
  have e1:=jG (c:=c) (s:=s);have:∀(d:List (By)) (z:List (By)),(jn c z).length<=(jn c (d++z)).length:=by
   intro d
   induction d with
   |nil=>intro z;exact Zc _
   |cons x d ih=>
    intro z;by_cases hz:d++z=[]
    ·have:z=[]:=by simp at hz;exact hz.2
     subst this;simp[jn]
    ·rw[aaa,ni hz];have:=ih z;simp;omega
  have:=this don (bL c q);rw[<-U6,jG,jG]at this;exact this
 rcases vU c q with⟨hno,hix⟩|⟨p,q',hp,hq,hix⟩
 ·have hc0:q.count c=0:=List.count_eq_zero.2 hno;have e3:¬(k:Int)<((s.count c:Nat):Int):=Om
  have ek:s.count c+1-k=1:=Om
  have ixk:=hF'.aW.c8 (kk:=.i64) Wm;have w4:IntKind.i64.wrap ((k:Int)+1)=((k+1:Nat):Int):=by rw[bz Om Om];omega
  refine Rs (A9 @u0 @u1 @u2 @u3 @u9 @X3 e3 @Zx @ixk) ?_;refine WR.vw (h0:=h) (off:=0) (x':=q) hF' Wm De rfl (by simp[aq]) ?_;intro g3 YB XS _;rw[yI hdl Om,ek]at XS;simp only[Z6,abp,Zr]at XS;have esp:don++[q]=bL c s:=by rw[U6,sQ hno]
  rw[esp]at XS;have T0:iZ none (some (AV.int .i64 ((k+1:Nat):Int))) (bL c s).length=some (0,k+1):=jI (by rw[<-esp];simp;omega);obtain⟨s',es',RC⟩:=XS.aW.FP T0;refine Rs (A8 @u0 @u1 @u2 @u3 @u9 @X3 @w4 @es') ?_;have et:List.take (k+1-0) (List.drop 0 (bL c s))=bL c s:=by
   rw[aao,ZL (by rw[<-esp];simp;omega)]
  rw[et]at RC;exact RC
 ·have hcq:q.count c=q'.count c+1:=by rw[hq,List.count_append,List.count_eq_zero.2 hp,List.count_cons_self];omega
  have e3:(k:Int)<((s.count c:Nat):Int):=Om
  refine Rs (A8 @u0 @u1 @u2 @u3 @u9 @X3 e3 @Zp) ?_;refine WF.ce T.c222 (r222 T X q c) λg2=>?_
  have ixk:=(hF'.app g2).aW.c8 (kk:=.i64) Wm;have w4:IntKind.i64.wrap ((k:Int)+1)=((k+1:Nat):Int):=by rw[bz Om Om];omega
  have UQ:p.length<q.length:=by rw[hq];simp
  have w5:IntKind.i64.wrap ((p.length:Int)+0)=(p.length:Int):=by rw[bz Om Om];omega
  have w6:IntKind.i64.wrap ((p.length:Int)+((1:Nat):Int))=((p.length+1:Nat):Int):=by rw[bz Om Om];omega
  have dp:decide ((p.length:Int)<0)=false:=YW Om;have hF2:=hF'.app g2;rw[YV]at hF2 ⊢;rw[hix];subst hq
  repeat (first|simp (config:={maxSteps:=1000000}) only[aO,aQ,aY,aZ,reduceAdd,reduceMul,reduceLeDiff,reduceEqDiff,ba,hlen,Zi,Zk,u0,u1,u2,u3,u9,X3,dp,w5,ixk,tT,Zt,w6,nJ]|simp (config:={maxSteps:=1000000}) (disch:=first|(simp only[YT,YX,Y6]<;>omega)|rfl|omega|fail) only[dP,aO,aQ,aY,aZ,reduceAdd,reduceMul,reduceLeDiff,reduceEqDiff,ba,hlen,Zi,Zk,u0,u1,u2,u3,u9,X3,dp,w5,ixk,tT,Zt,w6,nJ])
  refine WR.vw (h0:=h) (off:=0) (x':=p) hF2 Wm De rfl (by simp[aq]) ?_;intro g3 YB XS _;rw[yI hdl Om]at XS
  repeat (first|simp (config:={maxSteps:=1000000}) only[aO,aQ,aY,aZ,reduceAdd,reduceMul,reduceLeDiff,reduceEqDiff,ba,hlen,Zi,Zk,u0,u1,u2,u3,u9,X3,Zt,w6,nJ,w4]|simp (config:={maxSteps:=1000000}) (disch:=first|(simp only[YT,YX,Y6]<;>omega)|rfl|omega|fail) only[dP,aO,aQ,aY,aZ,reduceAdd,reduceMul,reduceLeDiff,reduceEqDiff,ba,hlen,Zi,Zk,u0,u1,u2,u3,u9,X3,Zt,w6,nJ,w4])
  have em:s.count c+1-k-1=s.count c+1-(k+1):=Om
  rw[em]at XS;exact⟨s.count c-(k+1),Om,k+1,don++[p],q',g3,by simp[hdl],by rw[U6,qR hp];simp,Om,rfl,rfl,XS,rfl,rfl⟩
def r64(s:By)(c:UInt8)(hs:s.length<=2^40):aA P 64 [.str s,.str [c]] h (λv h'=>aK h' v 1 ((bL c s).map aq)):=by
 refine .of T.mix T.c64 ?_;unfold fn64 gA;refine Wn ?_;refine WF.res T.c128 (r128 T X s c hs) ?_;intro v g hv;refine Wn ?_;exact hv
omit T X in
theorem y9{c}:∀{s},c∉s->fq c s=(s,[],false)
 |[],_=>rfl
 |x::r,h=>by
  simp only[ZG,not_or]at h;rw[fq,Za (λe=>h.1 e.symm),y9 h.2]
omit T X in
theorem wC{c}:∀{p q},c∉p->fq c (p++c::q)=(p,q,true)
 |[],q,_=>by rw[aaA,fq,Zh rfl]
 |x::r,q,h=>by
  simp only[ZG,not_or]at h;rw[aaa,fq,Za (λe=>h.1 e.symm),wC h.2]
def r188(s:By)(c:UInt8)(hs:s.length<=2^40):aA P 188 [.str s,.str [c]] h (λv _=>v=.dL [.str (fq c s).1,.str (fq c s).2.1,.bool (fq c s).2.2]):=by
 refine .of T.mix T.c188 ?_;unfold fn188 gA;refine Wn ?_;refine WF.ce T.c253 (r253 T X s c) λg=>?_
 rcases vU c s with⟨hno,hix⟩|⟨p,q,hp,hq,hix⟩
 ·refine Ws (A2 @hix (show decide ((0:Int)<=-1)=false from rfl)) ?_;rw[y9 hno]
 ·have d1:decide ((0:Int)<=(p.length:Int))=true:=Y5 Om;have UQ:p.length<s.length:=by rw[hq];simp
  have w6:IntKind.i64.wrap ((p.length:Int)+((1:Nat):Int))=((p.length+1:Nat):Int):=by rw[bz Om Om];omega
  rw[hix];subst hq;simp only[aO,aQ,aY,aZ,reduceAdd,reduceMul,reduceLeDiff,reduceEqDiff,d1,Zt,w6,tT,nJ];rw[wC hp]
def r98(s:By)(c:UInt8)(hs:s.length<=2^40):aA P 98 [.str s,.str [c]] h (λv _=>v=.dL [.str (fq c s).1,.str (fq c s).2.1,.bool (fq c s).2.2]):=by
 refine .of T.mix T.c98 ?_;unfold fn98 gA;refine Wn ?_;refine WF.ce T.c188 (r188 T X s c hs) λg=>?_
 exact Wn Tv
end
def Pw(h:ah):Prop:=∃mu tl,h[2]? =some (.cells (Lib.pow10Tab.map (AV.int .u64)) mu tl)
def Pw.ext{h k}(o:Pw h)(e:Ext h k):Pw k:=by
 obtain⟨mu,tl,hb⟩:=o;exact⟨mu,tl,e.some hb⟩
structure qq(P:Program):Prop where
 itoa:∀{h:ah}{n:Int},-9223372036854775808<=n->n<=9223372036854775807->Pw h->aA P 113 [.i n] h (λv _=>v=.str (Lib.itoa n))
 join:∀{h:ah}{s:AV}{sep:By}{xs:List (By)},aK h s 1 (xs.map aq)->(Lib.join xs sep).length<=140737488355328/\xs.length<=140737488355328->aA P 114 [s,.str sep] h (λv _=>v=.str (Lib.join xs sep))
 atoi:∀{h:ah}{s:By},s.all fp=true->s≠[]->s.length<=9->aA P 254 [.str s] h (λv _=>v=.dL [.i (Cy s),.kC])
 rep:∀{h:ah}{n:Nat},n<=7->aA P 252 [.str [48],.i (n:Nat)] h (λv _=>v=.str (List.replicate n 48))
def gC{n}(h:0<=n):Lib.itoa n=jH n:=by rw[kI];unfold Lib.itoa;rw[Za Om]
theorem l9:∀{k u},u<10^(k+1)->(Lib.decDigits u).length<=k+1
 | 0,u,h=>by rw[Lib.decDigits,dif_pos (by simpa using h)];simp
 |k+1,u,h=>by
  by_cases hu:u<10
  ·rw[Lib.decDigits,dif_pos hu];simp
  ·rw[Lib.decDigits,dif_neg hu,YT];have:=l9 (k:=k) (u:=u / 10) (by rw[Nat.pow_succ]at h;omega);simp;omega
def kH{c}:fp c=true↔48<=c.toNat/\c.toNat<=57:=by simp[fp]
def mQ{α:Type}{s:List α}{k:Nat}(hk:k<s.length):s.take (k+1)=s.take k++[s[k]]:=by
 rw[ZJ,YZ hk];rfl
def gK(sw:AV)(wr:Bool):ak:=.b [sw,.bool wr]
section
variable {P:Program}(T:fA P) {h A B:ah}
include T
set_option maxRecDepth 10000 in
def r189(s:By)(hs:s.length<=2^40):aA P 189 [.str s] h (λv _=>v=.bool (rH s)):=by
 refine .kr 18 T.mix T.c189 ?_;intro ts hlen t0;unfold fn189 gA;refine Rs t0 ?_;refine WL.inv T.mix (λn ts' h'=>∃k:Nat,k<=s.length/\n=s.length-k/\h' =h++[.iter s k]/\(s.take k).all fp=true/\ts'.length=18/\slot ts' 0=.str s/\slot ts' 6=.ptr h.length 0) s.length
  ⟨0,Om,rfl,rfl,rfl,(Sq t0),(Sq t0),(Sq t0)⟩ ?_
 rintro _ ts' _ ⟨k,hk,rfl,rfl,hd,S0,u0,u6⟩;clear hlen t0;have hlen:=S0;by_cases hlt:k<s.length
 ·obtain⟨c,w,T9,hcw⟩:∃c w,Utf8.decode ⟨⟨s⟩⟩ k=(c,w)/\(c=s[k].toNat/\w=1/\s[k].toNat<128\/128<=c/\128<=s[k].toNat):=by
   by_cases hc:s[k].toNat<128
   ·exact⟨_,_,dec_lt hlt hc,.inl ⟨rfl,rfl,hc⟩⟩
   ·exact Jv
  have hall:fp s[k]=false->AV.bool false=AV.bool (rH s):=λhx=>by
   have:s.all fp=false:=by rw[List.all_eq_false];exact⟨s[k],Zb hlt,by simp[hx]⟩
   simp only[rH,this,Bool.and_false]
  by_cases a5:(48:Int)<=c
  ·by_cases a6:(c:Int)<=57
   ·have hc:c=s[k].toNat/\w=1:=Om
    obtain⟨rfl,rfl⟩:=hc;have hy:fp s[k]=true:=kH.2 Om;have d1:decide ((s[k].toNat:Int)<48)=false:=YW Om;have d2:decide ((57:Int)<(s[k].toNat:Int))=false:=YW Om
    repeat (first|simp (config:={maxSteps:=1000000}) only[aO,aQ,aY,aZ,reduceAdd,reduceMul,reduceLeDiff,reduceEqDiff,ba,hlen,Zi,Zk,u0,u6,ep,hlt,Zk,T9,d1,d2]|simp (config:={maxSteps:=1000000}) (disch:=first|(simp only[YT,YX,Y6]<;>omega)|rfl|omega|fail) only[dP,aO,aQ,aY,aZ,reduceAdd,reduceMul,reduceLeDiff,reduceEqDiff,ba,hlen,Zi,Zk,u0,u6,ep,hlt,Zk,T9,d1,d2])
    refine⟨s.length-(k+1),Om,k+1,Om,rfl,rfl,?_,trivial⟩;rw[mQ hlt,List.all_append,hd];simp[hy]
   ·have d1:decide ((c:Int)<48)=false:=YW Om;have d2:decide ((57:Int)<(c:Int))=true:=Y5 Om
    repeat (first|simp (config:={maxSteps:=1000000}) only[aO,aQ,aY,aZ,reduceAdd,reduceMul,reduceLeDiff,reduceEqDiff,ba,hlen,Zi,Zk,u0,u6,ep,hlt,Zk,T9,d1,d2]|simp (config:={maxSteps:=1000000}) (disch:=first|(simp only[YT,YX,Y6]<;>omega)|rfl|omega|fail) only[dP,aO,aQ,aY,aZ,reduceAdd,reduceMul,reduceLeDiff,reduceEqDiff,ba,hlen,Zi,Zk,u0,u6,ep,hlt,Zk,T9,d1,d2])
    exact JX
  ·have d1:decide ((c:Int)<48)=true:=Y5 Om
   repeat (first|simp (config:={maxSteps:=1000000}) only[aO,aQ,aY,aZ,reduceAdd,reduceMul,reduceLeDiff,reduceEqDiff,ba,hlen,Zi,Zk,u0,u6,ep,hlt,Zk,T9,d1]|simp (config:={maxSteps:=1000000}) (disch:=first|(simp only[YT,YX,Y6]<;>omega)|rfl|omega|fail) only[dP,aO,aQ,aY,aZ,reduceAdd,reduceMul,reduceLeDiff,reduceEqDiff,ba,hlen,Zi,Zk,u0,u6,ep,hlt,Zk,T9,d1])
   exact JX
 ·have ek:k=s.length:=Om
  rw[ek,ZD]at hd
  repeat (first|simp (config:={maxSteps:=1000000}) only[aO,aQ,aY,aZ,reduceAdd,reduceMul,reduceLeDiff,reduceEqDiff,ba,hlen,Zi,Zk,u0,u6,ep,hlt,Zi]|simp (config:={maxSteps:=1000000}) (disch:=first|(simp only[YT,YX,Y6]<;>omega)|rfl|omega|fail) only[dP,aO,aQ,aY,aZ,reduceAdd,reduceMul,reduceLeDiff,reduceEqDiff,ba,hlen,Zi,Zk,u0,u6,ep,hlt,Zi])
  simp only[rH,hd,Bool.and_true,decide_not]
omit T in
theorem Ap{s}:iP s=(rH s&&decide (s.length<=9) && !(decide (1<s.length)&&decide (s.head? =some 48))):=by
 unfold iP rH;cases s with
 |nil=>rfl
 |cons x r=>cases (x::r).all fp<;>cases decide ((x::r).length<=9)<;>simp
set_option maxRecDepth 10000 in
def r190(Z:qq P)(s:By)(hs:s.length<=2^40):aA P 190 [.str s] h (λv _=>v=.dL [.i (kX s),.bool (iP s)]):=by
 refine .kr 30 T.mix T.c190 ?_;intro ts hlen t0;unfold fn190 gA;refine Rs t0 ?_;refine WF.ce T.c189 (r189 T s hs) λg=>?_
 have bad:iP s=false->AV.dL [.i 0,.bool false]=AV.dL [.i (kX s),.bool (iP s)]:=λhb=>by unfold kX;rw[hb];rfl
 have e0:=Ap (s:=s);cases hd:rH s with
 |false=>
  rw[hd]at e0;refine Rs (A3 t0 @hd @Zz) ?_;exact bad (by rw[e0];rfl)
 |true=>
  rw[hd]at e0;have Sd:=hd;unfold rH at Sd;simp only[ZE,aan,aaM]at Sd;by_cases h9:9<s.length
  ·have d9:decide ((9:Int)<s.length)=true:=Y5 Om;have q9:decide (s.length<=9)=false:=YW Om;rw[q9]at e0;refine Rs (A4 t0 @hd @Zw @d9) ?_;exact bad (by rw[e0];rfl)
  ·have d9:decide ((9:Int)<s.length)=false:=YW Om;have q9:decide (s.length<=9)=true:=Y5 Om;rw[q9]at e0;obtain⟨c,r,rfl⟩:∃c r,s=c::r:=by cases s with|nil=>exact absurd rfl Sd.1|cons c r=>exact⟨c,r,rfl⟩
   by_cases h1:1<(c::r).length
   ·have d1:decide ((1:Int)<((c::r).length:Int))=true:=Y5 Om;have q1:decide (1<(c::r).length)=true:=Y5 h1;rw[q1]at e0;by_cases h2:c=48
    ·have d2:decide ((c.toNat:Int)=48)=true:=by rw[h2];rfl
     have q2:decide ((c::r).head? =some 48)=true:=by rw[h2];rfl
     rw[q2]at e0;refine Rs (A7 t0 @hd @Zw @d9 @d1 @vS @d2) ?_;exact bad (by rw[e0];rfl)
    ·have d2:decide ((c.toNat:Int)=48)=false:=YW λe=>h2 (UInt8.toNat_inj.1 (by simpa using (by omega:c.toNat=48)))
     have q2:decide ((c::r).head? =some 48)=false:=YW (by simp[h2]);rw[q2]at e0;have e1:iP (c::r)=true:=by rw[e0];rfl
     refine Rs (A7 t0 @hd @Zw @d9 @d1 @vS @d2) ?_;exact J0
   ·have d1:decide ((1:Int)<((c::r).length:Int))=false:=YW Om;have q1:decide (1<(c::r).length)=false:=YW h1;rw[q1]at e0;have e1:iP (c::r)=true:=by rw[e0];rfl
    refine Rs (A5 t0 @hd @Zw @d9 @d1) ?_;exact J0
set_option maxRecDepth 10000 in
def H3{sw ws wr}(hs:aK A sw 1 (ws.map aq)):
  dh P 207 [.ptr A.length 0] (A++[gK sw wr]++B) (λv h'=>∃sw',v=.str (bT ws wr).1/\h' =A++[gK sw' (bT ws wr).2.2]++B/\aK A sw' 1 ((bT ws wr).2.1.map aq)):=by
 refine .of T.mix T.c207 ?_;obtain⟨ts,RD⟩:∃ts,ts=aV 40 [.ptr A.length 0]:=⟨_,rfl⟩;have hlen:ts.length=40:=by rw[RD];rfl
 have t0:slot ts 0=.ptr A.length 0:=by rw[RD];rfl
 unfold fn207 gA;show WC P bJ _ [] (aV 40 [.ptr A.length 0]) (A++[gK sw wr]++B) _;rw[<-RD];clear RD;unfold gK;have c0:=hs.one;have hsE:∀{k:ah},aK (A++k) sw 1 (ws.map aq):=λ{k}=>hs.ext ⟨k,rfl⟩
 cases ws with
 |nil=>
  have d0:decide ((([] :List (By)).length:Int)=0)=true:=rfl;refine Rs (A4 t0 hs.aH @d0 @c0) ?_;exact⟨.af,by rw[bT];exact⟨rfl,rfl,aK.nil⟩⟩
 |cons w r=>
  have d0:decide (((w::r).length:Int)=0)=false:=YW (by simp;omega);have ix:=hs.qx (kk:=.i64) Si;have ld:∀{k:ah},Ext A k->ao none (cI sw 1 0) (λb=>k[b]?)=some (.str w,.ar):=λ{k} e=>hs.kS (i:=0) Si rfl e
  by_cases hw:w=[]
  ·have d1:decide (w=[])=true:=Y5 hw;refine Rs (A7 t0 hs.aH @d0 ix @ld @d1 @c0) ?_;exact⟨.af,by rw[bT,Zh hw];exact⟨rfl,rfl,aK.nil⟩⟩
  ·have d1:decide (w=[])=false:=YW hw;have T0:iZ (some (AV.i 1)) none (w::r).length=some (1,(w::r).length):=ml (k:=1) Si;obtain⟨s',es',RC⟩:=hs.FP T0;have et:List.take ((w::r).length-1) (List.drop 1 (w::r))=r:=Si
   rw[et]at RC;refine Rs (A9 t0 hs.aH @d0 ix @ld @d1 @c0 @es' RC.one) ?_;exact⟨s',by rw[bT,Za hw];exact⟨rfl,rfl,RC⟩⟩
set_option maxRecDepth 10000 in
def OR(Z:qq P){sw ws wr}(hs:aK A sw 1 (ws.map aq))(hl:∀x∈ws,x.length<=2^40):
  dh P 208 [.ptr A.length 0] (A++[gK sw wr]++B) (λv h'=>∃(sw':AV) (g:ah),v=.i (kX (bT ws wr).1)/\h' =A++[gK sw' ((bT ws wr).2.2 || !iP (bT ws wr).1)]++(B++g)/\aK A sw' 1 ((bT ws wr).2.1.map aq)):=by
 refine .of T.mix T.c208 ?_;obtain⟨ts,RD⟩:∃ts,ts=aV 23 [.ptr A.length 0]:=⟨_,rfl⟩;have hlen:ts.length=23:=by rw[RD];rfl
 have t0:slot ts 0=.ptr A.length 0:=by rw[RD];rfl
 unfold fn208 gA;show WC P bJ _ [] (aV 23 [.ptr A.length 0]) (A++[gK sw wr]++B) _;rw[<-RD];clear RD;refine Rs t0 ?_;refine WF.gen T.c207 (H3 T hs) ?_;rintro _ _ ⟨sw',rfl,rfl,RC⟩;have hwl:(bT ws wr).1.length<=2^40:=by
  cases ws with
  |nil=>simp[bT]
  |cons w r=>
   by_cases hw:w=[]
   ·rw[bT,Zh hw];simp
   ·rw[bT,Za hw];exact hl w Si
 generalize (bT ws wr).1=w at hwl ⊢;generalize (bT ws wr).2.2=wr' at RC ⊢;generalize (bT ws wr).2.1=ws' at RC ⊢;refine Rs t0 ?_;refine WF.ce T.c190 (r190 T Z w hwl) λg=>?_
 unfold gK;have c0:=RC.one;cases wr' with
 |true=>
  refine Rs (A3 t0 @c0 @Bool.true_or) ?_;exact⟨sw',g,by rw[YV],RC⟩
 |false=>
  refine Rs (A3 t0 @c0 @aa8) ?_;exact⟨sw',g,by rw[YV],RC⟩
end
def ui{α:Type}{p:α->Bool}{L:List α}{k:Nat}(hlt:k<L.length)(hi:L.findIdx? p=((L.drop k).findIdx? p).map (· +k)):(p L[k]=true->de p L=(k:Int))/\(p L[k]=false->L.findIdx? p=((L.drop (k+1)).findIdx? p).map (· +(k+1))):=by
 have hd:L.drop k=L[k]::L.drop (k+1):=Si
 rw[hd,abd]at hi;constructor
 ·intro hp;rw[hp]at hi;rw[de,hi];simp
 ·intro hp;rw[hp]at hi;rw[hi];exact QC
def wo{α:Type}{p:α->Bool}{L:List α}(hi:L.findIdx? p=((L.drop L.length).findIdx? p).map (· +L.length)):de p L= -1:=by
 rw[Z2]at hi;rw[de,hi];rfl
set_option maxRecDepth 10000
section
variable {P:Program}(T:fA P) {h:ah}
include T
def r20(n lo hi:Int):aA P 20 [.i n,.i lo,.i hi] h (λv _=>v=.bool (decide (bu n lo hi≠0))):=by
 refine .mS 15 T.mix T.c20 ?_;intro ts hlen t0 t1 t2;unfold fn20 gA;by_cases h1:n<lo
 ·have q1:decide (n<lo)=true:=Y5 h1;refine Rs (A4 t0 t1 t2 q1) ?_;rw[bu,Zh (.inl h1)];rfl
 ·have q1:decide (n<lo)=false:=YW h1;by_cases h2:hi<n
  ·have q2:decide (hi<n)=true:=Y5 h2;refine Rs (A5 t0 t1 t2 q1 q2) ?_;rw[bu,Zh (.inr h2)];rfl
  ·have q2:decide (hi<n)=false:=YW h2;refine Rs (A5 t0 t1 t2 q1 q2) ?_;rw[bu,Za Om];rfl
def r35{L:List (By)}{s:AV}(hs:aK h s 1 (L.map aq))(hl:L.length<2^40)(n:By):aA P 35 [s,.str n] h (λv _=>v=.bool (decide (n∈L))):=by
 refine .eF 18 T.mix T.c35 ?_;intro ts hlen t0 t1;unfold fn35 gA;refine Rs (A2 t0 t1) ?_;refine WL.inv T.mix (λm ts h'=>∃k:Nat,k<=L.length/\m=L.length-k/\h' =h/\(n∈L↔n∈L.drop k)/\ts.length=18/\slot ts 0=s/\slot ts 1=.str n/\slot ts 5=.i k) L.length
  ⟨0,Om,rfl,rfl,Iff.rfl,Sn,(Sq t0),(Sq t1),fV⟩ ?_
 rintro _ ts _ ⟨k,hk,rfl,rfl,hi,hlen,t0,t1,t5⟩;by_cases hlt:k<L.length
 ·have hd:L.drop k=L[k]::L.drop (k+1):=Si
  rw[hd,ZG]at hi;have e3:=dM hlt;have ix:=hs.c8 (kk:=.i64) hlt;have ld:=hs.kS (i:=k) (x:=.str L[k]) hlt rfl (Ext.refl _);have e5:=wrapN (n:=k) Om;by_cases hp:L[k]=n
  ·have q:decide (L[k]=n)=true:=Y5 hp;refine Rs (A8 t0 t1 t5 e3 hs.aH ix @ld q) ?_;exact Zv AV.bool (Y5 (hi.2 (.inl hp.symm))).symm
  ·have q:decide (L[k]=n)=false:=YW hp;refine Rs (A9 t0 t1 t5 e3 hs.aH ix @ld q e5) ?_;exact⟨_,Om,k+1,Om,rfl,⟨λz=>(hi.1 z).resolve_left λe=>hp e.symm,λz=>hi.2 (.inr z)⟩,rfl⟩
 ·have e3:=eC hlt;have e4:k=L.length:=Om
  refine Rs (A5 t0 t1 t5 e3 hs.aH) ?_;rw[e4,Z2]at hi;exact Zv AV.bool (YW (λz=>by simpa using hi.1 z)).symm
def r25{L M:List (By)}{s t:AV}(hs:aK h s 1 (L.map aq))(ht:aK h t 1 (M.map aq))(hl:L.length<2^40)(hm:M.length<2^40):aA P 25 [s,t] h (λv _=>v=.bool (decide (L=M))):=by
 refine .eF 26 T.mix T.c25 ?_;intro ts hlen t0 t1;unfold fn25 gA;by_cases h1:L.length=M.length
 case neg=>
  exact Qk
 have q:decide ((L.length:Int)≠M.length)=false:=YW Om;refine Rs (A5 t0 t1 hs.aH ht.aH q) ?_;refine WL.inv T.mix (λm ts h'=>∃k:Nat,k<=L.length/\m=L.length-k/\h' =h/\L.take k=M.take k/\ts.length=26/\slot ts 0=s/\slot ts 1=t/\slot ts 5=.i k) L.length
  ⟨0,Om,rfl,rfl,rfl,Sn,(Sq t0),(Sq t1),fV⟩ ?_
 rintro _ ts h' ⟨k,hk,rfl,rfl,hi,hlen,t0,t1,t5⟩;by_cases hlt:k<L.length
 ·have R6:k<M.length:=Om
  have e3:=dM hlt;have ix:=hs.c8 (kk:=.i64) hlt;have iy:=ht.c8 (kk:=.i64) R6;have ld:∀{kk:ah},Ext h' kk->_:=λ{kk} e=>hs.kS (i:=k) (x:=.str L[k]) (k:=kk) hlt rfl e
  have ly:∀{kk:ah},Ext h' kk->_:=λ{kk} e=>ht.kS (i:=k) (x:=.str M[k]) (k:=kk) R6 rfl e
  exact z21
 ·exact z76
def r62{L M:List (Int)}{s t:AV}(hs:aK h s 1 (L.map aL))(ht:aK h t 1 (M.map aL))(hl:L.length<2^40)(hm:M.length<2^40):aA P 62 [s,t] h (λv _=>v=.bool (decide (L=M))):=by
 refine .eF 26 T.mix T.c62 ?_;intro ts hlen t0 t1;unfold fn62 gA;by_cases h1:L.length=M.length
 case neg=>
  exact Qk
 have q:decide ((L.length:Int)≠M.length)=false:=YW Om;refine Rs (A5 t0 t1 hs.aH ht.aH q) ?_;refine WL.inv T.mix (λm ts h'=>∃k:Nat,k<=L.length/\m=L.length-k/\h' =h/\L.take k=M.take k/\ts.length=26/\slot ts 0=s/\slot ts 1=t/\slot ts 5=.i k) L.length
  ⟨0,Om,rfl,rfl,rfl,Sn,(Sq t0),(Sq t1),fV⟩ ?_
 rintro _ ts h' ⟨k,hk,rfl,rfl,hi,hlen,t0,t1,t5⟩;by_cases hlt:k<L.length
 ·have R6:k<M.length:=Om
  have e3:=dM hlt;have ix:=hs.c8 (kk:=.i64) hlt;have iy:=ht.c8 (kk:=.i64) R6;have ld:∀{kk:ah},Ext h' kk->_:=λ{kk} e=>hs.kS (i:=k) (x:=.i L[k]) (k:=kk) hlt rfl e
  have ly:∀{kk:ah},Ext h' kk->_:=λ{kk} e=>ht.kS (i:=k) (x:=.i M[k]) (k:=kk) R6 rfl e
  exact z21
 ·exact z76
def pF{f i w:Nat}{α:Type}{row:α->List AV}{nm:α->By}{L:List α}{s:AV}{V:RV}(c:bS P f=some (uU i w))(o:aB h V)(hs:aK h s w (L.map row))(hv:V.row[i]? =some s)(hr:∀y,(row y)[0]? =some (.str (nm y)))(hl:L.length<2^30)(n:By):aA P f [.agg V.row,.str n] h (λv _=>v=.i (de (λy=>decide (nm y=n)) L)):=by
 refine .eF 22 T.mix c ?_;intro ts hlen t0 t1;unfold uU;have Rz:=@aB.box _ _ o;refine Rs (A3 t0 t1 @Rz) ?_;refine WL.inv T.mix (λm ts h'=>∃k:Nat,k<=L.length/\m=L.length-k/\h' =h++[ak.b V.row]/\L.findIdx? (λy=>decide (nm y=n))=((L.drop k).findIdx? (λy=>decide (nm y=n))).map (· +k)/\ts.length=22/\slot ts 1=.str n/\slot ts 2=.ptr h.length 0/\slot ts 5=.i k) L.length
  ⟨0,Om,rfl,rfl,Si,Sn,(Sq t1),Sw,fV⟩ ?_
 rintro _ ts _ ⟨k,hk,rfl,rfl,hi,hlen,t1,t2,t5⟩;have lb:∀{kk n a},Ext (h++[ak.b V.row]) kk->ao n (.ptr h.length a) (λz=>kk[z]?)=dC n a (.b V.row):=λ{_ _ _} e=>az (e.some a8)
 by_cases hlt:k<L.length
 ·have e3:=dM hlt;have ix:=hs.c8 (kk:=.i64) hlt;have e5:=wrapN (n:=k) Om;obtain⟨h1,h2⟩:=ui hlt hi;obtain⟨y,hy⟩:∃y,y=L[k]:=⟨_,rfl⟩;have ld:∀{kk:ah},Ext h kk->ao none (lH s w k 0) (λb=>kk[b]?)=some (.str (nm y),.ar):=λ{kk} e=>hs.p6 hlt (by rw[<-hy];exact hr y) e
  rw[<-hy]at h1 h2;by_cases hp:nm y=n
  ·have q:decide (nm y=n)=true:=Y5 hp;refine Rs (o8 t1 t2 t5 @lb @hv hs.aH e3 ix @ld q) ?_;rw[h1 q]
  ·have q:decide (nm y=n)=false:=YW hp;refine Rs (mN t1 t2 t5 @lb @hv hs.aH e3 ix @ld q e5) ?_;exact⟨_,Om,k+1,Om,rfl,h2 q,rfl⟩
 ·have e3:=eC hlt;have e4:k=L.length:=Om
  refine Rs (A7 t1 t2 t5 @lb @hv hs.aH e3) ?_;subst e4;rw[wo hi]
def r28{V:RV}(o:aB h V)(l:eT V)(n:By):aA P 28 [.agg V.row,.str n] h (λv _=>v=.i (de (λy=>decide (y.name=n)) V.lines)):=
 pF T (nm:=λy:gZ=>y.name) T.c28 o o.i0 eP (λ_=>rfl) l.l0 n
def r141{V:RV}(o:aB h V)(l:eT V)(n:By):aA P 141 [.agg V.row,.str n] h (λv _=>v=.i (de (λy=>decide (y.name=n)) V.aE)):=
 pF T (nm:=λy:rX=>y.name) T.c141 o o.i1 gR (λ_=>rfl) l.l1 n
def r22{V:RV}(o:aB h V)(l:eT V)(n:By):aA P 22 [.agg V.row,.str n] h (λv _=>v=.i (de (λy:jR×AV=>decide (y.1.name=n)) V.aj)):=
 pF T (nm:=λy:jR×AV=>y.1.name) T.c22 o o.i2 eo (λ_=>rfl) l.l2 n
def r55{V:RV}(o:aB h V)(l:eT V)(n:By):aA P 55 [.agg V.row,.str n] h (λv _=>v=.i (de (λy:gY×AV=>decide (y.1.name=n)) V.aC)):=
 pF T (nm:=λy:gY×AV=>y.1.name) T.c55 o o.i3 eE (λ_=>rfl) l.l3 n
def r56{V:RV}(o:aB h V)(l:eT V)(n:By):aA P 56 [.agg V.row,.str n] h (λv _=>v=.i (de (λy:kY×AV=>decide (y.1.name=n)) V.aF)):=
 pF T (nm:=λy:kY×AV=>y.1.name) T.c56 o o.i4 eO (λ_=>rfl) l.l4 n
def r57{V:RV}(o:aB h V)(l:eT V)(n:By):aA P 57 [.agg V.row,.str n] h (λv _=>v=.i (de (λy=>decide (y.name=n)) V.aI)):=
 pF T (nm:=λy:qm=>y.name) T.c57 o o.i5 fy (λ_=>rfl) l.l5 n
end
def kZ(r:Nat×Bool):UInt8:=
 match r.1,r.2 with
 | 0,true=>108
 | 1,true=>116
 | 2,true=>115
 | 3,true=>109
 | 4,true=>106
 |_,true=>112
 | 0,false=>76
 | 1,false=>84
 | 2,false=>83
 | 3,false=>77
 | 4,false=>74
 |_,false=>80
def xF(d:Kd):By:=(bM d).map kZ
def y3(k:By):List AV:=
 match gO k with
 |none=>[.str [],.i 0,.bool false]
 |some d=>[.str (xF d),.i (cE d:Int),.bool true]
def gD(d:Kd):decide (bA d=[108,105,110,101])=decide (d=.line):=by cases d<;>rfl
def iA(d:Kd):decide (bA d=[116,97,112,101])=decide (d=.tape):=by cases d<;>rfl
def rA(d:Kd):decide (bA d=[115,104,111,116])=decide (d=.gq):=by cases d<;>rfl
def vZ(d:Kd):decide (bA d=[99,111,112,121])=decide (d=.copy):=by cases d<;>rfl
def rB(d:Kd):decide (bA d=[97,99,99,101,112,116])=decide (d=.accept):=by cases d<;>rfl
def gW(d:Kd):decide (bA d=[115,111,117,114,99,101])=decide (d=.source):=by cases d<;>rfl
def j8(d:Kd):decide (bA d=[109,111,100,117,108,101])=decide (d=.fZ):=by cases d<;>rfl
def jh(d:Kd):decide (bA d=[109,101,114,103,101])=decide (d=.merge):=by cases d<;>rfl
def y0(d:Kd):decide (bA d=[114,117,110])=decide (d=.run):=by cases d<;>rfl
def vW(d:Kd):decide (bA d=[116,105,108,101])=decide (d=.fW):=by cases d<;>rfl
def vY(d:Kd):decide (bA d=[102,97,105,108])=decide (d=.fail):=by cases d<;>rfl
def vX(d:Kd):decide (bA d=[112,105,99,116,117,114,101])=decide (d=.gu):=by cases d<;>rfl
def qy(d:Kd):decide (bA d=[114,101,108,101,97,115,101])=decide (d=.rel):=by cases d<;>rfl
def nZ(d:Kd):decide (bA d=[117,110,100,111])=decide (d=.eZ):=by cases d<;>rfl
def gP:type_of% (zt @gD @iA @rA @vZ @rB @gW @j8 @jh @y0 @vW @vY @vX @qy @nZ):=zt @gD @iA @rA @vZ @rB @gW @j8 @jh @y0 @vW @vY @vX @qy @nZ
def BM:∀r:Nat×Bool,r.1<6->decide (97<=((kZ r).toNat:Int))=r.2
 |(0,true),_=>rfl
 |(1,true),_=>rfl
 |(2,true),_=>rfl
 |(3,true),_=>rfl
 |(4,true),_=>rfl
 |(5,true),_=>rfl
 |(0,false),_=>rfl
 |(1,false),_=>rfl
 |(2,false),_=>rfl
 |(3,false),_=>rfl
 |(4,false),_=>rfl
 |(5,false),_=>rfl
def DN(d:Kd):∀r∈bM d,r.1<6:=by cases d<;>decide
section
variable {P:Program}(T:fA P) {h:ah}
include T
def r101(k:By):aA P 101 [.str k] h (λv _=>v=.agg (y3 k)):=by
 refine .kr 47 T.mix T.c101 ?_;intro ts hlen t0;unfold fn101 gA;unfold y3;cases hk:gO k with
 |none=>
  have Ya:decide (k=[108,105,110,101])=false:=YW (dE hk .line);have X6:decide (k=[116,97,112,101])=false:=YW (dE hk .tape);have X7:decide (k=[115,104,111,116])=false:=YW (dE hk .gq);have Yc:decide (k=[99,111,112,121])=false:=YW (dE hk .copy);have Vj:decide (k=[97,99,99,101,112,116])=false:=YW (dE hk .accept);have Vi:decide (k=[115,111,117,114,99,101])=false:=YW (dE hk .source);have X9:decide (k=[109,111,100,117,108,101])=false:=YW (dE hk .fZ);have Ww:decide (k=[109,101,114,103,101])=false:=YW (dE hk .merge);have q_run:decide (k=[114,117,110])=false:=YW (dE hk .run);have X5:decide (k=[116,105,108,101])=false:=YW (dE hk .fW)
  have Yb:decide (k=[102,97,105,108])=false:=YW (dE hk .fail);have X8:decide (k=[112,105,99,116,117,114,101])=false:=YW (dE hk .gu);have q_rel:decide (k=[114,101,108,101,97,115,101])=false:=YW (dE hk .rel);have X4:decide (k=[117,110,100,111])=false:=YW (dE hk .eZ);exact Rs (AY t0 @Ya @X6 @X7 @Yc @Vj @Vi @X9 @Ww @q_run @X5 @Yb @X8 @q_rel @X4) Tv
 |some d=>
  have RK:=cA hk;subst RK;clear hk;cases d
  all_goals
   refine pa (A4 t0 @gP @Zp @Zx) ?_;rfl
def r39{x}(o:bh h x)(hl:x.ev.names.length<=2^40/\x.ev.cB.length<=2^40)(hn:∀n∈x.ev.names,n.length<2^63):aA P 39 [.agg x.row] h (λv _=>v=.i (eG x.ev)):=by
 refine .kr 59 T.mix T.c39 ?_;intro ts hlen t0;unfold fn39 gA;have Rz:=@bh.box _ _ o;refine Rs (A3 t0 @Rz @nq) ?_;refine WF.ce T.c20 (r20 T _ _ _) λg1=>?_
 by_cases h0:bu x.ev.num 1 1000=0
 case neg=>
  have e0:decide (bu x.ev.num 1 1000≠0)=true:=Y5 h0;refine Rs (A2 t0 e0) ?_;rw[eG,Zh h0]
 have e0:decide (bu x.ev.num 1 1000≠0)=false:=YW (λz=>z h0);refine Rs (A3 t0 e0 @bC) ?_;refine WF.ce T.c101 (r101 T _) λg2=>?_
 unfold y3;rw[eG,Za (λz=>z h0)];cases hd:gO x.ev.kind with
 |none=>
  exact Rs (A2 t0 @Zz) Tv
 |some d=>
  have Tj:(xF d).length=(bM d).length:=by rw[xF,Y7]
  have hr3:(bM d).length<=3/\cE d<=3:=by cases d<;>decide
  refine Rs (A7 t0 @Zw @aN @bd o.n.aH o.v.aH @Tj) ?_;by_cases h1:x.ev.names.length=(bM d).length
  case neg=>
   have q:decide ((x.ev.names.length:Int)≠(bM d).length)=true:=Y5 Om;refine Rs (A2 t0 q) ?_;rw[Zh (.inl h1)]
  have q:decide ((x.ev.names.length:Int)≠(bM d).length)=false:=YW Om;by_cases h2:x.ev.cB.length=cE d
  case neg=>
   have q2:decide ((x.ev.cB.length:Int)≠cE d)=true:=Y5 Om;refine Rs (A5 t0 @bd q q2 o.v.aH) ?_;rw[Zh (.inr h2)]
  have q2:decide ((x.ev.cB.length:Int)≠cE d)=false:=YW Om;refine Rs (A5 t0 @bd q q2 o.v.aH) ?_;rw[Za Om];obtain⟨H,hH⟩:∃H,H=h++[ak.b x.row]++g1++g2++[ak.b [AV.str (xF d),.i (cE d:Int),.bool true]]:=⟨_,rfl⟩;obtain⟨fb,hfb⟩:∃fb,fb=(h++[ak.b x.row]++g1++g2).length:=⟨_,rfl⟩;have Sj:Ext h H:=by rw[hH];exact Xx
  have me:H[h.length]? =some (.b x.row):=by rw[hH];exact(show Ext (h++[ak.b x.row]) _ from Xx).some a8
  have mf:H[fb]? =some (.b [AV.str (xF d),.i (cE d:Int),.bool true]):=by rw[hH,hfb];exact a8
  rw[<-hH,<-hfb];refine WL.inv T.mix (λm ts h'=>∃k:Nat,k<=x.ev.names.length/\m=x.ev.names.length-k/\Ext H h'/\x.ev.names.any (λs=>!ez s)=(x.ev.names.drop k).any (λs=>!ez s)/\ts.length=59/\slot ts 1=.ptr h.length 0/\slot ts 3=.ptr fb 0/\slot ts 4=.i k) x.ev.names.length
   ⟨0,Om,rfl,.refl _,rfl,Sn,Sw,Sw,fV⟩ ?_
  rintro _ ts h' ⟨k,hk,rfl,hx,hi,hlen,t1,t3,t4⟩;have le:∀{kk n a},Ext h' kk->ao n (.ptr h.length a) (λz=>kk[z]?)=dC n a (.b x.row):=λ{_ _ _} e=>az ((hx.trans e).some me)
  have lf:∀{kk n a},Ext h' kk->ao n (.ptr fb a) (λz=>kk[z]?)=dC n a (.b [AV.str (xF d),.i (cE d:Int),.bool true]):=λ{_ _ _} e=>az ((hx.trans e).some mf)
  by_cases hlt:k<x.ev.names.length
  ·have e3:decide ((k:Int)<(bM d).length)=true:=Y5 Om;have e5:=wrapN (n:=k) Om;have ix:=o.n.c8 (kk:=.i64) hlt;have ld:∀{kk:ah},Ext h' kk->ao none (cI x.sn 1 k) (λb=>kk[b]?)=some (.str x.ev.names[k],.ar):=λ{kk} e=>o.n.kS hlt rfl ((Sj.trans hx).trans e)
   have Xe:x.ev.names.drop k=x.ev.names[k]::x.ev.names.drop (k+1):=Si
   rw[Xe,abk]at hi;have hnk:=hn x.ev.names[k] (Zb _);obtain⟨y,hy⟩:∃y,y=x.ev.names[k]:=⟨_,rfl⟩;rw[<-hy]at ld hi hnk;refine Rs (o8 t1 t3 t4 @le @lf @Tj e3 @aN ix @ld) ?_;refine WF.ce T.c102 (r102 T y hnk) λg3=>?_
   cases hny:ez y with
   |false=>
    rw[hny]at hi;have hi:x.ev.names.any (λs=>!ez s)=true:=hi;refine Rs (A4 t1 t3 t4 @Zz) ?_;refine⟨(Sj.trans hx).trans Xx,?_⟩;rw[Zh hi]
   |true=>
    rw[hny]at hi;refine Rs (A5 t1 t3 t4 @Zw e5) ?_;exact Jy
  ·have e3:decide ((k:Int)<(bM d).length)=false:=YW Om;have e4:k=x.ev.names.length:=Om
   have hi0:x.ev.names.any (λs=>!ez s)=false:=by rw[hi,e4,Z2];rfl
   rw[Za (by rw[hi0];decide)];refine Rs (A6 t1 t3 t4 @lf @Tj e3) ?_;refine WL.inv T.mix (λm ts Xm=>∃k:Nat,k<=x.ev.cB.length/\m=x.ev.cB.length-k/\Ext H Xm/\x.ev.cB.any (λn=>decide (bu n 0 999999999≠0))=(x.ev.cB.drop k).any (λn=>decide (bu n 0 999999999≠0))/\ts.length=59/\slot ts 1=.ptr h.length 0/\slot ts 3=.ptr fb 0/\slot ts 5=.i k) x.ev.cB.length
    ⟨0,Om,rfl,hx,rfl,Sn,(Sq t1),(Sq t3),fV⟩ ?_
   clear t1 t3 t4 hlen hlt hi e3 e4 hk le lf hx;clear ts k h';rintro _ ts h' ⟨k,hk,rfl,hx,hi,hlen,t1,t3,t5⟩;have le:∀{kk n a},Ext h' kk->ao n (.ptr h.length a) (λz=>kk[z]?)=dC n a (.b x.row):=λ{_ _ _} e=>az ((hx.trans e).some me)
   have lf:∀{kk n a},Ext h' kk->ao n (.ptr fb a) (λz=>kk[z]?)=dC n a (.b [AV.str (xF d),.i (cE d:Int),.bool true]):=λ{_ _ _} e=>az ((hx.trans e).some mf)
   by_cases hlt:k<x.ev.cB.length
   ·have e3:decide ((k:Int)<cE d)=true:=Y5 Om;have e5:=wrapN (n:=k) Om;have ix:=o.v.c8 (kk:=.i64) hlt;have ld:∀{kk:ah},Ext h' kk->ao none (cI x.sv 1 k) (λb=>kk[b]?)=some (.i x.ev.cB[k],.ar):=λ{kk} e=>o.v.kS hlt rfl ((Sj.trans hx).trans e)
    have Xe:x.ev.cB.drop k=x.ev.cB[k]::x.ev.cB.drop (k+1):=Si
    rw[Xe,abk]at hi;obtain⟨y,hy⟩:∃y,y=x.ev.cB[k]:=⟨_,rfl⟩;rw[<-hy]at ld hi;refine Rs (A9 t1 t3 t5 @le @lf e3 @bd ix @ld) ?_;refine WF.ce T.c20 (r20 T _ _ _) λg3=>?_
    cases hny:decide (bu y 0 999999999≠0)with
    |true=>
     rw[hny]at hi;have hi:x.ev.cB.any (λn=>decide (bu n 0 999999999≠0))=true:=hi;refine Rs (A3 t1 t3 t5) ?_;refine⟨(Sj.trans hx).trans Xx,?_⟩;rw[Zh hi]
    |false=>
     rw[hny]at hi;refine Rs (A4 t1 t3 t5 e5) ?_;exact Jy
   ·have e3:decide ((k:Int)<cE d)=false:=YW Om;have e4:k=x.ev.cB.length:=Om
    have hi0:x.ev.cB.any (λn=>decide (bu n 0 999999999≠0))=false:=by rw[hi,e4,Z2];rfl
    rw[Za (by rw[hi0];decide)];by_cases ht:x.ev.text=[]
    ·have q:decide (x.ev.text≠[])=false:=YW (λz=>z ht);refine Rs (A8 t1 t3 t5 @lf @le e3 @yg q) ?_;refine⟨Sj.trans hx,?_⟩;rw[Za (λz=>z ht)]
    ·have q:decide (x.ev.text≠[])=true:=Y5 ht;refine Rs (A8 t1 t3 t5 @lf @le e3 @yg q) ?_;refine⟨Sj.trans hx,?_⟩;rw[Zh ht]
end
def Du(R:dJ)(e:eD):List (Nat×Bool)->Bool
 |[]=>false
 |r::_=>!r.2&&dX R r.1 (aP e 0)
def B5{R e d}:kW d R e=if mO R e (bM d) 0 then 10 else bX (Du R e (bM d)) 9:=by
 have:qO R e (bM d) 0=Du R e (bM d):=by cases d<;>simp[bM,qO,Du]
 rw[kW,this];rfl
def Au:∀r:Nat×Bool,r.1<6->r.2=false->IntKind.u8.wrap (IntKind.u8.wrap (((kZ r).toNat:Int)+97)-65)=((kZ (r.1,true)).toNat:Int)
 |(0,false),_,_=>rfl
 |(1,false),_,_=>rfl
 |(2,false),_,_=>rfl
 |(3,false),_,_=>rfl
 |(4,false),_,_=>rfl
 |(5,false),_,_=>rfl
section
variable {P:Program}(T:fA P) {h:ah}
include T
def Rq{V}(o:aB h V)(l:eT V)(n:By):aA P 195 [.agg V.row,.int .u8 ((kZ (0,true)).toNat:Int),.str n] h (λv _=>∃i,v=.i i/\decide (0<=i)=dX V.an 0 n):=by
 refine .mS 36 T.mix T.c195 ?_;intro ts hlen t0 t1 t2;unfold fn195 gA;have Rz:=@aB.box _ _ o;have q0:decide (((kZ (0,true)).toNat:Int)=108)=true:=rfl;refine Rs (A6 t0 t1 t2 @Rz q0 @aG) ?_;refine WF.ce T.c28 (r28 T (o.ext Xx) l n) λg1=>?_
 refine Rs t0 ?_;exact⟨_,rfl,fJ (f:=λy:gZ=>y.name)⟩
def Rp{V}(o:aB h V)(l:eT V)(n:By):aA P 195 [.agg V.row,.int .u8 ((kZ (1,true)).toNat:Int),.str n] h (λv _=>∃i,v=.i i/\decide (0<=i)=dX V.an 1 n):=by
 refine .mS 36 T.mix T.c195 ?_;intro ts hlen t0 t1 t2;unfold fn195 gA;have Rz:=@aB.box _ _ o;have q0:decide (((kZ (1,true)).toNat:Int)=108)=false:=rfl;have q1:decide (((kZ (1,true)).toNat:Int)=116)=true:=rfl;refine Rs (A7 t0 t1 t2 @Rz q0 q1 @aG) ?_;refine WF.ce T.c141 (r141 T (o.ext Xx) l n) λg1=>?_
 refine Rs t0 ?_;exact⟨_,rfl,fJ (f:=λy:rX=>y.name)⟩
def Ro{V}(o:aB h V)(l:eT V)(n:By):aA P 195 [.agg V.row,.int .u8 ((kZ (2,true)).toNat:Int),.str n] h (λv _=>∃i,v=.i i/\decide (0<=i)=dX V.an 2 n):=by
 refine .mS 36 T.mix T.c195 ?_;intro ts hlen t0 t1 t2;unfold fn195 gA;have Rz:=@aB.box _ _ o;have q0:decide (((kZ (2,true)).toNat:Int)=108)=false:=rfl;have q1:decide (((kZ (2,true)).toNat:Int)=116)=false:=rfl;have q2:decide (((kZ (2,true)).toNat:Int)=115)=true:=rfl;refine Rs (A8 t0 t1 t2 @Rz q0 q1 q2 @aG) ?_;refine WF.ce T.c22 (r22 T (o.ext Xx) l n) λg1=>?_
 refine Rs t0 ?_;refine⟨_,rfl,(fJ (f:=λy:jR×AV=>y.1.name)).trans ?_⟩;rw[<-j5];rfl
def Rn{V}(o:aB h V)(l:eT V)(n:By):aA P 195 [.agg V.row,.int .u8 ((kZ (3,true)).toNat:Int),.str n] h (λv _=>∃i,v=.i i/\decide (0<=i)=dX V.an 3 n):=by
 refine .mS 36 T.mix T.c195 ?_;intro ts hlen t0 t1 t2;unfold fn195 gA;have Rz:=@aB.box _ _ o;have q0:decide (((kZ (3,true)).toNat:Int)=108)=false:=rfl;have q1:decide (((kZ (3,true)).toNat:Int)=116)=false:=rfl;have q2:decide (((kZ (3,true)).toNat:Int)=115)=false:=rfl;have q3:decide (((kZ (3,true)).toNat:Int)=109)=true:=rfl;refine Rs (A9 t0 t1 t2 @Rz q0 q1 q2 q3 @aG) ?_;refine WF.ce T.c55 (r55 T (o.ext Xx) l n) λg1=>?_
 refine Rs t0 ?_;refine⟨_,rfl,(fJ (f:=λy:gY×AV=>y.1.name)).trans ?_⟩;rw[<-ia];rfl
def Rm{V}(o:aB h V)(l:eT V)(n:By):aA P 195 [.agg V.row,.int .u8 ((kZ (4,true)).toNat:Int),.str n] h (λv _=>∃i,v=.i i/\decide (0<=i)=dX V.an 4 n):=by
 refine .mS 36 T.mix T.c195 ?_;intro ts hlen t0 t1 t2;unfold fn195 gA;have Rz:=@aB.box _ _ o;have q0:decide (((kZ (4,true)).toNat:Int)=108)=false:=rfl;have q1:decide (((kZ (4,true)).toNat:Int)=116)=false:=rfl;have q2:decide (((kZ (4,true)).toNat:Int)=115)=false:=rfl;have q3:decide (((kZ (4,true)).toNat:Int)=109)=false:=rfl;have q4:decide (((kZ (4,true)).toNat:Int)=106)=true:=rfl;refine Rs (o8 t0 t1 t2 @Rz q0 q1 q2 q3 q4 @aG) ?_;refine WF.ce T.c56 (r56 T (o.ext Xx) l n) λg1=>?_
 refine Rs t0 ?_;refine⟨_,rfl,(fJ (f:=λy:kY×AV=>y.1.name)).trans ?_⟩;rw[<-iu];rfl
def Rl{V}(o:aB h V)(l:eT V)(n:By):aA P 195 [.agg V.row,.int .u8 ((kZ (5,true)).toNat:Int),.str n] h (λv _=>∃i,v=.i i/\decide (0<=i)=dX V.an 5 n):=by
 refine .mS 36 T.mix T.c195 ?_;intro ts hlen t0 t1 t2;unfold fn195 gA;have Rz:=@aB.box _ _ o;have q0:decide (((kZ (5,true)).toNat:Int)=108)=false:=rfl;have q1:decide (((kZ (5,true)).toNat:Int)=116)=false:=rfl;have q2:decide (((kZ (5,true)).toNat:Int)=115)=false:=rfl;have q3:decide (((kZ (5,true)).toNat:Int)=109)=false:=rfl;have q4:decide (((kZ (5,true)).toNat:Int)=106)=false:=rfl;refine Rs (o8 t0 t1 t2 @Rz q0 q1 q2 q3 q4 @aG) ?_;refine WF.ce T.c57 (r57 T (o.ext Xx) l n) λg1=>?_
 refine Rs t0 ?_;exact⟨_,rfl,fJ (f:=λy:qm=>y.name)⟩
def r195{V}(o:aB h V)(l:eT V){t}(ht:t<6)(n:By):aA P 195 [.agg V.row,.int .u8 ((kZ (t,true)).toNat:Int),.str n] h (λv _=>∃i,v=.i i/\decide (0<=i)=dX V.an t n):=by
 match t,ht with
 | 0,_=>exact Rq T o l n
 | 1,_=>exact Rp T o l n
 | 2,_=>exact Ro T o l n
 | 3,_=>exact Rn T o l n
 | 4,_=>exact Rm T o l n
 | 5,_=>exact Rl T o l n
def r223{V x d}(o:aB h V)(l:eT V)(ox:bh h x)(wx:kj x.ev d):aA P 223 [.agg V.row,.agg x.row] h (λv _=>v=.i (kW d V.an x.ev)):=by
 refine .eF 55 T.mix T.c223 ?_;intro ts hlen t0 t1;unfold fn223;have Rz:=@aB.box _ _ o;have hex:=@bh.box _ _ ox;refine Rs (A5 t0 t1 @Rz @hex @bC) ?_;refine WF.ce T.c101 (r101 T _) λg1=>?_
 unfold y3;rw[wx.kd];obtain⟨L,hL⟩:∃L,L=bM d:=⟨_,rfl⟩;have hnl:x.ev.names.length=L.length:=by rw[hL];exact wx.nl
 have Xl:L.length<=3:=by rw[hL];cases d<;>decide
 have XQ:∀r∈L,r.1<6:=by rw[hL];exact DN d
 have Tj:(xF d).length=L.length:=by rw[xF,Y7,hL]
 refine Rs (A2 t0 t1) ?_;obtain⟨H,hH⟩:∃H,H=h++[ak.b V.row]++[ak.b x.row]++g1:=⟨_,rfl⟩;obtain⟨eb,heb⟩:∃eb,eb=(h++[ak.b V.row]).length:=⟨_,rfl⟩;have Sj:Ext h H:=by rw[hH];exact Xx
 have mr:H[h.length]? =some (.b V.row):=by rw[hH];exact(show Ext (h++[ak.b V.row]) _ from Xx).some a8
 have me:H[eb]? =some (.b x.row):=by rw[hH,heb];exact(show Ext (h++[ak.b V.row]++[ak.b x.row]) _ from Xx).some a8
 rw[<-hH,<-heb];have UH:∀(i:Nat) (hi:i<L.length),bf 1 x.sn (.i (i:Int))=some (cI x.sn 1 i,.ar):=λi hi=>ox.n.c8 Om
 have hld:∀(i:Nat) (hi:i<L.length) (k':ah),Ext h k'->ao none (cI x.sn 1 i) (λb=>k'[b]?)=some (.str (aP x.ev i),.ar):=λi hi k' e=>by
  exact Qi
 have hixs:∀(i:Nat) (hi:i<L.length),vT (.str (xF d)) (.i (i:Int))=some (.int .u8 ((kZ L[i]).toNat:Int)):=λi hi=>by
  have hi':i<(xF d).length:=Om
  rw[jN hi'];have:(xF d)[i]=kZ L[i]:=by simp only[xF,hL,aab]
  rw[this]
 refine WL.inv T.mix (λm ts h'=>∃k:Nat,k<=L.length/\m=L.length-k/\Ext H h'/\mO V.an x.ev L 0=mO V.an x.ev (L.drop k) k/\ts.length=55/\slot ts 2=.ptr h.length 0/\slot ts 3=.ptr eb 0/\slot ts 5=.str (xF d)/\slot ts 6=.i k) L.length
  ⟨0,Om,rfl,.refl _,rfl,Sn,Sw,Sw,Sw,fV⟩ ?_
 clear t0 t1 hlen Rz hex;clear ts;rintro _ ts h' ⟨k,hk,rfl,hx,hu,hlen,t2,t3,t5,t6⟩;have le:∀{kk n a},Ext h' kk->ao n (.ptr eb a) (λz=>kk[z]?)=dC n a (.b x.row):=λ{_ _ _} e=>az ((hx.trans e).some me)
 have lr:∀{kk n a},Ext h' kk->ao n (.ptr h.length a) (λz=>kk[z]?)=dC n a (.b V.row):=λ{_ _ _} e=>az ((hx.trans e).some mr)
 by_cases hlt:k<L.length
 ·have e3:=dM hlt;have e5:=wrapN (n:=k) Om;have iy:=UH k hlt;have ly:∀{k'},Ext h' k'->ao none (cI x.sn 1 k) (λb=>k'[b]?)=some (.str (aP x.ev k),.ar):=λ{k'} e=>hld k hlt k' ((Sj.trans hx).trans e)
  have ii:=hixs k hlt;have hd:L.drop k=L[k]::L.drop (k+1):=Si
  obtain⟨r,Vv⟩:∃r,r=L[k]:=⟨_,rfl⟩;have Wh:r.1<6:=by rw[Vv];exact XQ _ (Zb _)
  rw[hd,<-Vv,mO]at hu;rw[<-Vv]at ii;have qg:=BM r Wh;cases SN:r.2 with
  |false=>
   rw[SN]at hu qg;refine Rs (A9 t2 t3 t5 t6 @Tj e3 @ii @qg e5) ?_;exact JB
  |true=>
   rw[SN]at hu qg;have er:r=(r.1,true):=by rw[<-SN]
   rw[er]at ii qg;refine Rs (zt t2 t3 t5 t6 @Tj e3 @ii @qg @le @lr @aG @aN @iy @ly) ?_;refine WF.res T.c195 (r195 T ((o.ext (Sj.trans hx)).ext Xx) l Wh _) ?_;rintro _ g3 ⟨i,rfl,hi⟩;have qi:decide (i<0)= !dX V.an r.1 (aP x.ev k):=by rw[<-hi];by_cases h0:0<=i<;>simp[h0]<;>omega
   cases hh:dX V.an r.1 (aP x.ev k)with
   |true=>
    rw[hh]at hu qi;have qi:decide (i<0)=false:=qi;refine Rs (A6 t2 t3 t5 t6 @qi e5) ?_;exact JB
   |false=>
    rw[hh]at hu qi;have qi:decide (i<0)=true:=qi;have hu1:mO V.an x.ev L 0=true:=by rw[hu];rfl
    refine Rs (A5 t2 t3 t5 t6 @qi) ?_;refine⟨(Sj.trans hx).trans Xx,?_⟩;rw[B5,<-hL,Zh hu1]
 ·have e3:=eC hlt;have e4:k=L.length:=Om
  have UE:mO V.an x.ev L 0=false:=by rw[hu,e4,Z2];rfl
  have Wd:=Sj.trans hx;rw[B5,<-hL,Za (by rw[UE];decide)];refine Rs (A6 t2 t3 t5 t6 @Tj e3) ?_;cases hLc:L with
  |nil=>
   have q0:decide ((0:Int)<(([] :List (Nat×Bool)).length:Int))=false:=rfl;refine Rs (A5 t2 t3 t5 t6 q0) ?_;exact⟨Wd,rfl⟩
  |cons r rest=>
   rw[Du];have q0:decide ((0:Int)<((r::rest).length:Int))=true:=Y5 (by simp only[YX];omega);have Xa:0<L.length:=by rw[hLc];simp
   have ii:vT (.str (xF d)) (.i 0)=some (.int .u8 ((kZ r).toNat:Int)):=by
    have:=hixs 0 Xa;simp only[hLc,List.getElem_cons_zero]at this;exact this
   have Wh:r.1<6:=XQ r (by rw[hLc];simp);have qg:=BM r Wh;have qx:bf 1 x.sn (.i 0)=some (cI x.sn 1 0,.ar):=UH 0 Xa;have ld0:∀{k':ah},Ext h' k'->ao none (cI x.sn 1 0) (λb=>k'[b]?)=some (.str (aP x.ev 0),.ar):=λ{k'} e=>hld 0 Xa k' (Wd.trans e)
   cases SN:r.2 with
   |true=>
    rw[SN]at qg;have qg2:decide (((kZ r).toNat:Int)<97)=false:=YW (by have:=aak qg;omega);refine Rs (A7 t2 t3 t5 t6 q0 @ii @qg2) ?_;exact⟨Wd,rfl⟩
   |false=>
    rw[SN]at qg;have qg2:decide (((kZ r).toNat:Int)<97)=true:=Y5 (by have:=of_decide_eq_false qg;omega);have ew:=Au r Wh SN;refine Rs (zt t2 t3 t5 t6 q0 @ii @qg2 @le @lr @aG @aN @qx @ld0 @ew) ?_;refine WF.res T.c195 (r195 T (o.ext Wd) l Wh _) ?_;rintro _ g3 ⟨i,rfl,hi⟩;cases hh:dX V.an r.1 (aP x.ev 0)with
    |true=>
     exact JP
    |false=>
     exact JP
end
section
variable {P:Program}(T:fA P) {h:ah}
include T
def r84{V}(o:aB h V)(l:eT V){n}(hn:n∈jL V.an)(t:Int):aA P 84 [.agg V.row,.str n,.i t] h (λv _=>v=.bool (jB V.an t n)):=by
 refine .mS 17 T.mix T.c84 ?_;intro ts hlen t0 t1 t2;unfold fn84;have Rz:=@aB.box _ _ o;have hlt:=cY hn;have R6:bp (jL V.an) n<V.aE.length:=by simpa [jL,RV.an]using hlt
 have ix:bf 2 V.s1 (.i ((bp (jL V.an) n:Nat):Int))=some (cI V.s1 2 (bp (jL V.an) n),.ar):=o.i1.c8 R6;have ev:jz V.an n=V.aE[bp (jL V.an) n]:=dq (f:=rX.name) (l:=V.aE) hn;have ld:∀{k':ah},Ext h k'->ao none (lH V.s1 2 (bp (jL V.an) n) 1) (λb=>k'[b]?)=some (.i (jz V.an n).last,.ar):=λ{k'} e=>by
  rw[ev];exact o.i1.p6 R6 rfl e
 refine Rs (A6 t0 t1 t2 @Rz @gR @aG) ?_;refine WF.ce T.c141 (r141 T (o.ext Xx) l n) λg1=>?_
 have ei:de (λy:rX=>decide (y.name=n)) V.aE=(bp (jL V.an) n:Int):=fo (f:=λy:rX=>y.name) hn;rw[ei];refine Rs (A5 t0 t1 t2 ix @ld) ?_;rfl
def r23{V}(o:aB h V)(l:eT V){x}(hx:aK h x.2 1 (x.1.aE.map aq))(hl:x.1.aE.length<2^30)(hk:∀n∈x.1.aE,n∈jL V.an)(t:Int):
  aA P 23 [.agg V.row,.agg (aU x),.i t] h (λv _=>v=.bool (iJ V.an x.1 t)):=by
 refine .mS 23 T.mix T.c23 ?_;intro ts hlen t0 t1 t2;unfold fn23 gA;have Rz:=@aB.box _ _ o;have ox:=hx.one;unfold aU at t1;refine Rs (A5 t0 t1 t2 @Rz @ox) ?_;obtain⟨H,hH⟩:∃H,H=h++[ak.b V.row]++[ak.b [AV.str x.1.name,.str x.1.line,x.2]]:=⟨_,rfl⟩;obtain⟨sb,hsb⟩:∃sb,sb=(h++[ak.b V.row]).length:=⟨_,rfl⟩;have Sj:Ext h H:=by rw[hH];exact Xx
 have mr:H[h.length]? =some (.b V.row):=by rw[hH];exact(show Ext (h++[ak.b V.row]) _ from Xx).some a8
 have ms:H[sb]? =some (.b [AV.str x.1.name,.str x.1.line,x.2]):=by rw[hH,hsb];exact a8
 rw[<-hH,<-hsb];refine WL.inv T.mix (λn ts h'=>∃k:Nat,k<=x.1.aE.length/\n=x.1.aE.length-k/\Ext H h'/\iJ V.an x.1 t=(x.1.aE.drop k).any (jB V.an t)/\
   ts.length=23/\slot ts 2=.i t/\slot ts 3=.ptr h.length 0/\slot ts 4=.ptr sb 0/\slot ts 7=.i k) x.1.aE.length
  ⟨0,Om,rfl,.refl _,rfl,Sn,(Sq t2),Sw,Sw,fV⟩ ?_
 rintro _ ts h' ⟨k,RF,rfl,he,hi,hlen,t2,t3,t4,t7⟩;have lr:∀{kk n a},Ext h' kk->ao n (.ptr h.length a) (λz=>kk[z]?)=dC n a (.b V.row):=λ{_ _ _} e=>az ((he.trans e).some mr)
 have ls:∀{kk n a},Ext h' kk->ao n (.ptr sb a) (λz=>kk[z]?)=dC n a (.b [AV.str x.1.name,.str x.1.line,x.2]):=λ{_ _ _} e=>az ((he.trans e).some ms)
 by_cases hlt:k<x.1.aE.length
 ·have e3:=dM hlt;have e5:=wrapN (n:=k) Om;have ix:=hx.c8 (kk:=.i64) hlt;have hd:x.1.aE.drop k=x.1.aE[k]::x.1.aE.drop (k+1):=Si
  have hm:=hk x.1.aE[k] (Zb _);have ld:∀{kk:ah},Ext h' kk->ao none (cI x.2 1 k) (λb=>kk[b]?)=some (.str x.1.aE[k],.ar):=λ{kk} e=>hx.kS hlt rfl ((Sj.trans he).trans e)
  rw[hd,abk]at hi;obtain⟨y,hy⟩:∃y,y=x.1.aE[k]:=⟨_,rfl⟩;rw[<-hy]at ld hi hm;refine Rs (mN t2 t3 t4 t7 @ls @lr hx.aH e3 ix @ld @aG) ?_;refine WF.ce T.c84 (r84 T ((o.ext (Sj.trans he)).ext Xx) l hm t) λg3=>?_
  cases hr:jB V.an t y with
  |true=>
   rw[hr]at hi;refine Rs (A4 t2 t3 t4 t7) ?_;refine⟨(Sj.trans he).trans Xx,?_⟩;rw[hi];rfl
  |false=>
   rw[hr]at hi;refine Rs (A5 t2 t3 t4 t7 e5) ?_;exact⟨_,Om,k+1,Om,rfl,he.trans Xx,hi,rfl⟩
 ·have e3:=eC hlt;have e4:k=x.1.aE.length:=Om
  refine Rs (A7 t2 t3 t4 t7 @ls hx.aH e3) ?_;refine⟨Sj.trans he,?_⟩;rw[hi,e4,Z2];rfl
end
def any_eq{α:Type}{p:α->Bool}{L:List α}{k:Nat}(hlt:k<L.length):(L.drop k).any p=(p L[k]||(L.drop (k+1)).any p):=by
 have hd:L.drop k=L[k]::L.drop (k+1):=Si
 rw[hd,abk]
section
variable {P:Program}(T:fA P) {h:ah}
include T
def r263(n:Int):aA P 263 [.i n] h (λv _=>v=.dL [.str (mP n),.str (jP n)]):=by
 refine .kr 11 T.mix T.c263 ?_;intro ts hlen t0;unfold fn263 gA;by_cases h1:n=1
 ·have q1:decide (n=1)=true:=Y5 h1;refine Rs (A2 t0 q1) ?_;subst h1;rfl
 have q1:decide (n=1)=false:=YW h1;by_cases h2:n=2
 ·have q2:decide (n=2)=true:=Y5 h2;refine Rs (A3 t0 q1 q2) ?_;subst h2;rfl
 have q2:decide (n=2)=false:=YW h2;by_cases h3:n=3
 ·have q3:decide (n=3)=true:=Y5 h3;refine Rs (A4 t0 q1 q2 q3) ?_;subst h3;rfl
 have q3:decide (n=3)=false:=YW h3;refine Rs (A4 t0 q1 q2 q3) ?_;rw[mP,Za h1,Za h2,Za h3,jP,Za h1,Za h2];rfl
def r265{V:RV}(o:aB h V)(l:eT V)(n:By):aA P 265 [.agg V.row,.str n] h (λv _=>v=.bool (qh V.an n)):=by
 refine .eF 21 T.mix T.c265 ?_;intro ts hlen t0 t1;unfold fn265 gA;have Rz:=@aB.box _ _ o;have hl:=l.l5;refine Rs (A3 t0 t1 @Rz) ?_;refine WL.inv T.mix (λm ts h'=>∃k:Nat,k<=V.aI.length/\m=V.aI.length-k/\h' =h++[ak.b V.row]/\qh V.an n=(V.aI.drop k).any (λp=>decide (p.AS=n))/\ts.length=21/\slot ts 1=.str n/\slot ts 2=.ptr h.length 0/\slot ts 5=.i k) V.aI.length
  ⟨0,Om,rfl,rfl,rfl,Sn,(Sq t1),Sw,fV⟩ ?_
 rintro _ ts _ ⟨k,hk,rfl,rfl,hi,hlen,t1,t2,t5⟩;have lb:∀{kk n a},Ext (h++[ak.b V.row]) kk->ao n (.ptr h.length a) (λz=>kk[z]?)=dC n a (.b V.row):=λ{_ _ _} e=>az (e.some a8)
 by_cases hlt:k<V.aI.length
 ·have e3:=dM hlt;have ix:=o.i5.c8 (kk:=.i64) hlt;have e5:=wrapN (n:=k) Om;rw[any_eq hlt]at hi;obtain⟨y,hy⟩:∃y,y=V.aI[k]:=⟨_,rfl⟩;have ld:∀{kk:ah},Ext h kk->ao none (lH V.s5 4 k 1) (λb=>kk[b]?)=some (.str y.AS,.ar):=λ{kk} e=>o.i5.p6 hlt (by rw[<-hy];rfl) e
  rw[<-hy]at hi;cases hp:decide (y.AS=n)with
  |true=>
   rw[hp]at hi;refine Rs (o8 t1 t2 t5 @lb @fy o.i5.aH e3 ix @ld @hp) ?_;rw[hi];rfl
  |false=>
   rw[hp]at hi;refine Rs (mN t1 t2 t5 @lb @fy o.i5.aH e3 ix @ld @hp e5) ?_;exact⟨_,Om,k+1,Om,rfl,hi,rfl⟩
 ·have e3:=eC hlt;have e4:k=V.aI.length:=Om
  refine Rs (A7 t1 t2 t5 @lb @fy o.i5.aH e3) ?_;rw[hi,e4,Z2];rfl
def r264{V}(o:aB h V)(l:eT V){n}(hn:n∈gV V.an):aA P 264 [.agg V.row,.str n] h (λv _=>v=.str (gN V.an n).gives):=by
 refine .eF 13 T.mix T.c264 ?_;intro ts hlen t0 t1;unfold fn264;have Rz:=@aB.box _ _ o;have hlt:=cY hn;have R6:bp (gV V.an) n<V.aC.length:=by simpa [gV,RV.an]using hlt
 have ix:bf 4 V.s3 (.i ((bp (gV V.an) n:Nat):Int))=some (cI V.s3 4 (bp (gV V.an) n),.ar):=o.i3.c8 R6;have ev:gN V.an n=(V.aC[bp (gV V.an) n]).1:=by
  rw[gN,dq (f:=gY.name) (l:=V.an.aC) (d:=B3) hn];exact z127
 have ld:∀{k':ah},Ext h k'->ao none (lH V.s3 4 (bp (gV V.an) n) 1) (λb=>k'[b]?)=some (.str (gN V.an n).gives,.ar):=λ{k'} e=>by
  rw[ev];exact o.i3.p6 R6 rfl e
 refine Rs (A5 t0 t1 @Rz @eE @aG) ?_;refine WF.ce T.c55 (r55 T (o.ext Xx) l n) λg1=>?_
 have ei:de (λy:gY×AV=>decide (y.1.name=n)) V.aC=(bp (gV V.an) n:Int):=by
  rw[ia];exact fo (f:=λy:gY×AV=>y.1.name) (by rw[<-ia];exact hn)
 exact Dp
def r31{s l}(hs:aK h s 1 (l.map aL))(hl:l.length<2^30)(hb:∀s∈l,-1<=s/\s<=999999999):aA P 31 [s] h (λv _=>v=.i (gf l)):=by
 refine .kr 20 T.mix T.c31 ?_;intro ts hlen t0;unfold fn31 gA;refine Rs t0 ?_;refine WL.inv T.mix (λn ts h'=>∃k:Nat,k<=l.length/\n=l.length-k/\h' =h/\ts.length=20/\slot ts 0=s/\slot ts 3=.i (gf (l.take k))/\slot ts 4=.i k) l.length
  ⟨0,Om,rfl,rfl,Sn,(Sq t0),fV,fV⟩ ?_
 rintro _ ts h' ⟨k,hk,rfl,rfl,hlen,t0,t3,t4⟩;by_cases hlt:k<l.length
 ·have e3:=dM hlt;have e5:=wrapN (n:=k) Om;have ix:=hs.c8 (kk:=.i64) hlt;have ld:=hs.kS (i:=k) (x:=.i l[k]) hlt rfl (Ext.refl _);have hd:=ur (l.take k) 1 (λs hs=>hb s (Z8 hs)) De De;have T4:=hb _ (Zb hlt);have Sd:-16777213<gf (l.take k)/\gf (l.take k)<16777213:=hd;have w1:IntKind.i64.wrap (257*gf (l.take k))=257*gf (l.take k):=bz Om Om;have w2:IntKind.i64.wrap (257*gf (l.take k)+l[k])=257*gf (l.take k)+l[k]:=bz Om Om;have er:=oh (k:=.i64) (a:=257*gf (l.take k)+l[k]) (b:=16777213) De;have RX:gf (l.take (k+1))=(257*gf (l.take k)+l[k]).tmod 16777213:=by
   exact z159
  rw[<-RX]at er;refine Rs (mN t0 t3 t4 hs.aH e3 ix @ld @w1 @w2 @er e5) ?_;exact⟨_,Om,k+1,Om,rfl,rfl,rfl⟩
 ·have e3:=eC hlt;have e4:k=l.length:=Om
  refine Rs (A5 t0 t3 t4 hs.aH e3) ?_;rw[e4,ZD]
def r60{x}(hx:aK h x.2 1 (x.1.bt.map aL))(hl:x.1.bt.length<2^30):aA P 60 [.agg (bB x)] h (λv h'=>aK h' v 1 ((cU x.1.bt 0).map aL)):=by
 refine .kr 23 T.mix T.c60 ?_;intro ts hlen t0;unfold fn60 gA;have ox:=hx.one;unfold bB at t0;refine Rs (A2 t0 @ox) ?_;obtain⟨H0,Ug⟩:∃H0,H0=h++[ak.b [AV.str x.1.name,.str x.1.mod,x.2]]:=⟨_,rfl⟩;have e0:Ext h H0:=by rw[Ug];exact Xx
 have lb:∀{k n a},Ext H0 k->ao n (.ptr h.length a) (λz=>k[z]?)=dC n a (.b [AV.str x.1.name,.str x.1.mod,x.2]):=λ{_ _ _} e=>az (e.some (by rw[Ug];exact a8))
 rw[<-Ug];refine WL.inv T.mix (λn ts h'=>∃(k:Nat) (out:AV),k<=x.1.bt.length/\n=x.1.bt.length-k/\Ext H0 h'/\Fr H0.length h' out 1 ((cU (x.1.bt.take k) 0).map aL)/\
   ts.length=23/\slot ts 1=.ptr h.length 0/\slot ts 3=out/\slot ts 4=.i k) x.1.bt.length
  ⟨0,.af,Om,rfl,Ext.refl _,.nil,Sn,(Sq t0),(Sq t0),fV⟩ ?_
 rintro _ ts _ ⟨k,out,hk',rfl,⟨g,rfl⟩,hfr,hlen,t1,t3,t4⟩;by_cases hlt:k<x.1.bt.length
 ·have e3:=dM hlt;have ix:=hx.c8 (kk:=.i64) hlt;have ld:∀{k':ah},Ext H0 k'->ao none (cI x.2 1 k) (λb=>k'[b]?)=some (.i x.1.bt[k],.ar):=λ{k'} e=>hx.kS hlt rfl (e0.trans e)
  have e5:=wrapN (n:=k) Om;have RX:cU (x.1.bt.take (k+1)) 0=cU (x.1.bt.take k) 0++(if x.1.bt[k]<0 then [(k:Int)]else []):=by
   exact Qd
  by_cases hn:x.1.bt[k]<0
  ·have q:decide (x.1.bt[k]<0)=true:=Y5 hn;rw[Zh hn]at RX;refine Rs (A9 t1 t3 t4 @lb hx.aH e3 ix @ld q) ?_;have T3:=j6 (l:=x.1.bt.take k) (i:=0);refine WR.ff (h0:=H0) (cs:=(cU (x.1.bt.take k) 0).map aL) (ys:=[aL (k:Int)]) (hfr.app _) (Fr.push (N:=0) (ZA _) [aL (k:Int)] Si).aW De Si (by simp only[Y7,ZQ,YX,Y6]at T3 ⊢;omega) Xx ?_;intro g' RJ hff hkp;have hrow:(cU (x.1.bt.take k) 0).map aL++[aL (k:Int)]=(cU (x.1.bt.take (k+1)) 0).map aL:=by rw[RX,Y9];rfl
   rw[hrow]at hff;rw[hrow];refine Rs (A4 t1 t3 t4 e5) ?_;exact I7
  ·have q:decide (x.1.bt[k]<0)=false:=YW hn;rw[Za hn,Zr]at RX;refine Rs (o8 t1 t3 t4 @lb hx.aH e3 ix @ld q e5) ?_;refine⟨_,Om,k+1,out,Om,rfl,?_,rfl,rfl⟩;rw[RX];exact hfr
 ·have e3:=eC hlt;have e4:k=x.1.bt.length:=Om
  refine Rs (A6 t1 t3 t4 @lb hx.aH e3) ?_;rw[e4,ZD]at hfr;exact⟨e0.trans Xx,hfr.aW⟩
def r127{V:RV}(o:aB h V)(l:eT V){M:List (By)}{s:AV}(hs:aK h s 1 (M.map aq))(hM:M.length<2^40):aA P 127 [.agg V.row,s] h (λv h'=>aK h' v 1 (((V.an.aj.filter λx=>decide (x.line∈M)).map jR.name).map aq)):=by
 refine .eF 32 T.mix T.c127 ?_;intro ts hlen t0 t1;unfold fn127 gA;have Rz:=@aB.box _ _ o;refine Rs (A3 t0 t1 @Rz) ?_;obtain⟨H,hH⟩:∃H,H=h++[ak.b V.row]:=⟨_,rfl⟩;have Sj:Ext h H:=by rw[hH];exact Xx
 have mr:H[h.length]? =some (.b V.row):=by rw[hH];exact a8
 rw[<-hH];have eu:(V.an.aj.filter λx=>decide (x.line∈M)).map jR.name=(V.aj.filter λx=>decide (x.1.line∈M)).map λx=>x.1.name:=by
  simp only[RV.an,aa1,aaE];rfl
 rw[eu];refine WL.inv T.mix (λn ts h'=>∃(k:Nat) (out:AV),k<=V.aj.length/\n=V.aj.length-k/\Ext H h'/\Fr H.length h' out 1 ((((V.aj.take k).filter λx=>decide (x.1.line∈M)).map λx=>x.1.name).map aq)/\
   ts.length=32/\slot ts 1=s/\slot ts 2=.ptr h.length 0/\slot ts 5=out/\slot ts 6=.i k) V.aj.length
  ⟨0,.af,Om,rfl,.refl _,.nil,Sn,(Sq t1),Sw,Sw,fV⟩ ?_
 rintro _ ts h' ⟨k,out,RF,rfl,⟨g,rfl⟩,hfr,hlen,t1,t2,t5,t6⟩;have he:Ext H (H++g):=⟨_,rfl⟩;have lr:∀{kk n a},Ext (H++g) kk->ao n (.ptr h.length a) (λz=>kk[z]?)=dC n a (.b V.row):=λ{_ _ _} e=>az ((he.trans e).some mr)
 have T3:=l.l2;by_cases hlt:k<V.aj.length
 ·have e3:=dM hlt;have e5:=wrapN (n:=k) Om;have ix:=o.i2.c8 (kk:=.i64) hlt;obtain⟨y,hy⟩:∃y,y=V.aj[k]:=⟨_,rfl⟩;have lf:∀{kk:ah},Ext (H++g) kk->ao none (lH V.s2 3 k 0) (λb=>kk[b]?)=some (.str y.1.name,.ar):=λ{kk} e=>o.i2.p6 hlt (by rw[<-hy];rfl) ((Sj.trans he).trans e)
  have lg:∀{kk:ah},Ext (H++g) kk->ao none (lH V.s2 3 k 1) (λb=>kk[b]?)=some (.str y.1.line,.ar):=λ{kk} e=>o.i2.p6 hlt (by rw[<-hy];rfl) ((Sj.trans he).trans e)
  have RX:V.aj.take (k+1)=V.aj.take k++[y]:=by rw[hy,ZJ,YZ hlt];rfl
  refine Rs (o8 t1 t2 t5 t6 @lr @eo o.i2.aH e3 ix @lg) ?_;refine WF.ce T.c35 (r35 T (hs.ext (Sj.trans he)) hM _) λg3=>?_
  cases hd:decide (y.1.line∈M)with
  |false=>
   refine Rs (A5 t1 t2 t5 t6 e5) ?_;exact z72
  |true=>
   refine Rs (A8 t1 t2 t5 t6 @lr @eo ix @lf) ?_;have R7:((V.aj.take k).filter λx=>decide (x.1.line∈M)).length<=V.aj.length:=ZR (ZM _ _) (by rw[ZQ];omega);refine WR.ff (h0:=H) (cs:=(((V.aj.take k).filter λx=>decide (x.1.line∈M)).map λx=>x.1.name).map aq) (ys:=[aq y.1.name]) ((hfr.app _).app _) (Fr.push (N:=0) (ZA _) [aq y.1.name] (by simp[aq])).aW De Si (by simp only[Y7,YX,Y6];omega) (by rw[YV,YV];exact⟨_,rfl⟩) ?_;intro g' RJ hff hkp;have hrow:(((V.aj.take k).filter λx=>decide (x.1.line∈M)).map λx=>x.1.name).map aq++[aq y.1.name]=(((V.aj.take (k+1)).filter λx=>decide (x.1.line∈M)).map λx=>x.1.name).map aq:=by
    exact M4
   rw[hrow]at hff;rw[hrow];refine Rs (A5 t1 t2 t5 t6 e5) ?_;exact I7
 ·have e3:=eC hlt;have e4:k=V.aj.length:=Om
  refine Rs (A8 t1 t2 t5 t6 @lr @eo o.i2.aH e3) ?_;rw[e4,ZD]at hfr;exact⟨Sj.trans he,hfr.aW⟩
end
end Go.Abs
namespace Go.Abs
section
variable {P:Program}{ro:Option Nat->Prop}{ks:List Kt}{ts:TS}{Q:Ex->TS->ah->Prop}
def WR.E8{h s y es cs ys h0 w d l}
  (hs:Fr h0.length h s es cs) (hy:aK h y es ys) (hes:0<es) (eJ:(cs.length+ys.length)*w<=2^46) (he:Ext h0 h)
  (K:∀s' g,Fr h0.length (h0++g) s' es (cs++ys)->(∀b,b<h.length->sB s≠some b->(h0++g)[b]? =h[b]?)->h.length<=(h0++g).length->WP P ro l ks (put ts d s') (h0++g) Q):
  WR P ro (pH es w s y (λb=>h[b]?) h.length) false d l ks ts h Q:=by
 by_cases hn:ys.length=0
 ·have hys:ys=[]:=Z4.1 hn;subst hys;obtain⟨g,rfl⟩:=he;rw[Zr]at K;have e:pH es w s y (λb=>(h0++g)[b]?) (h0++g).length=some (s,.ar):=by
   simp only[pH,hy.fu];cases hs with
   |nil=>simp
   |mk hN hb h'=>simp
  rw[e,jc];exact K s g hs (λ_ _ _=>rfl) (Zc _)
 ·refine WR.ff hs hy hes Om eJ he λg h1 h2 h3=>K _ g h2 (λb hb hne=>h3 b hb λb0 o n e Yr hbb=>hne (by rw[Yr,hbb];rfl)) Om
end
def D5{R}(w:ee R){x}(hx:x∈R.aC):gN R x.name=x:=uh (f:=gY.name) w.n3.nd hx
def pV{m l x}:cP m (l++[x])=if x.name∈cP m l then cP m l++x.bo else cP m l:=by
 rw[cP,aaO];rfl
def vE{m}:∀{l},(∀x∈l,x.bo.length<=2)->(cP m l).length<=1+2*l.length:=by
 intro l;have key:∀(l:List gY) (a:List (By)),(∀x∈l,x.bo.length<=2)->(l.foldl (λn x=>if x.name∈n then n++x.bo else n) a).length<=a.length+2*l.length:=by
  intro l
  induction l with
  |nil=>intro a _;simp
  |cons x l ih=>
   intro a hl;have h1:=hl x Si;have:=ih (if x.name∈a then a++x.bo else a) (λy hy=>hl y (ZH _ hy));rw[aaB];refine ZR this ?_;split<;>simp only[YT,YX]<;>omega
 intro hl;exact key l [m] hl
set_option maxRecDepth 10000
attribute [local irreducible] WP WC WE WB WR WF WL WG fR WM
section
variable {P:Program}(T:fA P) {h:ah}
include T
def r58{V}(o:aB h V)(w:ee V.an)(m:By):aA P 58 [.agg V.row,.str m] h (λv h'=>aK h' v 1 (((mF V.an m).map gY.name).map aq)):=by
 refine .eF 60 T.mix T.c58 ?_;intro ts hlen t0 t1;unfold fn58 gA;have Rz:=@aB.box _ _ o;have l:=w.len;have hn32:V.aC.length<=32:=by have:=w.l3;simpa [RV.an]using this
 have hin:∀x∈V.an.aC,x.bo.length<=2:=λx hx=>(w.md x hx).2.1
 have hml:V.an.aC.length=V.aC.length:=by simp[RV.an]
 have ew:IntKind.i64.wrap ((V.aC.length:Int)-1)=(V.aC.length:Int)-1:=bz Om Om;have lb0:∀{kk n a},Ext (h++[ak.b V.row]) kk->ao n (.ptr h.length a) (λz=>kk[z]?)=dC n a (.b V.row):=λ{_ _ _} e=>az (e.some a8)
 refine Rs (A7 t0 t1 @Rz @lb0 @eE o.i3.aH @ew) ?_;obtain⟨H,hH⟩:∃H,H=h++[ak.b V.row]:=⟨_,rfl⟩;have Sj:Ext h H:=by rw[hH];exact Xx
 have mr:H[h.length]? =some (.b V.row):=by rw[hH];exact a8
 rw[<-hH];refine WL.inv T.mix (λn ts h'=>∃(k:Nat) (ws:AV),k<=V.aC.length/\n=V.aC.length-k/\Ext H h'/\aK h' ws 1 ((cP m (V.an.aC.reverse.take k)).map aq)/\
   ts.length=60/\slot ts 2=.ptr h.length 0/\slot ts 5=ws/\slot ts 6=.i ((V.aC.length:Int)-1-k)) V.aC.length
  ⟨0,.slice H.length 0 1 1,Om,rfl,⟨_,rfl⟩,(Fr.push (N:=0) (ZA _) [aq m] (by simp[aq])).aW,Sn,Sw,Sw,(by simp only[aO,aQ,aY,aZ,reduceAdd,reduceMul,reduceLeDiff,reduceEqDiff,ba,hlen,Zi,Zk];simp)⟩ ?_
 clear t0 t1 hlen lb0;clear ts;rintro _ ts h' ⟨k,ws,hk,rfl,⟨g,rfl⟩,Vm,hlen,t2,t5,t6⟩;have he:Ext H (H++g):=⟨_,rfl⟩;have lr:∀{kk n a},Ext (H++g) kk->ao n (.ptr h.length a) (λz=>kk[z]?)=dC n a (.b V.row):=λ{_ _ _} e=>az ((he.trans e).some mr)
 have hwl:=vE (m:=m) (l:=V.an.aC.reverse.take k) (λx hx=>hin x (List.mem_reverse.1 (Z8 hx)));have htl:(V.an.aC.reverse.take k).length<=32:=by rw[ZQ,aaT];omega
 by_cases hlt:k<V.aC.length
 ·have hi:V.aC.length-1-k<V.aC.length:=Om
  have ei:(V.aC.length:Int)-1-k=((V.aC.length-1-k:Nat):Int):=Om
  have e3:decide (0<=(V.aC.length:Int)-1-k)=true:=Y5 Om;have e5:IntKind.i64.wrap ((V.aC.length:Int)-1-k-1)=(V.aC.length:Int)-1-((k+1:Nat):Int):=by rw[bz Om Om];omega
  have ix:bf 4 V.s3 (.i ((V.aC.length:Int)-1-k))=some (cI V.s3 4 (V.aC.length-1-k),.ar):=by rw[ei];exact o.i3.c8 hi
  obtain⟨y,hy⟩:∃y,y=V.aC[V.aC.length-1-k]:=⟨_,rfl⟩;have UC:y∈V.aC:=by rw[hy];exact Zb _
  have ld:∀{kk:ah},Ext (H++g) kk->ao (some 4) (cI V.s3 4 (V.aC.length-1-k)) (λb=>kk[b]?)=some (.agg (aM y),.ar):=λ{kk} e=>by rw[hy];exact o.i3.gS hi ((Sj.trans he).trans e)
  have RX:V.an.aC.reverse.take (k+1)=V.an.aC.reverse.take k++[y.1]:=by
   have hk':k<V.an.aC.reverse.length:=by rw[aaT];omega
   rw[ZJ,YZ hk',List.getElem_reverse];simp only[RV.an,aab,Y7,Option.toList_some,hy]
  have oy:=(o.e3 y UC).one;have hy3:=o.e3 y UC;unfold aM at ld;refine Rs (A9 t2 t5 t6 e3 @lr @eE ix @ld @oy) ?_;refine WF.ce T.c35 (r35 T (Vm.ext Xx) Om _) λg3=>?_
  cases hd:decide (y.1.name∈cP m (V.an.aC.reverse.take k))with
  |false=>
   refine Rs (A4 t2 t5 t6 e5) ?_;refine⟨_,Om,k+1,ws,Om,rfl,?_,rfl,rfl⟩;rw[RX,pV,Za (of_decide_eq_false hd)];exact Vm.ext Xx
  |true=>
   refine Rs (A3 t2 t5 t6) ?_;obtain⟨H1,Wu⟩:∃H1,H1=H++g++[ak.b [AV.str y.1.name,.str y.1.gives,.str y.1.line,y.2]]++g3:=⟨_,rfl⟩;obtain⟨bx,Rz⟩:∃bx,bx=(H++g).length:=⟨_,rfl⟩;have Td:Ext (H++g) H1:=by rw[Wu];exact Xx
   have mx:H1[bx]? =some (.b [AV.str y.1.name,.str y.1.gives,.str y.1.line,y.2]):=by rw[Wu,Rz];exact(show Ext (H++g++[ak.b [AV.str y.1.name,.str y.1.gives,.str y.1.line,y.2]]) _ from Xx).some a8
   have hbl:bx<H1.length:=(YU.1 mx).1;rw[<-Wu,<-Rz];refine oT (λh=>h[bx]? =some (.b [AV.str y.1.name,.str y.1.gives,.str y.1.line,y.2])) ?_;refine c9 mx rfl rfl ?_;refine Rs t2 ?_;have x2:Ext H1 (H1++[ak.b []]):=⟨_,rfl⟩;have m2:(λh:ah=>h[bx]? =some (.b [AV.str y.1.name,.str y.1.gives,.str y.1.line,y.2])) (H1++[ak.b []]):=x2.some mx;refine c9 m2 rfl rfl ?_;refine Rs (A2 t2 t5) ?_;refine c9 m2 rfl rfl ?_;refine Rs (A2 t2 t5) ?_;refine WR.pG (N:=H1.length) a8 (Zc _) (Vm.ext (Td.trans x2)) (by simp only[Y7];omega) λs' g5 YH=>?_
   have x3:Ext H1 (H1++[ak.b []]++g5):=Xx;have m3:(λh:ah=>h[bx]? =some (.b [AV.str y.1.name,.str y.1.gives,.str y.1.line,y.2])) (H1++[ak.b []]++g5):=x3.some mx;refine Rs (A2 t2 t5) ?_;refine c9 m3 rfl rfl ?_;refine Rs (A2 t2 t5) ?_;refine kU m3 (v:=y.2) (λz hz=>?_) ?_
   ·simp only[aO,aQ,aY,aZ,reduceAdd,reduceMul,reduceLeDiff,reduceEqDiff,ba,hlen,Zi,Zk,t2,az hz]
   refine Rs (A2 t2 t5) ?_;refine c9 m3 rfl rfl ?_;refine Rs (A2 t2 t5) ?_;have TG:y.1.bo.length<=2:=hin y.1 (Zu UC);refine WR.E8 (h0:=H1) (ys:=y.1.bo.map aq) YH (hy3.ext (((Sj.trans he).trans Td).trans x3)) De (by simp only[Y7];omega) x3 λs6 g6 hf6 hk6 hl6=>?_
   have m6:(λh:ah=>h[bx]? =some (.b [AV.str y.1.name,.str y.1.gives,.str y.1.line,y.2])) (H1++g6):=(Ext.app g6 (Ext.refl H1)).some mx;refine Rs (A2 t2 t5) ?_;refine oS m6 rfl ?_;refine Rs (A4 t2 t5 t6 e5) ?_;refine⟨_,Om,k+1,s6,Om,rfl,⟨_,by rw[Wu];simp only[YV];rfl⟩,?_,rfl,rfl⟩;rw[RX,pV,Zh (aak hd),Y9];exact hf6.aW
 ·have e3:decide (0<=(V.aC.length:Int)-1-k)=false:=YW Om;have e4:k=V.aC.length:=Om
  refine Rs (A4 t2 t5 t6 e3) ?_;have hns:cP m (V.an.aC.reverse.take k)=cP m V.an.aC.reverse:=by rw[e4,<-hml,<-aaT,ZD]
  rw[hns]at Vm hwl;have eu:(mF V.an m).map gY.name=(V.aC.filter λx=>decide (x.1.name∈cP m V.an.aC.reverse)).map λx=>x.1.name:=by
   rw[<-pv,iK,aaE];rfl
  rw[eu];obtain⟨W,hW⟩:∃W,W=cP m V.an.aC.reverse:=⟨_,rfl⟩;rw[<-hW]at Vm hwl ⊢;have hwl2:W.length<=65:=Om
  clear hwl;refine WL.inv T.mix (λn ts h'=>∃(k:Nat) (out:AV),k<=V.aC.length/\n=V.aC.length-k/\Ext (H++g) h'/\Fr (H++g).length h' out 1 ((((V.aC.take k).filter λx=>decide (x.1.name∈W)).map λx=>x.1.name).map aq)/\
    ts.length=60/\slot ts 2=.ptr h.length 0/\slot ts 5=ws/\slot ts 8=out/\slot ts 9=.i k) V.aC.length
   ⟨0,.af,Om,rfl,.refl _,.nil,Sn,(Sq t2),(Sq t5),Sw,fV⟩ ?_
  clear t2 t5 t6 hlen lr hlt e3 e4 hk htl hns;clear ts k;rintro _ ts _ ⟨k,out,RF,rfl,⟨g2,rfl⟩,hfr,hlen,t2,t5,t8,t9⟩;have RO:Ext (H++g) (H++g++g2):=⟨_,rfl⟩;have lr:∀{kk n a},Ext (H++g++g2) kk->ao n (.ptr h.length a) (λz=>kk[z]?)=dC n a (.b V.row):=λ{_ _ _} e=>az (((he.trans RO).trans e).some mr)
  by_cases hlt:k<V.aC.length
  ·have e3:=dM hlt;have e5:=wrapN (n:=k) Om;have ix:=o.i3.c8 (kk:=.i64) hlt;obtain⟨y,hy⟩:∃y,y=V.aC[k]:=⟨_,rfl⟩;have lf:∀{kk:ah},Ext (H++g++g2) kk->ao none (lH V.s3 4 k 0) (λb=>kk[b]?)=some (.str y.1.name,.ar):=λ{kk} e=>o.i3.p6 hlt (by rw[<-hy];rfl) (((Sj.trans he).trans RO).trans e)
   have RX:V.aC.take (k+1)=V.aC.take k++[y]:=by rw[hy,ZJ,YZ hlt];rfl
   refine Rs (o8 t2 t5 t8 t9 @lr @eE o.i3.aH e3 ix @lf) ?_;refine WF.ce T.c35 (r35 T (Vm.ext RO) Om _) λg3=>?_
   cases hd:decide (y.1.name∈W)with
   |false=>
    refine Rs (A5 t2 t5 t8 t9 e5) ?_;exact z72
   |true=>
    refine Rs (A8 t2 t5 t8 t9 @lr @eE ix @lf) ?_;have R7:((V.aC.take k).filter λx=>decide (x.1.name∈W)).length<=V.aC.length:=ZR (ZM _ _) (by rw[ZQ];omega);refine WR.ff (h0:=H++g) (cs:=(((V.aC.take k).filter λx=>decide (x.1.name∈W)).map λx=>x.1.name).map aq) (ys:=[aq y.1.name]) ((hfr.app _).app _) (Fr.push (N:=0) (ZA _) [aq y.1.name] (by simp[aq])).aW De Si (by simp only[Y7,YX,Y6];omega) (by rw[YV,YV];exact⟨_,rfl⟩) ?_;intro g' RJ hff hkp;have hrow:(((V.aC.take k).filter λx=>decide (x.1.name∈W)).map λx=>x.1.name).map aq++[aq y.1.name]=(((V.aC.take (k+1)).filter λx=>decide (x.1.name∈W)).map λx=>x.1.name).map aq:=by
     exact M4
    rw[hrow]at hff;rw[hrow];refine Rs (A5 t2 t5 t8 t9 e5) ?_;exact I7
  ·have e3:=eC hlt;have e4:k=V.aC.length:=Om
   refine Rs (A8 t2 t5 t8 t9 @lr @eE o.i3.aH e3) ?_;rw[e4,ZD]at hfr;exact⟨(Sj.trans he).trans RO,hfr.aW⟩
def r59{V}(o:aB h V)(w:ee V.an)(m:By):aA P 59 [.agg V.row,.str m] h (λv h'=>aK h' v 1 (((iT V.an m).map gZ.name).map aq)):=by
 refine .eF 64 T.mix T.c59 ?_;intro ts hlen t0 t1;unfold fn59 gA;have Rz:=@aB.box _ _ o;have l:=w.len;have hn32:V.aC.length<=32:=by have:=w.l3;simpa [RV.an]using this
 have hml:V.an.aC.length=V.aC.length:=by simp[RV.an]
 refine Rs (A4 t0 t1 @Rz @aG) ?_;refine WF.res T.c58 (r58 T (o.ext Xx) w m) ?_;rintro ns g0 hns;obtain⟨M,hM⟩:∃M,M=mF V.an m:=⟨_,rfl⟩;rw[<-hM]at hns;have hMm:∀x∈M,x∈V.an.aC:=λx hx=>by rw[hM]at hx;exact(aag.1 hx).1
 have hMl:M.length<=32:=by
  have h1:M.length<=V.an.aC.length:=by rw[hM];unfold mF;exact ZM _ _
  omega
 obtain⟨H,hH⟩:∃H,H=h++[ak.b V.row]++g0:=⟨_,rfl⟩;have Sj:Ext h H:=by rw[hH];exact Xx
 have mr:H[h.length]? =some (.b V.row):=by rw[hH];exact(show Ext (h++[ak.b V.row]) _ from Xx).some a8
 rw[<-hH]at hns ⊢;rw[aaE]at hns;refine Rs (A2 t0 t1) ?_;obtain⟨F,hF⟩:∃F:List gY->List (By),F=λl=>(l.filter λx=>decide (x.bo=[])).map gY.line:=⟨_,rfl⟩
 refine WL.inv T.mix (λn ts h'=>∃(k:Nat) (out:AV),k<=M.length/\n=M.length-k/\Ext H h'/\Fr H.length h' out 1 ((F (M.take k)).map aq)/\
   ts.length=64/\slot ts 2=.ptr h.length 0/\slot ts 5=ns/\slot ts 6=out/\slot ts 7=.af/\slot ts 8=.i k) M.length
  ⟨0,.af,Om,rfl,.refl _,(by rw[hF];exact .nil),Sn,Sw,Sw,Sw,Sw,fV⟩ ?_
 rintro _ ts _ ⟨k,out,hk,rfl,⟨g,rfl⟩,hfr,hlen,t2,t5,t6,t7,t8⟩;have he:Ext H (H++g):=⟨_,rfl⟩;have lr:∀{kk n a},Ext (H++g) kk->ao n (.ptr h.length a) (λz=>kk[z]?)=dC n a (.b V.row):=λ{_ _ _} e=>az ((he.trans e).some mr)
 have hFl:∀j,(F (M.take j)).length<=M.length:=λj=>by
  rw[hF];simp only[Y7];exact ZR (ZM _ _) (by rw[ZQ];omega)
 by_cases hlt:k<M.length
 ·have e3:=dM hlt;have e5:=wrapN (n:=k) Om;have ix:=hns.c8 (kk:=.i64) hlt;obtain⟨x,hx⟩:∃x,x=M[k]:=⟨_,rfl⟩;have R3:x∈V.an.aC:=hMm x (by rw[hx];exact Zb _);have lf:∀{kk:ah},Ext (H++g) kk->ao none (cI ns 1 k) (λb=>kk[b]?)=some (.str x.name,.ar):=λ{kk} e=>hns.kS hlt (by rw[<-hx];rfl) (he.trans e)
  have Vy:x.name∈gV V.an:=Zu R3;have hps:=cY Vy;have T2:bp (gV V.an) x.name<V.aC.length:=by simpa [gV,RV.an]using hps
  have iy:bf 4 V.s3 (.i ((bp (gV V.an) x.name:Nat):Int))=some (cI V.s3 4 (bp (gV V.an) x.name),.ar):=o.i3.c8 T2;obtain⟨y,hy⟩:∃y,y=V.aC[bp (gV V.an) x.name]:=⟨_,rfl⟩;have UC:y∈V.aC:=by rw[hy];exact Zb _
  have Yj:y.1=x:=by
   have e1:=D5 w R3;rw[gN,dq (f:=gY.name) (l:=V.an.aC) (d:=B3) Vy]at e1;rw[<-e1,hy];exact z127
  have ly:∀{kk:ah},Ext (H++g) kk->ao (some 4) (cI V.s3 4 (bp (gV V.an) x.name)) (λb=>kk[b]?)=some (.agg (aM y),.ar):=λ{kk} e=>by rw[hy];exact o.i3.gS T2 ((Sj.trans he).trans e)
  have RX:M.take (k+1)=M.take k++[x]:=by rw[hx,ZJ,YZ hlt];rfl
  have oy:=o.e3 y UC;have Ud:=oy.one;unfold aM at ly;refine Rs (pe t2 t5 t6 t7 t8 hns.aH e3 @lr @eE @aG ix @lf) ?_;refine WF.ce T.c55 (r55 T ((o.ext (Sj.trans he)).ext Xx) l _) λg1=>?_
  have ei:de (λy:gY×AV=>decide (y.1.name=x.name)) V.aC=(bp (gV V.an) x.name:Int):=by
   rw[ia];exact fo (f:=λy:gY×AV=>y.1.name) (by rw[<-ia];exact Vy)
  rw[ei];refine Rs (A9 t2 t5 t6 t7 t8 @iy @ly @Ud oy.aH) ?_;rw[Yj];by_cases hin:x.bo=[]
  ·have q:decide ((x.bo.length:Int)=0)=true:=Y5 (by rw[hin];rfl);refine Rs (A6 t2 t5 t6 t7 t8 q) ?_;have R7:=hFl k;refine WR.ff (h0:=H) (cs:=(F (M.take k)).map aq) (ys:=[aq x.line]) (((hfr.app _).app _).app _) (Fr.push (N:=0) (ZA _) [aq x.line] (by simp[aq])).aW De Si (by simp only[Y7,YX,Y6];omega) (by simp only[YV];exact⟨_,rfl⟩) ?_;intro g' RJ hff hkp;have hrow:(F (M.take k)).map aq++[aq x.line]=(F (M.take (k+1))).map aq:=by
    rw[RX,hF];simp only[aaz,aa9,abv,hin,Zp,Zk,Y9,ZX,aaC]
   rw[hrow]at hff;rw[hrow];refine Rs (A6 t2 t5 t6 t7 t8 e5) ?_;exact I7
  ·have q:decide ((x.bo.length:Int)=0)=false:=YW (λz=>hin (Z4.1 Om));refine Rs (A7 t2 t5 t6 t7 t8 q e5) ?_;refine⟨_,Om,k+1,out,Om,rfl,?_,rfl,rfl⟩;have:F (M.take (k+1))=F (M.take k):=by
    rw[RX,hF];simp only[aaz,aa9,abv,hin,Zx,ZS,Zi,Zr]
   rw[this];exact(hfr.app _).app _
 ·have e3:=eC hlt;have e4:k=M.length:=Om
  rw[e4,ZD]at hfr;have R7:=hFl M.length;rw[ZD]at R7;have hsrc:∀y∈V.lines,decide (y.name∈F M)=decide (y.name∈(mF V.an m).map gY.line):=λy hy=>by
   refine aaF.2 ?_;rw[<-hM,hF];simp only[ZB,aag,ZO];constructor
   ·rintro⟨x,⟨h1,_⟩,h2⟩;exact⟨x,h1,h2⟩
   ·rintro⟨x,h1,h2⟩;refine⟨x,⟨h1,?_⟩,h2⟩;rcases(w.md x (hMm x h1)).1 with⟨a,_⟩|⟨_,a⟩
    ·exact a
    ·have hnn:=w.n0.nm y.name (Zu hy);rw[<-h2,a]at hnn;cases hnn
  have eu:(iT V.an m).map gZ.name=(V.lines.filter λy=>decide (y.name∈F M)).map gZ.name:=by
   rw[iT];congr 1;exact(List.filter_congr λy hy=>hsrc y hy).symm
  rw[eu];obtain⟨W,hW⟩:∃W,W=F M:=⟨_,rfl⟩;rw[<-hW]at hfr R7 ⊢;have Vm:=hfr.aW;refine Rs (A7 t2 t5 t6 t7 t8 hns.aH e3) ?_;refine WL.inv T.mix (λn ts h'=>∃(k:Nat) (res:AV),k<=V.lines.length/\n=V.lines.length-k/\Ext (H++g) h'/\Fr (H++g).length h' res 1 ((((V.lines.take k).filter λy=>decide (y.name∈W)).map gZ.name).map aq)/\
    ts.length=64/\slot ts 2=.ptr h.length 0/\slot ts 6=out/\slot ts 7=res/\slot ts 10=.i k) V.lines.length
   ⟨0,.af,Om,rfl,.refl _,.nil,Sn,(Sq t2),(Sq t6),(Sq t7),fV⟩ ?_
  clear t2 t5 t6 t7 t8 hlen lr hlt e3 e4 hk;clear ts k;rintro _ ts _ ⟨k,res,RF,rfl,⟨g2,rfl⟩,Up,hlen,t2,t6,t7,t10⟩;have RO:Ext (H++g) (H++g++g2):=⟨_,rfl⟩;have lr:∀{kk n a},Ext (H++g++g2) kk->ao n (.ptr h.length a) (λz=>kk[z]?)=dC n a (.b V.row):=λ{_ _ _} e=>az (((he.trans RO).trans e).some mr)
  have T3:=l.l0;by_cases hlt:k<V.lines.length
  ·have e3:=dM hlt;have e5:=wrapN (n:=k) Om;have ix:=o.i0.c8 (kk:=.i64) hlt;obtain⟨y,hy⟩:∃y,y=V.lines[k]:=⟨_,rfl⟩;have lf:∀{kk:ah},Ext (H++g++g2) kk->ao none (lH V.s0 3 k 0) (λb=>kk[b]?)=some (.str y.name,.ar):=λ{kk} e=>o.i0.p6 hlt (by rw[<-hy];rfl) (((Sj.trans he).trans RO).trans e)
   have RX:V.lines.take (k+1)=V.lines.take k++[y]:=by rw[hy,ZJ,YZ hlt];rfl
   refine Rs (o8 t2 t6 t7 t10 @lr @eP o.i0.aH e3 ix @lf) ?_;refine WF.ce T.c35 (r35 T (Vm.ext RO) Om _) λg3=>?_
   cases hd:decide (y.name∈W)with
   |false=>
    refine Rs (A5 t2 t6 t7 t10 e5) ?_;refine⟨_,Om,k+1,res,Om,rfl,?_,rfl,rfl⟩;rw[RX,aaz];simp only[aa9,abv,hd,ZS,Zi,Zr];exact Up.app _
   |true=>
    refine Rs (A8 t2 t6 t7 t10 @lr @eP ix @lf) ?_;have hfl2:((V.lines.take k).filter λy=>decide (y.name∈W)).length<=V.lines.length:=ZR (ZM _ _) (by rw[ZQ];omega);refine WR.ff (h0:=H++g) (cs:=(((V.lines.take k).filter λy=>decide (y.name∈W)).map gZ.name).map aq) (ys:=[aq y.name]) ((Up.app _).app _) (Fr.push (N:=0) (ZA _) [aq y.name] (by simp[aq])).aW De Si (by simp only[Y7,YX,Y6];omega) (by rw[YV,YV];exact⟨_,rfl⟩) ?_;intro g' RJ hff hkp;have hrow:(((V.lines.take k).filter λy=>decide (y.name∈W)).map gZ.name).map aq++[aq y.name]=(((V.lines.take (k+1)).filter λy=>decide (y.name∈W)).map gZ.name).map aq:=by
     exact M4
    rw[hrow]at hff;rw[hrow];refine Rs (A5 t2 t6 t7 t10 e5) ?_;exact I7
  ·have e3:=eC hlt;have e4:k=V.lines.length:=Om
   refine Rs (A8 t2 t6 t7 t10 @lr @eP o.i0.aH e3) ?_;rw[e4,ZD]at Up;exact⟨(Sj.trans he).trans RO,Up.aW⟩
end
def uW{s c}:iF (s++[c])=(339*iF s+(c.toNat:Int)).tmod 9999749:=by simp[iF]
theorem yD:∀(s:By) (a:Int),0<=a/\a<9999749->0<=s.foldl (λx c=>(339*x+(c.toNat:Int)).tmod 9999749) a/\s.foldl (λx c=>(339*x+(c.toNat:Int)).tmod 9999749) a<9999749
 |[],_,h=>h
 |c::s,a,h=>by
  rw[aaB];exact yD s _ ⟨Int.tmod_nonneg _ Om,Int.tmod_lt_of_pos _ Om⟩
def nF(s:By):0<=iF s/\iF s<9999749:=yD s 1 Om
def tR(s:By):(jH (iF s)).length<=7:=by
 have:=nF s;rw[kI];exact l9 (k:=6) Om
def uV(s:By):(nE s).length=7:=by
 have:=tR s;unfold nE;rw[YT,Z9];omega
theorem ry{c}:∀{xs},Lib.join xs [c]=jn c xs
 |[]=>rfl
 |[x]=>Lib.join_one x [c]
 |x::y::r=>by
  rw[ni Si,<-ry (xs:=y::r),Lib.join_cons,Lib.join_cons];simp[Lib.joinTail]
def Ch:∀{xs},Lib.join xs []=xs.flatten
 |[]=>rfl
 |x::r=>by rw[Lib.join_cons];simp[Lib.joinTail]
section
variable {P:Program}(T:fA P) (Z:qq P) {h:ah}
include T Z
set_option maxRecDepth 10000 in
def r187(s:By)(hs:s.length<=2^40)(w:Pw h):aA P 187 [.str s] h (λv _=>v=.str (nE s)):=by
 refine .kr 28 T.mix T.c187 ?_;intro ts hlen t0;unfold fn187 gA;refine Rs t0 ?_;refine WL.inv T.mix (λn ts' h'=>∃k:Nat,k<=s.length/\n=s.length-k/\h' =h/\ts'.length=28/\slot ts' 0=.str s/\slot ts' 3=.i (iF (s.take k))/\slot ts' 7=.i s.length/\slot ts' 8=.i k) s.length
  ⟨0,Om,rfl,rfl,(Sq t0),(Sq t0),fV,(Sq t0),fV⟩ ?_
 rintro _ ts' _ ⟨k,hk,rfl,rfl,S0,u0,u3,u7,u8⟩;clear hlen t0;have hlen:=S0;by_cases hlt:k<s.length
 ·have e3:=dM hlt;have hb:=nF (s.take k);have hcn:=UInt8.toNat_lt s[k];have w1:IntKind.i64.wrap (339*iF (s.take k))=339*iF (s.take k):=bz Om Om;have w2:IntKind.i64.wrap (s[k].toNat:Int)=(s[k].toNat:Int):=bz Om Om;have w3:IntKind.i64.wrap (339*iF (s.take k)+(s[k].toNat:Int))=339*iF (s.take k)+(s[k].toNat:Int):=bz Om Om;have er:=oh (k:=.i64) (a:=339*iF (s.take k)+(s[k].toNat:Int)) (b:=9999749) De;rw[<-uW,<-mQ hlt]at er
  repeat (first|simp (config:={maxSteps:=1000000}) only[aO,aQ,aY,aZ,reduceAdd,reduceMul,reduceLeDiff,reduceEqDiff,ba,hlen,Zi,Zk,u0,u3,u7,u8,e3,jN hlt,w1,w2,w3,er,wrapN (show k+1<2^63 by omega)]|simp (config:={maxSteps:=1000000}) (disch:=first|(simp only[YT,YX,Y6]<;>omega)|rfl|omega|fail) only[dP,aO,aQ,aY,aZ,reduceAdd,reduceMul,reduceLeDiff,reduceEqDiff,ba,hlen,Zi,Zk,u0,u3,u7,u8,e3,jN hlt,w1,w2,w3,er,wrapN (show k+1<2^63 by omega)])
  exact JH
 ·have e3:=eC hlt;have ek:k=s.length:=Om
  rw[ek,ZD]at u3;have hb:=nF s;have hl:=tR s;refine Rs (A5 @u0 @u3 @u7 @u8 e3) ?_;refine WF.ce T.c113 (Z.itoa Om Om w) λg=>?_
  rw[gC hb.1];have w1:IntKind.i64.wrap (7-((jH (iF s)).length:Int))=((7-(jH (iF s)).length:Nat):Int):=by rw[bz Om Om];omega
  refine Rs (A2 @u0 @w1) ?_;refine WF.ce T.c252 (Z.rep Om) λg2=>?_
  refine Rs (A2 @u0 (jJ (show(List.replicate (7-(jH (iF s)).length) (48:UInt8)).length+(jH (iF s)).length<2^62 by rw[Z9];omega))) ?_;rfl
def yy{x}(h0:0<=x)(h1:x<2^62)(w:Pw h):bH P (.func (.func 113) [] []) [.i x] h (λv _=>v=.str (jH x)):=by
 rw[<-gC h0];exact bH.of (a:=[]) (c:=[]) T.c113 (Z.itoa Om Om w)
end
structure P6(e:eD):Prop where
 num:0<=e.num/\e.num<2^62
 cB:∀x∈e.cB,0<=x/\x<2^62
 nl:e.names.length<=2^30
 vl:e.cB.length<=2^30
 bl:(iQ e).length<=2^38
section
variable {P:Program}(T:fA P) (Z:qq P) {h:ah}
include T Z
set_option maxRecDepth 10000 in
def r186{x}(ox:bh h x)(en:P6 x.ev)(w:Pw h):aA P 186 [.agg x.row] h (λv _=>v=.str (iQ x.ev)):=by
 refine .kr 19 T.mix T.c186 ?_;intro ts hlen t0;unfold fn186 gA;have Rz:=@bh.box _ _ ox;have hnl:=en.nl;have Sy:=en.vl;refine Rs (A5 t0 @Rz @nq @bC @aN) ?_;refine WF.ce T.c113 (Z.itoa (by have:=en.num;omega) (by have:=en.num;omega) (w.ext Xx)) λg1=>?_
 rw[gC en.num.1];refine Rs (A4 t0 @nq @bC @aN) ?_;have hF:=Fr.push (N:=h.length) (h:=h++[ak.b x.row]++g1) (es:=1) (by simp only[YT];omega) (([jH x.ev.num,x.ev.kind] :List (By)).map aq) (by simp[aq]);refine WR.E8 (h0:=h) (cs:=([jH x.ev.num,x.ev.kind] :List (By)).map aq) (ys:=x.ev.names.map aq) hF (ox.n.ext Xx) De (by simp;omega) Xx ?_;intro s' g hfr hkp hle;rw[<-Y9]at hfr;have Sb:(h++g)[h.length]? =some (.b x.row):=by
  rw[hkp _ (by simp only[YT,Zt];omega) (λe=>by have e2:(h++[ak.b x.row]++g1).length=h.length:=ZZ e;simp only[YT,Zt]at e2;omega)];simp
 have lb:∀{k:ah}{n':Option Nat}{a:Nat},Ext (h++g) k->ao n' (.ptr h.length a) (λz=>k[z]?)=dC n' a (.b x.row):=λe=>az (e.some Sb)
 refine Rs (A3 t0 @lb @bd) ?_;refine WF.res T.c199 (r199 T (ox.v.ext Xx) Om jH (λy hy k ek=>yy T Z (en.cB y hy).1 (en.cB y hy).2 (w.ext (Ext.trans Xx ek)))) ?_;intro v g2 hv;refine Rs t0 ?_;refine WR.E8 (h0:=h) (hfr.app g2) hv.aW De (by simp;omega) Xx ?_;intro s2 g3 Up hkp2 Uo;rw[<-Y9]at Up;refine Rs t0 ?_;have hbl:=en.bl;refine WF.ce T.c114 (Z.join Up.aW ⟨by rw[ry];show(iQ x.ev).length<=_;omega,by simp;omega⟩) λg4=>?_
 refine Rs t0 ?_;rw[ry];rfl
set_option maxRecDepth 10000 in
def r97{x}(ox:bh h x)(en:P6 x.ev)(w:Pw h):aA P 97 [.agg x.row] h (λv _=>v=.str (vu x.ev)):=by
 refine .kr 12 T.mix T.c97 ?_;intro ts hlen t0;unfold fn97 gA;have Rz:=@bh.box _ _ ox;have hbl:=en.bl;refine Rs (A3 t0 @Rz @bR) ?_;refine WF.ce T.c186 (r186 T Z (ox.ext Xx) en (w.ext Xx)) λg=>?_
 refine Rs (A2 t0 (jJ (show(iQ x.ev).length+([35] :By).length<2^62 by simp;omega))) ?_;refine WF.ce T.c187 (r187 T Z _ Om (w.ext Xx)) λg2=>?_
 have h7:=uV (iQ x.ev);refine Rs (A3 t0 (jJ (show(iQ x.ev++[35]).length+(nE (iQ x.ev)).length<2^62 by simp;omega)) (jJ (show(iQ x.ev++[35]++nE (iQ x.ev)).length+([10] :By).length<2^62 by simp;omega))) ?_;rfl
theorem BS{e}:(vu e).length=(iQ e).length+9:=by
 have:=uV (iQ e);unfold vu;simp;omega
end
def Ext.fX{h W b X}(e:Ext h W)(hb:h.length<=b):Ext h (W.set b X):=by
 obtain⟨g,rfl⟩:=e;exact⟨g.set (b-h.length) X,ZY _ _ hb⟩
structure fh(B W0:ah)(b:Nat)(K:Nat->Prop)(W:ah)(U:RV):Prop where
 bk:bY B.length W b U
 ex:Ext B W
 ln:W0.length<=W.length
 kp:∀i,K i->W[i]? =W0[i]?
 kl:∀i,K i->i<W0.length/\i≠b/\some i∉U.bl
section
variable {B W0 W W2:ah}{b:Nat}{K:Nat->Prop}{U:RV}(s:fh B W0 b K W U)
include s
def fh.grow(e:Ext W W2):fh B W0 b K W2 U:=by
 obtain⟨g,rfl⟩:=e;refine⟨s.bk.app g,s.ex.trans ⟨g,rfl⟩,ZR s.ln Si,λi hi=>?_,s.kl⟩;rw[YY (ZW (s.kl i hi).1 s.ln)];exact s.kp i hi
omit s in
theorem PK{L s' i}(h:some i∈{U with lines:=L,s0:=s'}.bl):some i∈U.bl\/sB s' =some i:=by
 exact I9
def fh.p0{L s'}(hff:Fr B.length W2 s' 3 (L.map bG))(hn:∀i,sB s' =some i->sB U.s0=some i\/W.length<=i)(hk:∀i,i<W.length->sB U.s0≠some i->W2[i]? =W[i]?)(hx:Ext B W2)(hl:W.length<=W2.length):
  fh B W0 b K (W2.set b (.b (U.row.set 1 s'))) {U with lines:=L,s0:=s'}:=by
 have hbl:=s.bk.lt;have RT:sB U.s0≠some b:=λz=>s.bk.ne (by rw[<-z];simp[RV.bl])
 have hsb:∀i,sB s' =some i->i≠b:=λi hi z=>by
  exact I5
 obtain⟨X,hX⟩:∃X,X=ak.b (U.row.set 1 s'):=⟨_,rfl⟩;rw[<-hX];have g2:∀i,i≠b->(W2.set b X)[i]? =W2[i]? :=λi hi=>Zf (aai hi)
 have gb:(W2.set b X)[b]? =some X:=Zg Om;refine⟨s.bk.MN (hff.aD λi hi=>g2 i (hsb i hi)) hn (by rw[hX]at gb ⊢;exact gb) (λi hi h1 h2=>(g2 i h2).trans (hk i hi h1)),hx.fX s.bk.hN,by rw[ZI];exact ZR s.ln hl,λi hi=>?_,λi hi=>?_⟩
 ·exact Ja
 ·obtain⟨h1,h2,h3⟩:=s.kl i hi;refine⟨h1,h2,λhm=>?_⟩;rcases PK hm with z|z
  ·exact h3 z
  ·exact MW
def fh.q0{L}(hff:Fr B.length W2 U.s0 3 (L.map bG))(hk:∀i,i<W.length->sB U.s0≠some i->W2[i]? =W[i]?)(hx:Ext B W2)(hl:W.length<=W2.length):fh B W0 b K W2 {U with lines:=L}:=by
 have hbl:=s.bk.lt;have RT:sB U.s0≠some b:=λz=>s.bk.ne (by rw[<-z];simp[RV.bl])
 refine⟨s.bk.MN (s:=U.s0) hff (λi hi=>.inl hi) ((hk b hbl RT).trans s.bk.m) (λi hi h1 _=>hk i hi h1),hx,ZR s.ln hl,λi hi=>?_,s.kl⟩;exact J8
omit s in
theorem PJ{L s' i}(h:some i∈{U with aE:=L,s1:=s'}.bl):some i∈U.bl\/sB s' =some i:=by
 exact I9
def fh.p1{L s'}(hff:Fr B.length W2 s' 2 (L.map cp))(hn:∀i,sB s' =some i->sB U.s1=some i\/W.length<=i)(hk:∀i,i<W.length->sB U.s1≠some i->W2[i]? =W[i]?)(hx:Ext B W2)(hl:W.length<=W2.length):
  fh B W0 b K (W2.set b (.b (U.row.set 2 s'))) {U with aE:=L,s1:=s'}:=by
 have hbl:=s.bk.lt;have RT:sB U.s1≠some b:=λz=>s.bk.ne (by rw[<-z];simp[RV.bl])
 have hsb:∀i,sB s' =some i->i≠b:=λi hi z=>by
  exact I5
 obtain⟨X,hX⟩:∃X,X=ak.b (U.row.set 2 s'):=⟨_,rfl⟩;rw[<-hX];have g2:∀i,i≠b->(W2.set b X)[i]? =W2[i]? :=λi hi=>Zf (aai hi)
 have gb:(W2.set b X)[b]? =some X:=Zg Om;refine⟨s.bk.QL (hff.aD λi hi=>g2 i (hsb i hi)) hn (by rw[hX]at gb ⊢;exact gb) (λi hi h1 h2=>(g2 i h2).trans (hk i hi h1)),hx.fX s.bk.hN,by rw[ZI];exact ZR s.ln hl,λi hi=>?_,λi hi=>?_⟩
 ·exact Ja
 ·obtain⟨h1,h2,h3⟩:=s.kl i hi;refine⟨h1,h2,λhm=>?_⟩;rcases PJ hm with z|z
  ·exact h3 z
  ·exact MW
omit s in
theorem PF{L s' i}(h:some i∈{U with aI:=L,s5:=s'}.bl):some i∈U.bl\/sB s' =some i:=by
 exact I9
def fh.p5{L s'}(hff:Fr B.length W2 s' 4 (L.map cw))(hn:∀i,sB s' =some i->sB U.s5=some i\/W.length<=i)(hk:∀i,i<W.length->sB U.s5≠some i->W2[i]? =W[i]?)(hx:Ext B W2)(hl:W.length<=W2.length):
  fh B W0 b K (W2.set b (.b (U.row.set 6 s'))) {U with aI:=L,s5:=s'}:=by
 have hbl:=s.bk.lt;have RT:sB U.s5≠some b:=λz=>s.bk.ne (by rw[<-z];simp[RV.bl])
 have hsb:∀i,sB s' =some i->i≠b:=λi hi z=>by
  exact I5
 obtain⟨X,hX⟩:∃X,X=ak.b (U.row.set 6 s'):=⟨_,rfl⟩;rw[<-hX];have g2:∀i,i≠b->(W2.set b X)[i]? =W2[i]? :=λi hi=>Zf (aai hi)
 have gb:(W2.set b X)[b]? =some X:=Zg Om;refine⟨s.bk.MM (hff.aD λi hi=>g2 i (hsb i hi)) hn (by rw[hX]at gb ⊢;exact gb) (λi hi h1 h2=>(g2 i h2).trans (hk i hi h1)),hx.fX s.bk.hN,by rw[ZI];exact ZR s.ln hl,λi hi=>?_,λi hi=>?_⟩
 ·exact Ja
 ·obtain⟨h1,h2,h3⟩:=s.kl i hi;refine⟨h1,h2,λhm=>?_⟩;rcases PF hm with z|z
  ·exact h3 z
  ·exact MW
def fh.q5{L}(hff:Fr B.length W2 U.s5 4 (L.map cw))(hk:∀i,i<W.length->sB U.s5≠some i->W2[i]? =W[i]?)(hx:Ext B W2)(hl:W.length<=W2.length):fh B W0 b K W2 {U with aI:=L}:=by
 have hbl:=s.bk.lt;have RT:sB U.s5≠some b:=λz=>s.bk.ne (by rw[<-z];simp[RV.bl])
 refine⟨s.bk.MM (s:=U.s5) hff (λi hi=>.inl hi) ((hk b hbl RT).trans s.bk.m) (λi hi h1 _=>hk i hi h1),hx,ZR s.ln hl,λi hi=>?_,s.kl⟩;exact J8
omit s in
theorem PI{y t s' i}(h:some i∈{U with aj:=U.aj++[(y,t)],s2:=s'}.bl):some i∈U.bl\/sB s' =some i\/sB t=some i:=by
 exact I9
def fh.p2{y t s'}(hff:Fr B.length W2 s' 3 ((U.aj++[(y,t)]).map aU))(ht:Fr B.length W2 t 1 (y.aE.map aq))(hn:∀i,sB s' =some i->sB U.s2=some i\/W.length<=i)(hnt:∀i,sB t=some i->W.length<=i/\sB s'≠some i)(hk:∀i,i<W.length->sB U.s2≠some i->W2[i]? =W[i]?)(hx:Ext B W2)(hl:W.length<=W2.length):
  fh B W0 b K (W2.set b (.b (U.row.set 3 s'))) {U with aj:=U.aj++[(y,t)],s2:=s'}:=by
 have hbl:=s.bk.lt;have RT:sB U.s2≠some b:=λz=>s.bk.ne (by rw[<-z];simp[RV.bl])
 have hsb:∀i,sB s' =some i->i≠b:=λi hi z=>by
  exact I5
 have htb:∀i,sB t=some i->i≠b:=λi hi z=>by
  exact z107
 obtain⟨X,hX⟩:∃X,X=ak.b (U.row.set 3 s'):=⟨_,rfl⟩;rw[<-hX];have g2:∀i,i≠b->(W2.set b X)[i]? =W2[i]? :=λi hi=>Zf (aai hi)
 have gb:(W2.set b X)[b]? =some X:=Zg Om;refine⟨s.bk.QK (hff.aD λi hi=>g2 i (hsb i hi)) (ht.aD λi hi=>g2 i (htb i hi)) hn hnt (by rw[hX]at gb ⊢;exact gb) (λi hi h1 h2=>(g2 i h2).trans (hk i hi h1)),hx.fX s.bk.hN,by rw[ZI];exact ZR s.ln hl,λi hi=>?_,λi hi=>?_⟩
 ·exact Ja
 ·obtain⟨h1,h2,h3⟩:=s.kl i hi;have WZ:=s.ln;refine⟨h1,h2,λhm=>?_⟩;rcases PI hm with z|z|z
  ·exact h3 z
  ·rcases hn i z with z|z
   ·exact GX
   ·omega
  ·have:=(hnt i z).1;omega
omit s in
theorem PH{y t s' i}(h:some i∈{U with aC:=U.aC++[(y,t)],s3:=s'}.bl):some i∈U.bl\/sB s' =some i\/sB t=some i:=by
 exact I9
def fh.p3{y t s'}(hff:Fr B.length W2 s' 4 ((U.aC++[(y,t)]).map aM))(ht:Fr B.length W2 t 1 (y.bo.map aq))(hn:∀i,sB s' =some i->sB U.s3=some i\/W.length<=i)(hnt:∀i,sB t=some i->W.length<=i/\sB s'≠some i)(hk:∀i,i<W.length->sB U.s3≠some i->W2[i]? =W[i]?)(hx:Ext B W2)(hl:W.length<=W2.length):
  fh B W0 b K (W2.set b (.b (U.row.set 4 s'))) {U with aC:=U.aC++[(y,t)],s3:=s'}:=by
 have hbl:=s.bk.lt;have RT:sB U.s3≠some b:=λz=>s.bk.ne (by rw[<-z];simp[RV.bl])
 have hsb:∀i,sB s' =some i->i≠b:=λi hi z=>by
  exact I5
 have htb:∀i,sB t=some i->i≠b:=λi hi z=>by
  exact z107
 obtain⟨X,hX⟩:∃X,X=ak.b (U.row.set 4 s'):=⟨_,rfl⟩;rw[<-hX];have g2:∀i,i≠b->(W2.set b X)[i]? =W2[i]? :=λi hi=>Zf (aai hi)
 have gb:(W2.set b X)[b]? =some X:=Zg Om;refine⟨s.bk.QJ (hff.aD λi hi=>g2 i (hsb i hi)) (ht.aD λi hi=>g2 i (htb i hi)) hn hnt (by rw[hX]at gb ⊢;exact gb) (λi hi h1 h2=>(g2 i h2).trans (hk i hi h1)),hx.fX s.bk.hN,by rw[ZI];exact ZR s.ln hl,λi hi=>?_,λi hi=>?_⟩
 ·exact Ja
 ·obtain⟨h1,h2,h3⟩:=s.kl i hi;have WZ:=s.ln;refine⟨h1,h2,λhm=>?_⟩;rcases PH hm with z|z|z
  ·exact h3 z
  ·rcases hn i z with z|z
   ·exact GX
   ·omega
  ·have:=(hnt i z).1;omega
omit s in
theorem PG{y t s' i}(h:some i∈{U with aF:=U.aF++[(y,t)],s4:=s'}.bl):some i∈U.bl\/sB s' =some i\/sB t=some i:=by
 exact I9
def fh.p4{y t s'}(hff:Fr B.length W2 s' 3 ((U.aF++[(y,t)]).map bB))(ht:Fr B.length W2 t 1 (y.bt.map aL))(hn:∀i,sB s' =some i->sB U.s4=some i\/W.length<=i)(hnt:∀i,sB t=some i->W.length<=i/\sB s'≠some i)(hk:∀i,i<W.length->sB U.s4≠some i->W2[i]? =W[i]?)(hx:Ext B W2)(hl:W.length<=W2.length):
  fh B W0 b K (W2.set b (.b (U.row.set 5 s'))) {U with aF:=U.aF++[(y,t)],s4:=s'}:=by
 have hbl:=s.bk.lt;have RT:sB U.s4≠some b:=λz=>s.bk.ne (by rw[<-z];simp[RV.bl])
 have hsb:∀i,sB s' =some i->i≠b:=λi hi z=>by
  exact I5
 have htb:∀i,sB t=some i->i≠b:=λi hi z=>by
  exact z107
 obtain⟨X,hX⟩:∃X,X=ak.b (U.row.set 5 s'):=⟨_,rfl⟩;rw[<-hX];have g2:∀i,i≠b->(W2.set b X)[i]? =W2[i]? :=λi hi=>Zf (aai hi)
 have gb:(W2.set b X)[b]? =some X:=Zg Om;refine⟨s.bk.QI (hff.aD λi hi=>g2 i (hsb i hi)) (ht.aD λi hi=>g2 i (htb i hi)) hn hnt (by rw[hX]at gb ⊢;exact gb) (λi hi h1 h2=>(g2 i h2).trans (hk i hi h1)),hx.fX s.bk.hN,by rw[ZI];exact ZR s.ln hl,λi hi=>?_,λi hi=>?_⟩
 ·exact Ja
 ·obtain⟨h1,h2,h3⟩:=s.kl i hi;have WZ:=s.ln;refine⟨h1,h2,λhm=>?_⟩;rcases PG hm with z|z|z
  ·exact h3 z
  ·rcases hn i z with z|z
   ·exact GX
   ·omega
  ·have:=(hnt i z).1;omega
def fh.qJ{i}(hi:i<U.aF.length){y}(hy:y.name=U.aF[i].1.name/\y.mod=U.aF[i].1.mod)(hf:Fr B.length W2 U.aF[i].2 1 (y.bt.map aL))(hk:∀j,j<W.length->sB U.aF[i].2≠some j->W2[j]? =W[j]?)(hx:Ext B W2)(hl:W.length<=W2.length):
  fh B W0 b K W2 {U with aF:=U.aF.set i (y,U.aF[i].2) }:=by
 have Tn:sB U.aF[i].2∈U.bl:=by simp only[RV.bl,Y8,ZB];exact .inr ⟨_,Zb hi,rfl⟩
 have hbl:{U with aF:=U.aF.set i (y,U.aF[i].2) }.bl=U.bl:=by
  simp only[RV.bl,aa3];congr 1;have:sB U.aF[i].2=(U.aF.map λx=>sB x.2)[i]'(by simpa using hi):=Si
  exact GL
 refine⟨s.bk.QH hi hy hf hk,hx,ZR s.ln hl,λj hj=>?_,λj hj=>by rw[hbl];exact s.kl j hj⟩;obtain⟨h1,h2,h3⟩:=s.kl j hj;rw[hk j (ZW h1 s.ln) (λz=>h3 (by rw[<-z];exact Tn))];exact s.kp j hj
omit s in
theorem PE{i j y t}(h:some j∈{U with aj:=U.aj.set i (y,t) }.bl):some j∈U.bl\/sB t=some j:=by
 simp only[RV.bl,Y8,ZB]at h ⊢;rcases h with((h|⟨x,hx,h⟩)|h)|h
 ·exact .inl (.inl (.inl (.inl h)))
 ·rcases aaJ hx with hx|hx
  ·exact .inl (.inl (.inl (.inr ⟨x,hx,h⟩)))
  ·rw[hx]at h;exact .inr h
 ·exact .inl (.inl (.inr h))
 ·exact .inl (.inr h)
def fh.qS{i}(hi:i<U.aj.length){y t}(hs:Fr B.length W2 U.s2 3 ((U.aj.set i (y,t)).map aU))(ht:Fr B.length W2 t 1 (y.aE.map aq))(hnt:∀j,sB t=some j->W.length<=j)
  (hk:∀j,j<W.length->sB U.s2≠some j->sB U.aj[i].2≠some j->W2[j]? =W[j]?) (hx:Ext B W2) (hl:W.length<=W2.length):fh B W0 b K W2 {U with aj:=U.aj.set i (y,t) }:=by
 have m1:sB U.s2∈U.bl:=by simp[RV.bl]
 have m2:sB U.aj[i].2∈U.bl:=by simp only[RV.bl,Y8,ZB];exact .inl (.inl (.inr ⟨_,Zb hi,rfl⟩))
 refine⟨s.bk.QG hi hs ht hnt hk,hx,ZR s.ln hl,λj hj=>?_,λj hj=>?_⟩
 ·obtain⟨h1,h2,h3⟩:=s.kl j hj;rw[hk j (ZW h1 s.ln) (λz=>h3 (by rw[<-z];exact m1)) (λz=>h3 (by rw[<-z];exact m2))];exact s.kp j hj
 ·obtain⟨h1,h2,h3⟩:=s.kl j hj;refine⟨h1,h2,λhm=>?_⟩;rcases PE hm with z|z
  ·exact h3 z
  ·have:=hnt j z;have:=s.ln;omega
end
def ow(k:Nat):ai:=((fn224).body.dr k).hd
def qw(k:Nat):ai:=(fn224).body.dr k
def N3:qw 9=.seq (ow 9) .ret:=rfl
def N4:qw 8=.seq (ow 8) (qw 9):=rfl
def N5:qw 7=.seq (ow 7) (qw 8):=rfl
def N6:qw 6=.seq (ow 6) (qw 7):=rfl
def N7:qw 5=.seq (ow 5) (qw 6):=rfl
def N8:qw 4=.seq (ow 4) (qw 5):=rfl
def N9:qw 3=.seq (ow 3) (qw 4):=rfl
def Oa:qw 2=.seq (ow 2) (qw 3):=rfl
def Ob:qw 1=.seq (ow 1) (qw 2):=rfl
def Oc:fn224=⟨100,1,[(2,some (some 7))],.seq (ow 0) (qw 1)⟩:=rfl
def js:List AV:=[.i 0,.af,.af,.af,.af,.af,.af]
def Ru(h:ah)(i:Nat):Prop:=i<h.length\/i=h.length+1
def wT(h:ah)(r:ak)(W:ah)(U:RV):Prop:=fh h (h++[r]++[.b js]) h.length (Ru h) W U
def wT.rb{h W r U}(s:wT h r W U):W[h.length+1]? =some (.b js):=by
 rw[fh.kp s _ (.inr rfl)];simp
def Jk(h:ah)(V:RV):AV->ah->Prop:=λv h'=>Ext h h'/\∃V':RV,V'.an=V.an/\v=.agg V'.row/\cJ h.length h' V'
section
variable {P:Program}(T:fA P) {h W:ah}{ts:TS}{V U:RV}{r:ak}
include T
def Rh(s:wT h r W U)(hr:U.an=V.an)(hlen:ts.length=100)(t1:slot ts 1=.ptr h.length 0)(t2:slot ts 2=.ptr (h.length+1) 0):
  WC P bJ (qw 9) [] ts W (FQ [(2,some (some 7))] (Jk h V)):=by
 have:=T.mix;rw[N3];unfold ow fn224 gA;simp only[ai.j,ai.s,ai.r,ai.dr,ai.tl,ai.hd];have lb:=@dG _ _ _ s.bk.m;have sb:=@aJ 7 (h.length+1) 0 (.agg U.row) (λz=>W[z]?) _ s.rb;have st:=@aB.st _ _ s.bk.o.ok;unfold js at sb;rw[st]at sb;have hl:=(YU.1 s.rb).1;have gm:(W.set (h.length+1) (.b U.row))[h.length+1]? =some (.b U.row):=Zg hl
 repeat (first|simp (config:={maxSteps:=1000000}) only[aO,aQ,aY,aZ,reduceAdd,reduceMul,reduceLeDiff,reduceEqDiff,ba,hlen,Zi,Zk,t1,t2,lb,sb,aG,az gm]|simp (config:={maxSteps:=1000000}) (disch:=first|(simp only[YT,YX,Y6]<;>omega)|rfl|omega|fail) only[dP,aO,aQ,aY,aZ,reduceAdd,reduceMul,reduceLeDiff,reduceEqDiff,ba,hlen,Zi,Zk,t1,t2,lb,sb,aG,az gm])
 refine⟨s.ex.fX Om,U,hr,rfl,s.bk.o.ar λi hi=>?_⟩;have:i≠h.length+1:=λe=>(s.kl _ (.inr rfl)).2.2 (e▸hi)
 rw[Zf (aai this)]
def Od(o:aB h V)(w:ee V.an)(hj:∀x∈V.aF,x.1.bt.length<=2^30)(s:wT h r W U)(hr:U.an={V.an with aF:=V.an.aF.take 0})(hlen:ts.length=100)(t1:slot ts 1=.ptr h.length 0)(t2:slot ts 2=.ptr (h.length+1) 0)(t5:slot ts 5=V.s4):
  WC P bJ (qw 8) [] ts W (FQ [(2,some (some 7))] (Jk h V)):=by
 have hL:V.aF.length<=16:=by have:=w.l4;simpa [RV.an]using this
 have hRl:V.an.aF.length=V.aF.length:=by simp[RV.an]
 rw[N4];unfold ow fn224 gA;simp only[ai.j,ai.s,ai.r,ai.dr,ai.tl,ai.hd];refine Rs (A3 t1 t2 t5) ?_;refine WL.inv T.mix (λm ts h'=>∃(k:Nat) (U:RV),k<=V.aF.length/\m=V.aF.length-k/\wT h r h' U/\U.an={V.an with aF:=V.an.aF.take k}/\ts.length=100/\slot ts 1=.ptr h.length 0/\slot ts 2=.ptr (h.length+1) 0/\slot ts 5=V.s4/\slot ts 10=.i k) V.aF.length
  ⟨0,U,Om,rfl,s,hr,Sn,(Sq t1),(Sq t2),(Sq t5),fV⟩ ?_
 clear t1 t2 t5 hlen s hr;rintro _ ts W ⟨k,U,hk,rfl,s,hr,hlen,t1,t2,t5,t10⟩;have oW:=o.ext s.ex;by_cases hlt:k<V.aF.length
 ·have e3:=dM hlt;have e5:=wrapN (n:=k) Om;have ix:=oW.i4.c8 (kk:=.i64) hlt;obtain⟨y,hy⟩:∃y,y=V.aF[k]:=⟨_,rfl⟩;have Tx:y∈V.aF:=by rw[hy];exact Zb _
  have ld:∀{k':ah},Ext W k'->ao (some 3) (cI V.s4 3 k) (λb=>k'[b]?)=some (.agg (bB y),.ar):=λ{k'} e=>by rw[hy];exact oW.i4.gS hlt e
  have oy:=oW.e4 y Tx;have Ud:=oy.one;unfold bB at ld;obtain⟨n,hn⟩:∃n,n=W.length:=⟨_,rfl⟩;refine Rs (A9 t1 t2 t5 t10 oW.i4.aH e3 ix @ld @Ud) ?_;refine WR.pG (N:=n+1) a8 (by rw[hn];simp) (oy.ext Xx) (by have:=hj y Tx;simp only[Y7];omega) λt g f=>?_
  have p1:=f.aW.one;rw[<-hn];obtain⟨W3,R0⟩:∃W3,W3=W++[ak.b [AV.str y.1.name,AV.str y.1.mod,y.2]]++[.b []]++g:=⟨_,rfl⟩;rw[<-R0]at f ⊢;have XV:Ext W W3:=by rw[R0];exact Xx
  have l3:n+2<=W3.length:=by rw[R0,hn];simp only[YT,YX,Y6];omega
  have m3:W3[n]? =some (.b [AV.str y.1.name,AV.str y.1.mod,y.2]):=by rw[R0,hn];exact(show Ext (W++[ak.b [AV.str y.1.name,AV.str y.1.mod,y.2]]) _ from Xx).some a8
  have Vh:aT 1 (.ptr n 2) t (λz=>W3[z]?)=some (ay,.set n (.b [AV.str y.1.name,AV.str y.1.mod,t])):=(aJ m3).trans (bO p1 (by show 2+1<=3;omega));refine Rs (A6 t1 t2 t5 t10 @Vh @p1) ?_;obtain⟨W4,SB⟩:∃W4,W4=W3.set n (.b [AV.str y.1.name,AV.str y.1.mod,t]):=⟨_,rfl⟩;rw[<-SB];have l4:W4.length=W3.length:=by rw[SB,ZI]
  have k4:∀i,i≠n->W4[i]? =W3[i]? :=λi hi=>by rw[SB,Zf (aai hi)]
  have m4:W4[n]? =some (.b [AV.str y.1.name,AV.str y.1.mod,t]):=by rw[SB,Zg Om]
  have e4:Ext W W4:=by rw[SB];exact XV.fX Om
  have s4:wT h r W4 U:=s.grow e4;have f4:Fr (n+1) W4 t 1 (y.1.bt.map aL):=f.aD λi hi=>k4 i (by have:=(f.bP hi).1;omega)
  have lr:=@dG _ _ _ s4.bk.m;have ln4:=@dG _ _ _ m4;clear XV m3 Vh f SB R0;refine Rs (A8 t1 t2 t5 t10 @lr @ln4 @eO @p1) ?_;have TT:U.aF.length<=16:=by
   have h1:U.an.aF.length=U.aF.length:=by simp[RV.an]
   exact GR
  obtain⟨z,hz⟩:∃z:List AV,z=bB (y.1,t):=⟨_,rfl⟩;have SD:[AV.str y.1.name,AV.str y.1.mod,t]=z:=by rw[hz];rfl
  rw[SD];have TF:aK (W4++[ak.cells z true true]) (AV.slice W4.length 0 1 3) 3 [z]:=by
   exact Ke
  refine WR.ff (h0:=h) (cs:=U.aF.map bB) (ys:=[z]) ((s4.bk.o.i4).app _) TF De Si (by simp only[Y7,YX,Y6];omega) (s4.ex.trans Xx) ?_;intro g' RJ hff hkp;have hrow:U.aF.map bB++[z]=(U.aF++[(y.1,t)]).map bB:=by rw[Y9,hz];rfl
  rw[hrow]at hff;rw[hrow];obtain⟨s',RC⟩:∃s',s' =AV.slice (W4++[ak.cells z true true]).length 0 ((U.aF++[(y.1,t)]).map bB).length 3:=⟨_,rfl⟩;rw[<-RC]at hff;rw[<-RC];have TH:sB s' =some (W4.length+1):=by rw[RC];simp[sB]
  have q1:s'.one=true:=by rw[RC];rfl
  obtain⟨W5,SX⟩:∃W5,W5=h++g':=⟨_,rfl⟩;rw[<-SX]at RJ hff hkp ⊢;have hk1:∀i,i<W4.length->sB U.s4≠some i->W5[i]? =W4[i]? :=λi hi hne=>by
   exact MJ
  have hl5:W4.length<=W5.length:=by rw[RJ];simp only[YT];omega
  have htb:∀i,sB t=some i->W.length<=i/\i<W4.length:=λi hi=>by have:=f4.bP hi;omega
  have bV:∀i,sB t=some i->sB U.s4≠some i:=λi hi e=>by
   exact z85
  have f5:Fr h.length W5 t 1 (y.1.bt.map aL):=(f4.aD λi hi=>hk1 i (htb i hi).2 (bV i hi)).low (by have:=s.bk.lt;omega);have XU:W.length<=W4.length:=e4.len;have s5:wT h r (W5.set h.length (.b (U.row.set 5 s'))) {U with aF:=U.aF++[(y.1,t)],s4:=s'}:=
   s.p4 hff f5 (λi hi=>.inr (by rw[TH]at hi;cases hi;omega)) (λi hi=>⟨(htb i hi).1,λe=>by rw[TH]at e;cases e;have:=(htb _ hi).2;omega⟩) (λi hi hne=>(hk1 i Om hne).trans (e4.get hi)) (by rw[SX];exact⟨_,rfl⟩) Om
  have mB:W5[h.length]? =some (.b U.row):=(hk1 _ s4.bk.lt (λz=>s4.bk.ne (by rw[<-z];simp[RV.bl]))).trans s4.bk.m;have Sc:aT 1 (.ptr h.length 5) s' (λz=>W5[z]?)=some (ay,.set h.length (.b (U.row.set 5 s'))):=(aJ mB).trans (bO q1 (by show 5+1<=7;omega));refine Rs (A7 t1 t2 t5 t10 @Sc q1 e5) ?_;refine⟨_,Om,k+1,_,Om,rfl,s5,?_,rfl⟩;have:V.an.aF.take (k+1)=V.an.aF.take k++[y.1]:=by
   exact MY
  rw[this];have hf:(U.aF++[(y.1,t)]).map Prod.fst=V.an.aF.take k++[y.1]:=by
   have h1:U.an.aF=V.an.aF.take k:=by rw[hr]
   rw[Y9,<-h1];rfl
  have e:({U with aF:=U.aF++[(y.1,t)],s4:=s'}:RV).an={U.an with aF:=(U.aF++[(y.1,t)]).map Prod.fst}:=rfl;rw[e,hf,hr]
 ·have e3:decide ((k:Int)<V.aF.length)=false:=YW Om;have e4:k=V.aF.length:=Om
  rw[e4,<-hRl,ZD]at hr;refine Rs (A6 t1 t2 t5 t10 oW.i4.aH e3) ?_;refine Rh T s hr Sn (Sq t1) (Sq t2)
def Oe(o:aB h V)(w:ee V.an)(hm:∀x∈V.aC,x.1.bo.length<=2^30)(hj:∀x∈V.aF,x.1.bt.length<=2^30)(s:wT h r W U)(hr:U.an={V.an with aC:=V.an.aC.take 0,aF:=[] })(hlen:ts.length=100)(t1:slot ts 1=.ptr h.length 0)(t2:slot ts 2=.ptr (h.length+1) 0)(t4:slot ts 4=V.s3)(t5:slot ts 5=V.s4):
  WC P bJ (qw 7) [] ts W (FQ [(2,some (some 7))] (Jk h V)):=by
 have hL:V.aC.length<=32:=by have:=w.l3;simpa [RV.an]using this
 have hRl:V.an.aC.length=V.aC.length:=by simp[RV.an]
 rw[N5];unfold ow fn224 gA;simp only[ai.j,ai.s,ai.r,ai.dr,ai.tl,ai.hd];refine Rs (A3 t1 t2 t4) ?_;refine WL.inv T.mix (λm ts h'=>∃(k:Nat) (U:RV),k<=V.aC.length/\m=V.aC.length-k/\wT h r h' U/\U.an={V.an with aC:=V.an.aC.take k,aF:=[] }/\ts.length=100/\slot ts 1=.ptr h.length 0/\slot ts 2=.ptr (h.length+1) 0/\slot ts 4=V.s3/\slot ts 5=V.s4/\slot ts 8=.i k) V.aC.length
  ⟨0,U,Om,rfl,s,hr,Sn,(Sq t1),(Sq t2),(Sq t4),(Sq t5),fV⟩ ?_
 clear t1 t2 t4 t5 hlen s hr;rintro _ ts W ⟨k,U,hk,rfl,s,hr,hlen,t1,t2,t4,t5,t8⟩;have oW:=o.ext s.ex;by_cases hlt:k<V.aC.length
 ·have e3:=dM hlt;have e5:=wrapN (n:=k) Om;have ix:=oW.i3.c8 (kk:=.i64) hlt;obtain⟨y,hy⟩:∃y,y=V.aC[k]:=⟨_,rfl⟩;have Tx:y∈V.aC:=by rw[hy];exact Zb _
  have ld:∀{k':ah},Ext W k'->ao (some 4) (cI V.s3 4 k) (λb=>k'[b]?)=some (.agg (aM y),.ar):=λ{k'} e=>by rw[hy];exact oW.i3.gS hlt e
  have oy:=oW.e3 y Tx;have Ud:=oy.one;unfold aM at ld;obtain⟨n,hn⟩:∃n,n=W.length:=⟨_,rfl⟩;refine Rs (o8 t1 t2 t4 t5 t8 oW.i3.aH e3 ix @ld @Ud) ?_;refine WR.pG (N:=n+1) a8 (by rw[hn];simp) (oy.ext Xx) (by have:=hm y Tx;simp only[Y7];omega) λt g f=>?_
  have p1:=f.aW.one;rw[<-hn];obtain⟨W3,R0⟩:∃W3,W3=W++[ak.b [AV.str y.1.name,AV.str y.1.gives,AV.str y.1.line,y.2]]++[.b []]++g:=⟨_,rfl⟩;rw[<-R0]at f ⊢;have XV:Ext W W3:=by rw[R0];exact Xx
  have l3:n+2<=W3.length:=by rw[R0,hn];simp only[YT,YX,Y6];omega
  have m3:W3[n]? =some (.b [AV.str y.1.name,AV.str y.1.gives,AV.str y.1.line,y.2]):=by rw[R0,hn];exact(show Ext (W++[ak.b [AV.str y.1.name,AV.str y.1.gives,AV.str y.1.line,y.2]]) _ from Xx).some a8
  have Vh:aT 1 (.ptr n 3) t (λz=>W3[z]?)=some (ay,.set n (.b [AV.str y.1.name,AV.str y.1.gives,AV.str y.1.line,t])):=(aJ m3).trans (bO p1 (by show 3+1<=4;omega));refine Rs (A7 t1 t2 t4 t5 t8 @Vh @p1) ?_;obtain⟨W4,SB⟩:∃W4,W4=W3.set n (.b [AV.str y.1.name,AV.str y.1.gives,AV.str y.1.line,t]):=⟨_,rfl⟩;rw[<-SB];have l4:W4.length=W3.length:=by rw[SB,ZI]
  have k4:∀i,i≠n->W4[i]? =W3[i]? :=λi hi=>by rw[SB,Zf (aai hi)]
  have m4:W4[n]? =some (.b [AV.str y.1.name,AV.str y.1.gives,AV.str y.1.line,t]):=by rw[SB,Zg Om]
  have e4:Ext W W4:=by rw[SB];exact XV.fX Om
  have s4:wT h r W4 U:=s.grow e4;have f4:Fr (n+1) W4 t 1 (y.1.bo.map aq):=f.aD λi hi=>k4 i (by have:=(f.bP hi).1;omega)
  have lr:=@dG _ _ _ s4.bk.m;have ln4:=@dG _ _ _ m4;clear XV m3 Vh f SB R0;refine Rs (A9 t1 t2 t4 t5 t8 @lr @ln4 @eE @p1) ?_;have TT:U.aC.length<=32:=by
   have h1:U.an.aC.length=U.aC.length:=by simp[RV.an]
   exact GR
  obtain⟨z,hz⟩:∃z:List AV,z=aM (y.1,t):=⟨_,rfl⟩;have SD:[AV.str y.1.name,AV.str y.1.gives,AV.str y.1.line,t]=z:=by rw[hz];rfl
  rw[SD];have TF:aK (W4++[ak.cells z true true]) (AV.slice W4.length 0 1 4) 4 [z]:=by
   have:=(Fr.push (N:=0) (es:=4) (h:=W4) (ZA _) [z] (λx hx=>by rw[Zj]at hx;rw[hx,hz];rfl)).aW
   simpa using this
  refine WR.ff (h0:=h) (cs:=U.aC.map aM) (ys:=[z]) ((s4.bk.o.i3).app _) TF De Si (by simp only[Y7,YX,Y6];omega) (s4.ex.trans Xx) ?_;intro g' RJ hff hkp;have hrow:U.aC.map aM++[z]=(U.aC++[(y.1,t)]).map aM:=by rw[Y9,hz];rfl
  rw[hrow]at hff;rw[hrow];obtain⟨s',RC⟩:∃s',s' =AV.slice (W4++[ak.cells z true true]).length 0 ((U.aC++[(y.1,t)]).map aM).length 4:=⟨_,rfl⟩;rw[<-RC]at hff;rw[<-RC];have TH:sB s' =some (W4.length+1):=by rw[RC];simp[sB]
  have q1:s'.one=true:=by rw[RC];rfl
  obtain⟨W5,SX⟩:∃W5,W5=h++g':=⟨_,rfl⟩;rw[<-SX]at RJ hff hkp ⊢;have hk1:∀i,i<W4.length->sB U.s3≠some i->W5[i]? =W4[i]? :=λi hi hne=>by
   exact MJ
  have hl5:W4.length<=W5.length:=by rw[RJ];simp only[YT];omega
  have htb:∀i,sB t=some i->W.length<=i/\i<W4.length:=λi hi=>by have:=f4.bP hi;omega
  have bV:∀i,sB t=some i->sB U.s3≠some i:=λi hi e=>by
   exact z85
  have f5:Fr h.length W5 t 1 (y.1.bo.map aq):=(f4.aD λi hi=>hk1 i (htb i hi).2 (bV i hi)).low (by have:=s.bk.lt;omega);have XU:W.length<=W4.length:=e4.len;have s5:wT h r (W5.set h.length (.b (U.row.set 4 s'))) {U with aC:=U.aC++[(y.1,t)],s3:=s'}:=
   s.p3 hff f5 (λi hi=>.inr (by rw[TH]at hi;cases hi;omega)) (λi hi=>⟨(htb i hi).1,λe=>by rw[TH]at e;cases e;have:=(htb _ hi).2;omega⟩) (λi hi hne=>(hk1 i Om hne).trans (e4.get hi)) (by rw[SX];exact⟨_,rfl⟩) Om
  have mB:W5[h.length]? =some (.b U.row):=(hk1 _ s4.bk.lt (λz=>s4.bk.ne (by rw[<-z];simp[RV.bl]))).trans s4.bk.m;have Sc:aT 1 (.ptr h.length 4) s' (λz=>W5[z]?)=some (ay,.set h.length (.b (U.row.set 4 s'))):=(aJ mB).trans (bO q1 (by show 4+1<=7;omega));refine Rs (A8 t1 t2 t4 t5 t8 @Sc q1 e5) ?_;refine⟨_,Om,k+1,_,Om,rfl,s5,?_,rfl⟩;have:V.an.aC.take (k+1)=V.an.aC.take k++[y.1]:=by
   exact MY
  rw[this];have hf:(U.aC++[(y.1,t)]).map Prod.fst=V.an.aC.take k++[y.1]:=by
   have h1:U.an.aC=V.an.aC.take k:=by rw[hr]
   rw[Y9,<-h1];rfl
  have e:({U with aC:=U.aC++[(y.1,t)],s3:=s'}:RV).an={U.an with aC:=(U.aC++[(y.1,t)]).map Prod.fst}:=rfl;rw[e,hf,hr]
 ·have e3:decide ((k:Int)<V.aC.length)=false:=YW Om;have e4:k=V.aC.length:=Om
  rw[e4,<-hRl,ZD]at hr;refine Rs (A7 t1 t2 t4 t5 t8 oW.i3.aH e3) ?_;refine Od T o w hj s hr Sn (Sq t1) (Sq t2) (Sq t5)
def Of(o:aB h V)(w:ee V.an)(hs:∀x∈V.aj,x.1.aE.length<=2^30)(hm:∀x∈V.aC,x.1.bo.length<=2^30)(hj:∀x∈V.aF,x.1.bt.length<=2^30)(s:wT h r W U)(hr:U.an={V.an with aj:=V.an.aj.take 0,aC:=[],aF:=[] })(hlen:ts.length=100)(t1:slot ts 1=.ptr h.length 0)(t2:slot ts 2=.ptr (h.length+1) 0)(t3:slot ts 3=V.s2)(t4:slot ts 4=V.s3)(t5:slot ts 5=V.s4):
  WC P bJ (qw 6) [] ts W (FQ [(2,some (some 7))] (Jk h V)):=by
 have hL:V.aj.length<=64:=by have:=w.l2;simpa [RV.an]using this
 have hRl:V.an.aj.length=V.aj.length:=by simp[RV.an]
 rw[N6];unfold ow fn224 gA;simp only[ai.j,ai.s,ai.r,ai.dr,ai.tl,ai.hd];refine Rs (A3 t1 t2 t3) ?_;refine WL.inv T.mix (λm ts h'=>∃(k:Nat) (U:RV),k<=V.aj.length/\m=V.aj.length-k/\wT h r h' U/\U.an={V.an with aj:=V.an.aj.take k,aC:=[],aF:=[] }/\ts.length=100/\slot ts 1=.ptr h.length 0/\slot ts 2=.ptr (h.length+1) 0/\slot ts 3=V.s2/\slot ts 4=V.s3/\slot ts 5=V.s4/\slot ts 6=.i k) V.aj.length
  ⟨0,U,Om,rfl,s,hr,Sn,(Sq t1),(Sq t2),(Sq t3),(Sq t4),(Sq t5),fV⟩ ?_
 clear t1 t2 t3 t4 t5 hlen s hr;rintro _ ts W ⟨k,U,hk,rfl,s,hr,hlen,t1,t2,t3,t4,t5,t6⟩;have oW:=o.ext s.ex;by_cases hlt:k<V.aj.length
 ·have e3:=dM hlt;have e5:=wrapN (n:=k) Om;have ix:=oW.i2.c8 (kk:=.i64) hlt;obtain⟨y,hy⟩:∃y,y=V.aj[k]:=⟨_,rfl⟩;have Tx:y∈V.aj:=by rw[hy];exact Zb _
  have ld:∀{k':ah},Ext W k'->ao (some 3) (cI V.s2 3 k) (λb=>k'[b]?)=some (.agg (aU y),.ar):=λ{k'} e=>by rw[hy];exact oW.i2.gS hlt e
  have oy:=oW.e2 y Tx;have Ud:=oy.one;unfold aU at ld;obtain⟨n,hn⟩:∃n,n=W.length:=⟨_,rfl⟩;refine Rs (mN t1 t2 t3 t4 t5 t6 oW.i2.aH e3 ix @ld @Ud) ?_;refine WR.pG (N:=n+1) a8 (by rw[hn];simp) (oy.ext Xx) (by have:=hs y Tx;simp only[Y7];omega) λt g f=>?_
  have p1:=f.aW.one;rw[<-hn];obtain⟨W3,R0⟩:∃W3,W3=W++[ak.b [AV.str y.1.name,AV.str y.1.line,y.2]]++[.b []]++g:=⟨_,rfl⟩;rw[<-R0]at f ⊢;have XV:Ext W W3:=by rw[R0];exact Xx
  have l3:n+2<=W3.length:=by rw[R0,hn];simp only[YT,YX,Y6];omega
  have m3:W3[n]? =some (.b [AV.str y.1.name,AV.str y.1.line,y.2]):=by rw[R0,hn];exact(show Ext (W++[ak.b [AV.str y.1.name,AV.str y.1.line,y.2]]) _ from Xx).some a8
  have Vh:aT 1 (.ptr n 2) t (λz=>W3[z]?)=some (ay,.set n (.b [AV.str y.1.name,AV.str y.1.line,t])):=(aJ m3).trans (bO p1 (by show 2+1<=3;omega));refine Rs (A8 t1 t2 t3 t4 t5 t6 @Vh @p1) ?_;obtain⟨W4,SB⟩:∃W4,W4=W3.set n (.b [AV.str y.1.name,AV.str y.1.line,t]):=⟨_,rfl⟩;rw[<-SB];have l4:W4.length=W3.length:=by rw[SB,ZI]
  have k4:∀i,i≠n->W4[i]? =W3[i]? :=λi hi=>by rw[SB,Zf (aai hi)]
  have m4:W4[n]? =some (.b [AV.str y.1.name,AV.str y.1.line,t]):=by rw[SB,Zg Om]
  have e4:Ext W W4:=by rw[SB];exact XV.fX Om
  have s4:wT h r W4 U:=s.grow e4;have f4:Fr (n+1) W4 t 1 (y.1.aE.map aq):=f.aD λi hi=>k4 i (by have:=(f.bP hi).1;omega)
  have lr:=@dG _ _ _ s4.bk.m;have ln4:=@dG _ _ _ m4;clear XV m3 Vh f SB R0;refine Rs (o8 t1 t2 t3 t4 t5 t6 @lr @ln4 @eo @p1) ?_;have TT:U.aj.length<=64:=by
   have h1:U.an.aj.length=U.aj.length:=by simp[RV.an]
   exact GR
  obtain⟨z,hz⟩:∃z:List AV,z=aU (y.1,t):=⟨_,rfl⟩;have SD:[AV.str y.1.name,AV.str y.1.line,t]=z:=by rw[hz];rfl
  rw[SD];have TF:aK (W4++[ak.cells z true true]) (AV.slice W4.length 0 1 3) 3 [z]:=by
   exact Ke
  refine WR.ff (h0:=h) (cs:=U.aj.map aU) (ys:=[z]) ((s4.bk.o.i2).app _) TF De Si (by simp only[Y7,YX,Y6];omega) (s4.ex.trans Xx) ?_;intro g' RJ hff hkp;have hrow:U.aj.map aU++[z]=(U.aj++[(y.1,t)]).map aU:=by rw[Y9,hz];rfl
  rw[hrow]at hff;rw[hrow];obtain⟨s',RC⟩:∃s',s' =AV.slice (W4++[ak.cells z true true]).length 0 ((U.aj++[(y.1,t)]).map aU).length 3:=⟨_,rfl⟩;rw[<-RC]at hff;rw[<-RC];have TH:sB s' =some (W4.length+1):=by rw[RC];simp[sB]
  have q1:s'.one=true:=by rw[RC];rfl
  obtain⟨W5,SX⟩:∃W5,W5=h++g':=⟨_,rfl⟩;rw[<-SX]at RJ hff hkp ⊢;have hk1:∀i,i<W4.length->sB U.s2≠some i->W5[i]? =W4[i]? :=λi hi hne=>by
   exact MJ
  have hl5:W4.length<=W5.length:=by rw[RJ];simp only[YT];omega
  have htb:∀i,sB t=some i->W.length<=i/\i<W4.length:=λi hi=>by have:=f4.bP hi;omega
  have bV:∀i,sB t=some i->sB U.s2≠some i:=λi hi e=>by
   exact z85
  have f5:Fr h.length W5 t 1 (y.1.aE.map aq):=(f4.aD λi hi=>hk1 i (htb i hi).2 (bV i hi)).low (by have:=s.bk.lt;omega);have XU:W.length<=W4.length:=e4.len;have s5:wT h r (W5.set h.length (.b (U.row.set 3 s'))) {U with aj:=U.aj++[(y.1,t)],s2:=s'}:=
   s.p2 hff f5 (λi hi=>.inr (by rw[TH]at hi;cases hi;omega)) (λi hi=>⟨(htb i hi).1,λe=>by rw[TH]at e;cases e;have:=(htb _ hi).2;omega⟩) (λi hi hne=>(hk1 i Om hne).trans (e4.get hi)) (by rw[SX];exact⟨_,rfl⟩) Om
  have mB:W5[h.length]? =some (.b U.row):=(hk1 _ s4.bk.lt (λz=>s4.bk.ne (by rw[<-z];simp[RV.bl]))).trans s4.bk.m;have Sc:aT 1 (.ptr h.length 3) s' (λz=>W5[z]?)=some (ay,.set h.length (.b (U.row.set 3 s'))):=(aJ mB).trans (bO q1 (by show 3+1<=7;omega));refine Rs (A9 t1 t2 t3 t4 t5 t6 @Sc q1 e5) ?_;refine⟨_,Om,k+1,_,Om,rfl,s5,?_,rfl⟩;have:V.an.aj.take (k+1)=V.an.aj.take k++[y.1]:=by
   exact MY
  rw[this];have hf:(U.aj++[(y.1,t)]).map Prod.fst=V.an.aj.take k++[y.1]:=by
   have h1:U.an.aj=V.an.aj.take k:=by rw[hr]
   rw[Y9,<-h1];rfl
  have e:({U with aj:=U.aj++[(y.1,t)],s2:=s'}:RV).an={U.an with aj:=(U.aj++[(y.1,t)]).map Prod.fst}:=rfl;rw[e,hf,hr]
 ·have e3:decide ((k:Int)<V.aj.length)=false:=YW Om;have e4:k=V.aj.length:=Om
  rw[e4,<-hRl,ZD]at hr;refine Rs (A8 t1 t2 t3 t4 t5 t6 oW.i2.aH e3) ?_;refine Oe T o w hm hj s hr Sn (Sq t1) (Sq t2) (Sq t4) (Sq t5)
def Og(o:aB h V)(w:ee V.an)(hs:∀x∈V.aj,x.1.aE.length<=2^30)(hm:∀x∈V.aC,x.1.bo.length<=2^30)(hj:∀x∈V.aF,x.1.bt.length<=2^30)
  {W0}(hW0:W0=h++[.b V.row]++[.b js]) (hlen:ts.length=100) (t1:slot ts 1=.ptr h.length 0) (t2:slot ts 2=.ptr (h.length+1) 0):
  WC P bJ (qw 1) [] ts W0 (FQ [(2,some (some 7))] (Jk h V)):=by
 have nb0:V.lines.length<=16:=w.l0;have nb5:V.aI.length<=16:=w.l5;have nb1:V.aE.length<=16:=w.l1;have o0:=o.i0.one;have o1:=o.i1.one;have o2:=o.i2.one;have o3:=o.i3.one;have o4:=o.i4.one;have o5:=o.i5.one;have m0:W0[h.length]? =some (.b [AV.i V.tick,V.s0,V.s1,V.s2,V.s3,V.s4,V.s5]):=by rw[hW0];simp;rfl
 have z0:W0[h.length+1]? =some (.b js):=by rw[hW0];simp
 have e0:Ext h W0:=by rw[hW0];exact Xx
 rw[Ob,Oa,N9,N8,N7];unfold ow fn224 gA;simp only[ai.j,ai.s,ai.r,ai.dr,ai.tl,ai.hd];obtain⟨n0,Wj⟩:∃n,n=W0.length:=⟨_,rfl⟩;have lr0:=@dG _ _ _ m0;refine Rs (A4 t1 t2 @lr0 @o0) ?_;refine WR.pG (N:=n0) (w:=32) a8 (Nat.le_of_eq Wj) ((o.i0.ext e0).ext Xx) (by simp only[Y7];omega) λa0 g0 f0=>?_
 have p0:=f0.aW.one;obtain⟨Y0,hY0⟩:∃Y,Y=W0++[ak.b []]++g0:=⟨_,rfl⟩;rw[<-hY0]at f0 ⊢;have eY0:Ext W0 Y0:=by rw[hY0];exact Xx
 have sb0:aT 1 (.ptr h.length 1) a0 (λz=>Y0[z]?)=some (ay,.set h.length (.b [AV.i V.tick,a0,V.s1,V.s2,V.s3,V.s4,V.s5])):=(aJ (eY0.some m0)).trans (bO p0 (by show 1+1<=7;omega));refine Rs (A4 t1 t2 @sb0 @p0) ?_;obtain⟨W1,TB⟩:∃W,W=Y0.set h.length (.b [AV.i V.tick,a0,V.s1,V.s2,V.s3,V.s4,V.s5]):=⟨_,rfl⟩;rw[<-TB];have l1:W0.length<=W1.length:=by rw[TB,ZI];exact eY0.len
 have k1:∀i,i<W0.length->i≠h.length->W1[i]? =W0[i]? :=λi hi hne=>by rw[TB,Zf (aai hne),eY0.get hi]
 have m1:W1[h.length]? =some (.b [AV.i V.tick,a0,V.s1,V.s2,V.s3,V.s4,V.s5]):=by rw[TB,Zg (by have:=eY0.len;have:=(YU.1 m0).1;omega)]
 have e1:Ext h W1:=by rw[TB];exact(e0.trans eY0).fX (Zc _)
 have z1:W1[h.length+1]? =some (.b js):=(k1 _ (YU.1 z0).1 Om).trans z0;have c0:Fr n0 W1 a0 3 (V.lines.map bG):=f0.aD λi hi=>by
  have:=(f0.bP hi).1;have:=(YU.1 z0).1;rw[TB,Zf Om]
 clear f0 sb0 lr0;obtain⟨n1,hn1⟩:∃n,n=W1.length:=⟨_,rfl⟩;have lr1:=@dG _ _ _ m1;refine Rs (A4 t1 t2 @lr1 @o1) ?_;refine WR.pG (N:=n1) (w:=24) a8 (Nat.le_of_eq hn1) ((o.i1.ext e1).ext Xx) (by simp only[Y7];omega) λa1 g1 f1=>?_
 have p1:=f1.aW.one;obtain⟨Y1,VV⟩:∃Y,Y=W1++[ak.b []]++g1:=⟨_,rfl⟩;rw[<-VV]at f1 ⊢;have eY1:Ext W1 Y1:=by rw[VV];exact Xx
 have sb1:aT 1 (.ptr h.length 2) a1 (λz=>Y1[z]?)=some (ay,.set h.length (.b [AV.i V.tick,a0,a1,V.s2,V.s3,V.s4,V.s5])):=(aJ (eY1.some m1)).trans (bO p1 (by show 2+1<=7;omega));refine Rs (A4 t1 t2 @sb1 @p1) ?_;obtain⟨W2,Se⟩:∃W,W=Y1.set h.length (.b [AV.i V.tick,a0,a1,V.s2,V.s3,V.s4,V.s5]):=⟨_,rfl⟩;rw[<-Se];have l2:W1.length<=W2.length:=by rw[Se,ZI];exact eY1.len
 have k2:∀i,i<W1.length->i≠h.length->W2[i]? =W1[i]? :=λi hi hne=>by rw[Se,Zf (aai hne),eY1.get hi]
 have m2:W2[h.length]? =some (.b [AV.i V.tick,a0,a1,V.s2,V.s3,V.s4,V.s5]):=by rw[Se,Zg (by have:=eY1.len;have:=(YU.1 m1).1;omega)]
 have e2:Ext h W2:=by rw[Se];exact(e1.trans eY1).fX (Zc _)
 have z2:W2[h.length+1]? =some (.b js):=(k2 _ (YU.1 z1).1 Om).trans z1;have c1:Fr n1 W2 a1 2 (V.aE.map cp):=f1.aD λi hi=>by
  have:=(f1.bP hi).1;have:=(YU.1 z1).1;rw[Se,Zf Om]
 clear f1 sb1 lr1;obtain⟨n2,hn2⟩:∃n,n=W2.length:=⟨_,rfl⟩;have lr2:=@dG _ _ _ m2;refine Rs (A4 t1 t2 @lr2 @o5) ?_;refine WR.pG (N:=n2) (w:=48) a8 (Nat.le_of_eq hn2) ((o.i5.ext e2).ext Xx) (by simp only[Y7];omega) λa5 g2 f5=>?_
 have p5:=f5.aW.one;obtain⟨Y2,Uf⟩:∃Y,Y=W2++[ak.b []]++g2:=⟨_,rfl⟩;rw[<-Uf]at f5 ⊢;have UA:Ext W2 Y2:=by rw[Uf];exact Xx
 have sb2:aT 1 (.ptr h.length 6) a5 (λz=>Y2[z]?)=some (ay,.set h.length (.b [AV.i V.tick,a0,a1,V.s2,V.s3,V.s4,a5])):=(aJ (UA.some m2)).trans (bO p5 (by show 6+1<=7;omega));refine Rs (A4 t1 t2 @sb2 @p5) ?_;obtain⟨W3,R0⟩:∃W,W=Y2.set h.length (.b [AV.i V.tick,a0,a1,V.s2,V.s3,V.s4,a5]):=⟨_,rfl⟩;rw[<-R0];have l3:W2.length<=W3.length:=by rw[R0,ZI];exact UA.len
 have k3:∀i,i<W2.length->i≠h.length->W3[i]? =W2[i]? :=λi hi hne=>by rw[R0,Zf (aai hne),UA.get hi]
 have m3:W3[h.length]? =some (.b [AV.i V.tick,a0,a1,V.s2,V.s3,V.s4,a5]):=by rw[R0,Zg (by have:=UA.len;have:=(YU.1 m2).1;omega)]
 have e3:Ext h W3:=by rw[R0];exact(e2.trans UA).fX (Zc _)
 have z3:W3[h.length+1]? =some (.b js):=(k3 _ (YU.1 z2).1 Om).trans z2;have c5:Fr n2 W3 a5 4 (V.aI.map cw):=f5.aD λi hi=>by
  have:=(f5.bP hi).1;have:=(YU.1 z2).1;rw[R0,Zf Om]
 clear f5 sb2 lr2;have lr3:=@dG _ _ _ m3;have UX:=(YU.1 m3).1;have s3:aT 1 (.ptr h.length 3) .af (λz=>W3[z]?)=some (ay,.set h.length (.b [AV.i V.tick,a0,a1,.af,V.s3,V.s4,a5])):=(aJ m3).trans (bO rfl (by show 3+1<=7;omega));have m4:(W3.set h.length (.b [AV.i V.tick,a0,a1,.af,V.s3,V.s4,a5]))[h.length]? =some (.b [AV.i V.tick,a0,a1,.af,V.s3,V.s4,a5]):=Zg UX;have s4:aT 1 (.ptr h.length 4) .af (λz=>(W3.set h.length (.b [AV.i V.tick,a0,a1,.af,V.s3,V.s4,a5]))[z]?)=some (ay,.set h.length (.b [AV.i V.tick,a0,a1,.af,.af,V.s4,a5])):=(aJ m4).trans (bO rfl (by show 4+1<=7;omega));have m5:((W3.set h.length (.b [AV.i V.tick,a0,a1,.af,V.s3,V.s4,a5])).set h.length (.b [AV.i V.tick,a0,a1,.af,.af,V.s4,a5]))[h.length]? =some (.b [AV.i V.tick,a0,a1,.af,.af,V.s4,a5]):=Zg (by rw[ZI];exact UX)
 have s5:aT 1 (.ptr h.length 5) .af (λz=>((W3.set h.length (.b [AV.i V.tick,a0,a1,.af,V.s3,V.s4,a5])).set h.length (.b [AV.i V.tick,a0,a1,.af,.af,V.s4,a5]))[z]?)=some (ay,.set h.length (.b [AV.i V.tick,a0,a1,.af,.af,.af,a5])):=(aJ m5).trans (bO rfl (by show 5+1<=7;omega));obtain⟨W6,TA⟩:∃W,W=W3.set h.length (.b [AV.i V.tick,a0,a1,.af,.af,.af,a5]):=⟨_,rfl⟩;have k6:∀i,i≠h.length->W6[i]? =W3[i]? :=λi hi=>by rw[TA,Zf (aai hi)]
 have m6:W6[h.length]? =some (.b [AV.i V.tick,a0,a1,.af,.af,.af,a5]):=by rw[TA,Zg UX]
 have l0:n0=h.length+2:=by rw[Wj,hW0];simp
 have r0:∀i,sB a0=some i->n0<=i/\i<W1.length:=λi hi=>c0.bP hi
 have r1:∀i,sB a1=some i->n1<=i/\i<W2.length:=λi hi=>c1.bP hi
 have r5:∀i,sB a5=some i->n2<=i/\i<W3.length:=λi hi=>c5.bP hi
 have fa0:Fr h.length W6 a0 3 (V.lines.map bG):=(c0.aD λi hi=>by
  have:=r0 i hi;rw[k6 i Om,k3 i Om Om,k2 i Om Om]).low Om
 have fa1:Fr h.length W6 a1 2 (V.aE.map cp):=(c1.aD λi hi=>by
  have:=r1 i hi;rw[k6 i Om,k3 i Om Om]).low Om
 have fa5:Fr h.length W6 a5 4 (V.aI.map cw):=(c5.aD λi hi=>by
  have:=r5 i hi;rw[k6 i Om]).low Om
 obtain⟨U,hU⟩:∃U:RV,U=⟨V.tick,V.lines,V.aE,[],[],[],V.aI,a0,a1,.af,.af,.af,a5⟩:=⟨_,rfl⟩;have hbl:U.bl=[sB a0,sB a1,none,none,none,sB a5]:=by rw[hU];rfl
 have hlo:∀i,some i∈U.bl->h.length+2<=i:=λi hi=>by
  rw[hbl]at hi;simp only[ZG,Z0,aay,reduceCtorEq,false_or]at hi;rcases hi with hi|hi|hi
  ·have:=r0 i hi.symm;omega
  ·have:=r1 i hi.symm;omega
  ·have:=r5 i hi.symm;omega
 have Sz:k8 U.bl:=by
  rw[hbl];refine Z3.2 ⟨λy hy b hb e=>?_,Z3.2 ⟨λy hy b hb e=>?_,Z3.2 ⟨(λy hy b hb e=>by cases hb),Z3.2 ⟨(λy hy b hb e=>by cases hb),Z3.2 ⟨(λy hy b hb e=>by cases hb),aax _ _⟩⟩⟩⟩⟩
  ·have h1:=r0 b hb;subst e;simp only[ZG,Z0,aay,reduceCtorEq,false_or]at hy;rcases hy with hy|hy
   ·have:=r1 b hy.symm;omega
   ·have:=r5 b hy.symm;omega
  ·have h1:=r1 b hb;subst e;simp only[ZG,Z0,aay,reduceCtorEq,false_or]at hy;have:=r5 b hy.symm;omega
 have own:cJ h.length W6 U:=by
  rw[hU]at Sz ⊢;exact⟨fa0,fa1,.nil,.nil,.nil,fa5,(λx hx=>by cases hx),(λx hx=>by cases hx),(λx hx=>by cases hx),Sz⟩
 have s:wT h (.b V.row) W6 U:=by
  refine⟨⟨own,Zc _,by rw[hU];exact m6,λhi=>by have:=hlo _ hi;omega⟩,by rw[TA];exact e3.fX (Zc _),by rw[<-hW0,TA,ZI];omega,λi hi=>?_,λi hi=>⟨?_,?_,λhm=>?_⟩⟩
  ·have:i≠h.length/\i<W0.length:=by rcases hi with hi|hi<;>omega
   rw[<-hW0,k6 i this.1,k3 i Om this.1,k2 i Om this.1,k1 i Om this.1]
  ·simp only[YT,YX,Y6];rcases hi with hi|hi<;>omega
  ·rcases hi with hi|hi<;>omega
  ·have:=hlo _ hm;rcases hi with hi|hi<;>omega
 clear c0 c1 c5 fa0 fa1 fa5 own Sz;refine Rs (A9 t1 t2 @lr3 @o2 @o3 @o4 @s3 @s4 @s5) ?_;have aQ:((W3.set h.length (.b [AV.i V.tick,a0,a1,.af,V.s3,V.s4,a5])).set h.length (.b [AV.i V.tick,a0,a1,.af,.af,V.s4,a5])).set h.length (.b [AV.i V.tick,a0,a1,.af,.af,.af,a5])=W6:=by rw[TA,List.set_set,List.set_set]
 rw[aQ];exact Of T o w hs hm hj s (by rw[hU];rfl) Sn (Sq t1) (Sq t2) Sw Sw Sw
def r224(o:aB h V)(w:ee V.an):aA P 224 [.agg V.row] h (λv h'=>∃V':RV,V'.an=V.an/\v=.agg V'.row/\cJ h.length h' V'):=by
 have i:=w.xZ;have hs:∀x∈V.aj,x.1.aE.length<=2^30:=λx hx=>by have:=(i.sh x hx).2;omega
 have hm:∀x∈V.aC,x.1.bo.length<=2^30:=λx hx=>by have:=(w.md x.1 (Zu hx)).2.1;omega
 have hj:∀x∈V.aF,x.1.bt.length<=2^30:=λx hx=>by have:=(w.jb x.1 (Zu hx)).2.2.1;omega
 refine .of T.mix (abn T.c224 (Zv some Oc)) ?_;obtain⟨ts,RD⟩:∃ts,ts=aV 100 [.agg V.row]:=⟨_,rfl⟩;have hlen:ts.length=100:=by rw[RD];rfl
 have t0:slot ts 0=.agg V.row:=by rw[RD];rfl
 show WC P bJ (.seq (ow 0) (qw 1)) [] (aV 100 [.agg V.row]) h (FQ [(2,some (some 7))] (Jk h V));rw[<-RD];clear RD;have Rz:=@aB.box _ _ o;unfold ow fn224 gA;simp only[ai.j,ai.s,ai.r,ai.dr,ai.tl,ai.hd];refine Rs (A2 t0 @Rz) ?_;refine Og T o w hs hm hj rfl Sn Sw (by simp only[aO,aQ,aY,aZ,reduceAdd,reduceMul,reduceLeDiff,reduceEqDiff,ba,hlen,Zi,Zk];simp)
end
end Go.Abs
namespace Go.Abs
def Rt(X:ah)(V:RV)(i:Nat):Prop:=(i<X.length/\some i∉V.bl)\/i=X.length+1\/i=X.length+2
def cG(B X:ah)(x:EV)(V:RV)(W:ah)(U:RV):Prop:=
 fh B (X++[.b V.row]++[.b x.row]++[.b js]) X.length (Rt X V) W U
def rY(B X:ah)(V:RV)(c:Int)(R':dJ):AV->ah->Prop:=λv k=>
 Ext B k/\X.length<=k.length/\(∀i,i<X.length->some i∉V.bl->k[i]? =X[i]?)/\∃V':RV,v=.dL [.agg V'.row,.i c]/\cJ B.length k V'/\(c=0->V'.an=R')/\∀i,some i∈V'.bl->some i∈V.bl\/X.length<=i
section
variable {B X W:ah}{x:EV}{V U:RV}(s:cG B X x V W U)
include s
def cG.lr{k n a}(e:Ext W k):ao n (.ptr X.length a) (λz=>k[z]?)=dC n a (.b U.row):=az (e.some s.bk.m)
def cG.LU:W[X.length+1]? =some (.b x.row):=by rw[fh.kp s _ (.inr (.inl rfl))];simp
def cG.LS:W[X.length+2]? =some (.b js):=by rw[fh.kp s _ (.inr (.inr rfl))];simp
def cG.le{k n a}(e:Ext W k):ao n (.ptr (X.length+1) a) (λz=>k[z]?)=dC n a (.b x.row):=az (e.some s.LU)
def cG.sb{k}(e:Ext W k):aT 7 (.ptr (X.length+2) 0) (.agg U.row) (λz=>k[z]?)=some (ay,.set (X.length+2) (.b U.row)):=by
 have h1:=@aJ 7 (X.length+2) 0 (.agg U.row) (λz=>k[z]?) _ (e.some s.LS);have st:=@aB.st _ _ s.bk.o.ok;unfold js at h1;rw[st]at h1;exact h1
def cG.gm{k}(e:Ext W k):ao (some 7) (.ptr (X.length+2) 0) (λz=>(k.set (X.length+2) (.b U.row))[z]?)=some (.agg U.row,.ar):=by
 have hl:=(YU.1 (e.some s.LS)).1;rw[az (Zg hl)];rfl
def cG.fa:=A4 (@cG.lr _ _ _ _ _ _ s) (@cG.le _ _ _ _ _ _ s) (@cG.sb _ _ _ _ _ _ s) (@cG.gm _ _ _ _ _ _ s)
def cG.fin{c R'}(hc:c=0->U.an=R'):rY B X V c R' (.dL [.agg U.row,.i c]) (W.set (X.length+2) (.b U.row)):=by
 have hN:B.length<=X.length:=s.bk.hN;have WZ:X.length+3<=W.length:=by have:=fh.ln s;simpa using this
 refine⟨s.ex.fX Om,by rw[ZI];omega,λi hi hv=>?_,U,rfl,s.bk.o.ar λi hi=>?_,hc,λi hi=>?_⟩
 ·rw[Zf Om,fh.kp s i (.inl ⟨hi,hv⟩)];simp only[YV];exact YY hi
 ·have:i≠X.length+2:=λe=>(fh.kl s _ (.inr (.inr rfl))).2.2 (e▸hi)
  rw[Zf (aai this)]
 ·by_cases h1:some i∈V.bl
  ·exact .inl h1
  ·by_cases h2:i<X.length
   ·exact absurd hi (fh.kl s i (.inl ⟨h2,h1⟩)).2.2
   ·exact .inr Om
end
def wv{h x d}(o:bh h x)(we:kj x.ev d){i:Nat}(hi:i<(bM d).length):bf 1 x.sn (.i (i:Int))=some (cI x.sn 1 i,.ar)/\∀{k},Ext h k->ao none (cI x.sn 1 i) (λb=>k[b]?)=some (.str (aP x.ev i),.ar):=by
 have hi':i<x.ev.names.length:=by rw[we.nl];exact hi
 refine⟨o.n.c8 hi',λ{k} e=>?_⟩;have:aP x.ev i=x.ev.names[i]:=by rw[aP,ZK,YZ hi'];rfl
 rw[this];exact o.n.kS hi' rfl e
def bN{h x d}(o:bh h x)(we:kj x.ev d)(i:Nat)(z:Int)(hz:(i:Int)=z)(hi:i<(bM d).length):bf 1 x.sn (.i z)=some (cI x.sn 1 i,.ar)/\∀{k},Ext h k->ao none (cI x.sn 1 i) (λb=>k[b]?)=some (.str (aP x.ev i),.ar):=hz▸wv o we hi
def L8{h x d}(o:bh h x)(we:kj x.ev d){i:Nat}(hi:i<cE d):bf 1 x.sv (.i (i:Int))=some (cI x.sv 1 i,.ar)/\(∀{k},Ext h k->ao none (cI x.sv 1 i) (λb=>k[b]?)=some (.i (bF x.ev i),.ar))/\0<=bF x.ev i/\bF x.ev i<=999999999:=by
 have hi':i<x.ev.cB.length:=by rw[we.vl];exact hi
 have:bF x.ev i=x.ev.cB[i]:=by rw[bF,ZK,YZ hi'];rfl
 refine⟨o.v.c8 hi',λ{k} e=>?_,we.vr _ (qt hi')⟩;rw[this];exact o.v.kS hi' rfl e
def cR{h x d}(o:bh h x)(we:kj x.ev d)(i:Nat)(z:Int)(hz:(i:Int)=z)(hi:i<cE d):bf 1 x.sv (.i z)=some (cI x.sv 1 i,.ar)/\(∀{k},Ext h k->ao none (cI x.sv 1 i) (λb=>k[b]?)=some (.i (bF x.ev i),.ar))/\0<=bF x.ev i/\bF x.ev i<=999999999:=hz▸L8 o we hi
def WR.pI{P ro ks ts Q B Y s es w cs z d l}
  (hs:Fr B.length Y s es cs) (hz:z.length=es) (he:Ext B Y) (hes:0<es) (eJ:(cs.length+1)*w<=2^46)
  (K:∀(W5:ah) (s':AV),Ext B W5->Fr B.length W5 s' es (cs++[z])->(∀i,sB s' =some i->Y.length<i)->s'.one=true->Y.length<=W5.length->(∀i,i<Y.length->sB s≠some i->W5[i]? =Y[i]?)->WP P ro l ks (put ts d s') W5 Q):
  WR P ro (pH es w s (.slice Y.length 0 1 es) (λb=>(Y++[ak.cells z true true])[b]?) (Y++[ak.cells z true true]).length) false d l ks ts (Y++[ak.cells z true true]) Q:=by
 have TF:aK (Y++[ak.cells z true true]) (AV.slice Y.length 0 1 es) es [z]:=by
  have:=(Fr.push (N:=0) (es:=es) (h:=Y) (ZA _) [z] (λx hx=>by rw[Zj]at hx;rw[hx,hz])).aW
  simpa using this
 refine WR.ff (h0:=B) (cs:=cs) (ys:=[z]) (hs.app _) TF hes Si (by simpa using eJ) (he.trans (Ext.app _ (Ext.refl _))) ?_;intro g' RJ hff hkp;refine K _ _ ⟨_,rfl⟩ hff (λi hi=>by cases hi;simp) rfl (by rw[RJ];simp only[YT,Zt];omega) (λi hi hne=>?_);exact MJ
def zJ:ai:=(fn225).body.tl
def NY:fn225=⟨250,2,[(4,some (some 7)),(5,none)],.seq ((fn225).body.hd) zJ⟩:=rfl
set_option maxRecDepth 10000
attribute [local irreducible] WP WC WE WB WR WF WL WG fR WM
section
variable {P:Program}(T:fA P) {B X W:ah}{ts:TS}{V:RV}{x:EV}
include T
def DT(w:ee V.an)(ox:bh B x)(we:kj x.ev .line)(nk:sI V.an x.ev .line)(s:cG B X x V W V)(hlen:ts.length=250)(t2:slot ts 2=.ptr X.length 0)(t3:slot ts 3=.ptr (X.length+1) 0)(t4:slot ts 4=.ptr (X.length+2) 0):
  WC P bJ zJ [] ts W (FQ [(4,some (some 7)),(5,none)] (rY B X V (bD V.an x.ev .line) (du V.an x.ev .line))):=by
 have ow:=ox.ext s.ex;have oV:=s.bk.o.ok;have RK:x.ev.kind=bA .line:=cA we.kd;obtain⟨lr,le,sb,gm⟩:=cG.fa s;obtain⟨i0,d0⟩:=bN ow we 0 0 rfl De;obtain⟨j0,f0,q0⟩:=cR ow we 0 0 rfl De;obtain⟨j1,f1,q1⟩:=cR ow we 1 1 rfl De;unfold zJ fn225;simp only[ai.tl];refine Rs (Jo t2 t3 t4 @le @lr @bC @aN @bd @eP @aG @RK @gD @j0 @f0 @j1 @f1 @Zp) ?_;refine WF.ce T.c20 (r20 T _ _ _) λg1=>?_
 obtain⟨W2,Se⟩:∃Z,Z=W++g1:=⟨_,rfl⟩;rw[<-Se];have R1:cG B X x V W2 V:=by rw[Se];exact fh.grow s ⟨g1,rfl⟩
 have ow:=ox.ext R1.ex;have oV:=R1.bk.o.ok;obtain⟨lr,le,sb,gm⟩:=cG.fa R1;by_cases h1:bu (bF x.ev 1) 1 64=0
 case neg=>
  have e1:decide (bu (bF x.ev 1) 1 64≠0)=true:=Y5 h1;refine Rs (A8 t2 t3 t4 e1 @lr @aG @sb @gm) ?_;rw[bD,Zh h1];exact z91
 have e1:decide (bu (bF x.ev 1) 1 64≠0)=false:=YW (λz=>z h1);by_cases h2:16<=V.lines.length
 case pos=>
  have e2:decide ((16:Int)<=(V.lines.length:Int))=true:=Y5 Om;refine Rs (mN t2 t3 t4 e1 @eP oV.i0.aH e2 @lr @aG @sb @gm) ?_;rw[bD,Za (λz=>z h1),Zh (show 16<=V.an.lines.length from h2)];exact z91
 have e2:decide ((16:Int)<=(V.lines.length:Int))=false:=YW Om;obtain⟨i0,d0⟩:=bN ow we 0 0 rfl De;obtain⟨j1,f1,q1⟩:=cR ow we 1 1 rfl De;refine Rs (AY t2 t3 t4 e1 @le @lr @eP oV.i0.aH e2 @aN @bd @i0 @d0 @j1 @f1) ?_;have Ta:bD V.an x.ev .line=0:=by rw[bD,Za (λz=>z h1),Za (show ¬16<=V.an.lines.length from h2)]
 obtain⟨y,hy⟩:∃y:gZ,y=⟨aP x.ev 0,bF x.ev 1,false⟩:=⟨_,rfl⟩;obtain⟨z,hz⟩:∃z:List AV,z=bG y:=⟨_,rfl⟩;have SD:[AV.str (aP x.ev 0),.i (bF x.ev 1),.bool false]=z:=by rw[hz,hy];rfl
 rw[SD];refine WR.pI (B:=B) (cs:=V.lines.map bG) (R1.bk.o.i0) (by rw[hz];rfl) R1.ex De (by have:=w.len.l0;rw[Y7];omega) ?_;intro W5 s' x5 hff hn5 q5 l5 hk5;have hrow:V.lines.map bG++[z]=(V.lines++[y]).map bG:=by rw[Y9,hz];rfl
 rw[hrow]at hff;have s5:cG B X x V (W5.set X.length (.b (V.row.set 1 s'))) {V with lines:=V.lines++[y],s0:=s'}:=fh.p0 R1 hff (λi hi=>.inr (abr (hn5 i hi))) hk5 x5 l5;have mB:W5[X.length]? =some (.b V.row):=(hk5 _ R1.bk.lt (λz=>R1.bk.ne (by rw[<-z];simp[RV.bl]))).trans R1.bk.m;have Sc:aT 1 (.ptr X.length 1) s' (λz=>W5[z]?)=some (ay,.set X.length (.b (V.row.set 1 s'))):=(aJ mB).trans (bO q5 (by show 1+1<=7;omega));refine Rs (A5 t2 t3 t4 @Sc q5) ?_;obtain⟨W6,TA⟩:∃Z,Z=W5.set X.length (.b (V.row.set 1 s')):=⟨_,rfl⟩;rw[<-TA]at s5 ⊢;obtain⟨lr,le,sb,gm⟩:=cG.fa s5;refine Rs (A7 t2 t3 t4 @lr @aG @sb @gm) ?_
 rw[Ta];exact cG.fin s5 (λ_=>by rw[hy];rfl)
theorem DR(w:ee V.an)(ox:bh B x)(we:kj x.ev .tape)(nk:sI V.an x.ev .tape)(s:cG B X x V W V)(hlen:ts.length=250)(t2:slot ts 2=.ptr X.length 0)(t3:slot ts 3=.ptr (X.length+1) 0)(t4:slot ts 4=.ptr (X.length+2) 0):
  WC P bJ zJ [] ts W (FQ [(4,some (some 7)),(5,none)] (rY B X V (bD V.an x.ev .tape) (du V.an x.ev .tape))):=by
 have ow:=ox.ext s.ex;have oV:=s.bk.o.ok;have RK:x.ev.kind=bA .tape:=cA we.kd;obtain⟨lr,le,sb,gm⟩:=cG.fa s;obtain⟨i0,d0⟩:=bN ow we 0 0 rfl De;obtain⟨j0,f0,q0⟩:=cR ow we 0 0 rfl De;obtain⟨j1,f1,q1⟩:=cR ow we 1 1 rfl De;unfold zJ fn225;simp only[ai.tl];by_cases h1:999999999<bF x.ev 0+bF x.ev 1
 case pos=>
  have e1:decide ((999999999:Int)<bF x.ev 0+bF x.ev 1)=true:=Y5 h1;have hw:IntKind.i64.wrap (bF x.ev 0+bF x.ev 1)=bF x.ev 0+bF x.ev 1:=bz Om Om;refine pa (MV t2 t3 t4 @le @lr @bC @aN @bd @aG @RK @gD @iA @Zx @j0 @f0 @j1 @f1 @Zp @hw e1 @sb @gm) ?_;rw[bD,Zh h1];exact GM
 have e1:decide ((999999999:Int)<bF x.ev 0+bF x.ev 1)=false:=YW h1;have hw:IntKind.i64.wrap (bF x.ev 0+bF x.ev 1)=bF x.ev 0+bF x.ev 1:=bz Om Om;by_cases h2:16<=V.aE.length
 case pos=>
  have e2:decide ((16:Int)<=(V.aE.length:Int))=true:=Y5 Om
  repeat (first|simp (config:={maxSteps:=1000000}) only[aO,aQ,aY,aZ,reduceAdd,reduceMul,reduceLeDiff,reduceEqDiff,ba,hlen,Zi,Zk,t2,t3,t4,le,lr,bC,aN,bd,aG,gR,RK,gD,iA,reduceCtorEq,Zx,j0,f0,j1,f1,Zp,hw,e1,oV.i1.aH,e2,sb,gm]|simp (config:={maxSteps:=1000000}) (disch:=first|(simp only[YT,YX,Y6]<;>omega)|rfl|omega|fail) only[dP,aO,aQ,aY,aZ,reduceAdd,reduceMul,reduceLeDiff,reduceEqDiff,ba,hlen,Zi,Zk,t2,t3,t4,le,lr,bC,aN,bd,aG,gR,RK,gD,iA,reduceCtorEq,Zx,j0,f0,j1,f1,Zp,hw,e1,oV.i1.aH,e2,sb,gm])
  rw[bD,Za h1,Zh (show 16<=V.an.aE.length from h2)];exact GM
 have e2:decide ((16:Int)<=(V.aE.length:Int))=false:=YW Om
 repeat (first|simp (config:={maxSteps:=1000000}) only[aO,aQ,aY,aZ,reduceAdd,reduceMul,reduceLeDiff,reduceEqDiff,ba,hlen,Zi,Zk,t2,t3,t4,le,lr,bC,aN,bd,aG,gR,RK,gD,iA,reduceCtorEq,Zx,j0,f0,j1,f1,Zp,hw,e1,oV.i1.aH,e2,i0,d0]|simp (config:={maxSteps:=1000000}) (disch:=first|(simp only[YT,YX,Y6]<;>omega)|rfl|omega|fail) only[dP,aO,aQ,aY,aZ,reduceAdd,reduceMul,reduceLeDiff,reduceEqDiff,ba,hlen,Zi,Zk,t2,t3,t4,le,lr,bC,aN,bd,aG,gR,RK,gD,iA,reduceCtorEq,Zx,j0,f0,j1,f1,Zp,hw,e1,oV.i1.aH,e2,i0,d0])
 have Ta:bD V.an x.ev .tape=0:=by rw[bD,Za h1,Za (show ¬16<=V.an.aE.length from h2)]
 obtain⟨y,hy⟩:∃y:rX,y=⟨aP x.ev 0,bF x.ev 0+bF x.ev 1⟩:=⟨_,rfl⟩;obtain⟨z,hz⟩:∃z:List AV,z=cp y:=⟨_,rfl⟩;have SD:[AV.str (aP x.ev 0),.i (bF x.ev 0+bF x.ev 1)]=z:=by rw[hz,hy];rfl
 rw[SD];refine WR.pI (B:=B) (cs:=V.aE.map cp) (s.bk.o.i1) (by rw[hz];rfl) s.ex De (by have:=w.len.l1;rw[Y7];omega) ?_;intro W5 s' x5 hff hn5 q5 l5 hk5;have hrow:V.aE.map cp++[z]=(V.aE++[y]).map cp:=by rw[Y9,hz];rfl
 rw[hrow]at hff;have s5:cG B X x V (W5.set X.length (.b (V.row.set 2 s'))) {V with aE:=V.aE++[y],s1:=s'}:=fh.p1 s hff (λi hi=>.inr (abr (hn5 i hi))) hk5 x5 l5;have mB:W5[X.length]? =some (.b V.row):=(hk5 _ s.bk.lt (λz=>s.bk.ne (by rw[<-z];simp[RV.bl]))).trans s.bk.m;have Sc:aT 1 (.ptr X.length 2) s' (λz=>W5[z]?)=some (ay,.set X.length (.b (V.row.set 2 s'))):=(aJ mB).trans (bO q5 (by show 2+1<=7;omega));refine Rs (A5 t2 t3 t4 @Sc q5) ?_;obtain⟨W6,TA⟩:∃Z,Z=W5.set X.length (.b (V.row.set 2 s')):=⟨_,rfl⟩;rw[<-TA]at s5 ⊢;obtain⟨lr,le,sb,gm⟩:=cG.fa s5;refine Rs (A7 t2 t3 t4 @lr @aG @sb @gm) ?_
 rw[Ta];exact cG.fin s5 (λ_=>by rw[hy];rfl)
def DS(w:ee V.an)(ox:bh B x)(we:kj x.ev .gq)(nk:sI V.an x.ev .gq)(s:cG B X x V W V)(hlen:ts.length=250)(t2:slot ts 2=.ptr X.length 0)(t3:slot ts 3=.ptr (X.length+1) 0)(t4:slot ts 4=.ptr (X.length+2) 0):
  WC P bJ zJ [] ts W (FQ [(4,some (some 7)),(5,none)] (rY B X V (bD V.an x.ev .gq) (du V.an x.ev .gq))):=by
 have ow:=ox.ext s.ex;have oV:=s.bk.o.ok;have RK:x.ev.kind=bA .gq:=cA we.kd;obtain⟨lr,le,sb,gm⟩:=cG.fa s;obtain⟨i0,d0⟩:=bN ow we 0 0 rfl De;obtain⟨i1,d1⟩:=bN ow we 1 1 rfl De;obtain⟨i2,d2⟩:=bN ow we 2 2 rfl De;obtain⟨j0,f0,q0⟩:=cR ow we 0 0 rfl De;unfold zJ fn225;simp only[ai.tl];have k1:aP x.ev 1∈gJ V.an:=nk.kn 1 0 rfl;have k2:aP x.ev 2∈jL V.an:=nk.kn 2 1 rfl;have hlt:bp (gJ V.an) (aP x.ev 1)<V.lines.length:=by have:=cY k1;simpa [gJ,RV.an]using this
 have ei:de (λy:gZ=>decide (y.name=aP x.ev 1)) V.lines=(bp (gJ V.an) (aP x.ev 1):Int):=fo (f:=gZ.name) k1;have sp:dN V.an (aP x.ev 1)=V.lines[bp (gJ V.an) (aP x.ev 1)]:=dq k1;refine pa (P8 t2 t3 t4 @le @lr @bC @aN @bd @aG @eP @RK @gD @iA @rA @Zx @j0 @f0 @i1 @d1 @Zp) ?_;refine WF.ce T.c28 (r28 T (oV.ext Xx) w.len _) λg1=>?_
 rw[ei];obtain⟨W2,Se⟩:∃Z,Z=W++g1:=⟨_,rfl⟩;rw[<-Se];have R1:cG B X x V W2 V:=by rw[Se];exact fh.grow s ⟨g1,rfl⟩
 have ow:=ox.ext R1.ex;have oV:=R1.bk.o.ok;obtain⟨lr,le,sb,gm⟩:=cG.fa R1;obtain⟨i0,d0⟩:=bN ow we 0 0 rfl De;obtain⟨i1,d1⟩:=bN ow we 1 1 rfl De;obtain⟨i2,d2⟩:=bN ow we 2 2 rfl De;obtain⟨j0,f0,q0⟩:=cR ow we 0 0 rfl De;have ix:bf 3 V.s0 (.i (bp (gJ V.an) (aP x.ev 1):Int))=some (cI V.s0 3 (bp (gJ V.an) (aP x.ev 1)),.ar):=oV.i0.c8 hlt;have l2:∀{k:ah},Ext W2 k->ao none (lH V.s0 3 (bp (gJ V.an) (aP x.ev 1)) 2) (λb=>k[b]?)=some (.bool (dN V.an (aP x.ev 1)).acc,.ar):=λ{k} e=>by rw[sp];exact oV.i0.p6 hlt rfl e
 cases h1:(dN V.an (aP x.ev 1)).acc with
 |true=>
  rw[h1]at l2;refine Rs (A9 t2 t3 t4 ix @l2 @lr @aG @sb @gm) ?_;rw[bD,Zh h1];exact z91
 |false=>
 rw[h1]at l2;refine Rs (mN t2 t3 t4 ix @l2 @le @lr @aG @aN @i2 @d2) ?_;refine WF.ce T.c84 (r84 T (oV.ext Xx) w.len k2 _) λg2=>?_
 obtain⟨W3,R0⟩:∃Z,Z=W2++g2:=⟨_,rfl⟩;rw[<-R0];have R8:cG B X x V W3 V:=by rw[R0];exact fh.grow R1 ⟨g2,rfl⟩
 have ow:=ox.ext R8.ex;have oV:=R8.bk.o.ok;obtain⟨lr,le,sb,gm⟩:=cG.fa R8;obtain⟨i0,d0⟩:=bN ow we 0 0 rfl De;obtain⟨i1,d1⟩:=bN ow we 1 1 rfl De;obtain⟨i2,d2⟩:=bN ow we 2 2 rfl De;obtain⟨j0,f0,q0⟩:=cR ow we 0 0 rfl De;cases h2:jB V.an (bF x.ev 0) (aP x.ev 2)with
 |false=>
  refine Rs (A8 t2 t3 t4 @Zz @lr @aG @sb @gm) ?_;rw[bD,Za (by rw[h1];decide),Zh (by rw[h2];rfl)];exact Dj
 |true=>
 by_cases h3:64<=V.aj.length
 case pos=>
  have e3:decide ((64:Int)<=(V.aj.length:Int))=true:=Y5 Om;refine Rs (mN t2 t3 t4 @Zw @eo oV.i2.aH e3 @lr @aG @sb @gm) ?_;rw[bD,Za (by rw[h1];decide),Za (by rw[h2];decide),Zh (show 64<=V.an.aj.length by simpa [RV.an]using h3)];exact Dj
 have e3:decide ((64:Int)<=(V.aj.length:Int))=false:=YW Om;have Ta:bD V.an x.ev .gq=0:=by rw[bD,Za (by rw[h1];decide),Za (by rw[h2];decide),Za (show ¬64<=V.an.aj.length by simpa [RV.an]using h3)]
 obtain⟨t,ht⟩:∃t,t=AV.slice W3.length 0 1 1:=⟨_,rfl⟩;have ot:t.one=true:=by rw[ht];rfl
 refine Rs (GH t2 t3 t4 @Zw @le @lr @eo oV.i2.aH e3 @aN @i0 @d0 @i1 @d1 @i2 @d2) ?_;rw[<-ht];refine Rs (A4 t2 t3 t4 @ot) ?_;obtain⟨y,hy⟩:∃y:jR,y=⟨aP x.ev 0,aP x.ev 1,[aP x.ev 2]⟩:=⟨_,rfl⟩;obtain⟨z,hz⟩:∃z:List AV,z=aU (y,t):=⟨_,rfl⟩;have SD:[AV.str (aP x.ev 0),.str (aP x.ev 1),t]=z:=by rw[hz,hy];rfl
 rw[SD];obtain⟨Y,hY⟩:∃Z,Z=W3++[ak.cells [.str (aP x.ev 2)] true true]:=⟨_,rfl⟩;rw[<-hY];have SJ:Fr W3.length Y t 1 (y.aE.map aq):=by
  rw[ht,hy,hY];exact(Fr.push (h:=W3) (N:=W3.length) (Zc _) [aq (aP x.ev 2)] (by simp[aq]))
 have sY:cG B X x V Y V:=by rw[hY];exact fh.grow R8 ⟨_,rfl⟩
 have lY:W3.length<Y.length:=by rw[hY];simp
 have eY:Ext W3 Y:=by rw[hY];exact⟨_,rfl⟩
 refine WR.pI (B:=B) (cs:=V.aj.map aU) (sY.bk.o.i2) (by rw[hz];rfl) sY.ex De (by have:=w.len.l2;rw[Y7];omega) ?_;intro W5 s' x5 hff hn5 q5 l5 hk5;have hrow:V.aj.map aU++[z]=(V.aj++[(y,t)]).map aU:=by rw[Y9,hz];rfl
 rw[hrow]at hff;have bV:∀i,sB t=some i->sB V.s2≠some i:=λi hi e=>by
  have h1:=(SJ.bP hi).1;have h2:=(R8.bk.o.dR (b:=i) (by rw[<-e];simp[RV.bl])).2;omega
 have f5:Fr B.length W5 t 1 (y.aE.map aq):=(SJ.aD λi hi=>hk5 i (SJ.bP hi).2 (bV i hi)).low R8.ex.len;have s5:cG B X x V (W5.set X.length (.b (V.row.set 3 s'))) {V with aj:=V.aj++[(y,t)],s2:=s'}:=fh.p2 R8 hff f5 (λi hi=>.inr (by have:=hn5 i hi;omega)) (λi hi=>⟨(SJ.bP hi).1,λe=>by have:=hn5 i e;have:=(SJ.bP hi).2;omega⟩) (λi hi hne=>(hk5 i Om hne).trans (eY.get hi)) x5 Om;have mB:W5[X.length]? =some (.b V.row):=(hk5 _ sY.bk.lt (λz=>sY.bk.ne (by rw[<-z];simp[RV.bl]))).trans sY.bk.m;have Sc:aT 1 (.ptr X.length 3) s' (λz=>W5[z]?)=some (ay,.set X.length (.b (V.row.set 3 s'))):=(aJ mB).trans (bO q5 (by show 3+1<=7;omega))
 refine Rs (A5 t2 t3 t4 @Sc q5) ?_;obtain⟨W6,TA⟩:∃Z,Z=W5.set X.length (.b (V.row.set 3 s')):=⟨_,rfl⟩;rw[<-TA]at s5 ⊢;obtain⟨lr,le,sb,gm⟩:=cG.fa s5;refine Rs (A7 t2 t3 t4 @lr @aG @sb @gm) ?_;rw[Ta];exact cG.fin s5 (λ_=>by simp only[RV.an,Y9,du,ZX,aaC,hy])
end
def gx:List AV:=[.int .i64 0,.str [],.af,.af,.str []]
def Cu(kd:By)(sn sv:AV):ak:=.cells [.int .i64 0,.str kd,sn,sv,.str []] true false
structure uP(A:ah)(kd:By)(b8:Nat)(kb:ak)(sw:AV)(wr:Bool)(ws:List (By))(sn sv:AV)(ns:List (By))(vs:List Int)(B:ah):Prop where
 m7:(A++[gK sw wr]++B)[A.length+1]? =some (Cu kd sn sv)
 m8:(A++[gK sw wr]++B)[b8]? =some kb
 l8:A.length+1<b8
 s:aK A sw 1 (ws.map aq)
 wl:∀x∈ws,x.length<=2^40
 n:Fr (A.length+1) (A++[gK sw wr]++B) sn 1 (ns.map aq)
 v:Fr (A.length+1) (A++[gK sw wr]++B) sv 1 (vs.map aL)
 dn:∀i,sB sn=some i->A.length+1<i/\i≠b8
 dv:∀i,sB sv=some i->A.length+1<i/\i≠b8
 dd:∀i,sB sn=some i->sB sv≠some i
section
variable {A B:ah}{kd:By}{b8:Nat}{kb:ak}{sw:AV}{wr:Bool}{ws:List (By)}{sn sv:AV}{ns:List (By)}{vs:List Int}
def vO{x}:(A++[x]).length=A.length+1:=Si
def uP.tk(o:uP A kd b8 kb sw wr ws sn sv ns vs B){sw' wr' ws'}(hs:aK A sw' 1 (ws'.map aq))(hw:∀x∈ws',x.length<=2^40):uP A kd b8 kb sw' wr' ws' sn sv ns vs B:=
 ⟨by rw[qB (K':=gK sw wr) Om];exact o.m7,by rw[qB (K':=gK sw wr) (by have:=o.l8;omega)];exact o.m8,o.l8,hs,hw,o.n.swap' vO vO,o.v.swap' vO vO,o.dn,o.dv,o.dd⟩
theorem uP.app(o:uP A kd b8 kb sw wr ws sn sv ns vs B)(g:ah):uP A kd b8 kb sw wr ws sn sv ns vs (B++g):=by
 have e:A++[gK sw wr]++(B++g)=A++[gK sw wr]++B++g:=(YV _ _ _).symm;exact⟨by rw[e];exact(Ext.app g (Ext.refl _)).some o.m7,by rw[e];exact(Ext.app g (Ext.refl _)).some o.m8,o.l8,o.s,o.wl,by rw[e];exact o.n.app g,by rw[e];exact o.v.app g,o.dn,o.dv,o.dd⟩
def nP{K X g}:(A++[K]++g).set (A.length+1) X=A++[K]++g.set 0 X:=by
 rw[ZY _ _ Si];simp
def uP.N2(o:uP A kd b8 kb sw wr ws sn sv ns vs B){Wc ns' g}(hF:Fr (A.length+1) (A++[gK sw wr]++g) Wc 1 (ns'.map aq))(hlo:∀i,sB Wc=some i->(A++[gK sw wr]++B).length<i)
  (hle:(A++[gK sw wr]++B).length<=(A++[gK sw wr]++g).length) (hk:∀i,i<(A++[gK sw wr]++B).length->sB sn≠some i->(A++[gK sw wr]++g)[i]? =(A++[gK sw wr]++B)[i]?):
  uP A kd b8 kb sw wr ws Wc sv ns' vs (g.set 0 (Cu kd Wc sv)):=by
 have l7:=(YU.1 o.m7).1;have l8:=(YU.1 o.m8).1;have h8:=o.l8;have ne:∀i,i≠A.length+1->((A++[gK sw wr]++g).set (A.length+1) (Cu kd Wc sv))[i]? =(A++[gK sw wr]++g)[i]? :=λi hi=>Zf (λe=>hi e.symm)
 refine⟨?_,?_,h8,o.s,o.wl,?_,?_,λi hi=>?_,o.dv,λi hi e=>?_⟩
 ·rw[<-nP,Zg Om]
 ·rw[<-nP,ne _ Om,hk _ l8 (λe=>(o.dn _ e).2 rfl)];exact o.m8
 ·exact JL
 ·rw[<-nP];exact o.v.aD λj hj=>by rw[ne j (by have:=(o.dv j hj).1;omega),hk j (o.v.bP hj).2 (λe=>o.dd j e hj)]
 ·have:=hlo i hi;exact⟨Om,Om⟩
 ·have h1:=hlo i hi;have h2:=(o.v.bP e).2;omega
def uP.N1(o:uP A kd b8 kb sw wr ws sn sv ns vs B){Wa vs' g}(hF:Fr (A.length+1) (A++[gK sw wr]++g) Wa 1 (vs'.map aL))(hlo:∀i,sB Wa=some i->(A++[gK sw wr]++B).length<i)
  (hle:(A++[gK sw wr]++B).length<=(A++[gK sw wr]++g).length) (hk:∀i,i<(A++[gK sw wr]++B).length->sB sv≠some i->(A++[gK sw wr]++g)[i]? =(A++[gK sw wr]++B)[i]?):
  uP A kd b8 kb sw wr ws sn Wa ns vs' (g.set 0 (Cu kd sn Wa)):=by
 have l7:=(YU.1 o.m7).1;have l8:=(YU.1 o.m8).1;have h8:=o.l8;have ne:∀i,i≠A.length+1->((A++[gK sw wr]++g).set (A.length+1) (Cu kd sn Wa))[i]? =(A++[gK sw wr]++g)[i]? :=λi hi=>Zf (λe=>hi e.symm)
 refine⟨?_,?_,h8,o.s,o.wl,?_,?_,o.dn,λi hi=>?_,λi hi e=>?_⟩
 ·rw[<-nP,Zg Om]
 ·rw[<-nP,ne _ Om,hk _ l8 (λe=>(o.dv _ e).2 rfl)];exact o.m8
 ·rw[<-nP];exact o.n.aD λj hj=>by rw[ne j (by have:=(o.dn j hj).1;omega),hk j (o.n.bP hj).2 (λe=>o.dd j hj e)]
 ·exact JL
 ·have:=hlo i hi;exact⟨Om,Om⟩
 ·have h1:=hlo i e;have h2:=(o.n.bP hi).2;omega
end
def qK{ws wr}:∀x∈(bT ws wr).2.1,x∈ws:=by
 intro x hx;cases ws with
 |nil=>simp[bT]at hx
 |cons w r=>
  by_cases hw:w=[]
  ·rw[bT,Zh hw]at hx;simp at hx
  ·rw[bT,Za hw]at hx;exact ZH _ hx
def MF(h:ah)(ws:List (By))(v:AV)(k:ah):Prop:=Ext h k/\∃x:EV,x.ev=(eQ ws).1/\v=.dL [.agg x.row,.bool (eQ ws).2]/\Fr h.length k x.sn 1 (x.ev.names.map aq)/\Fr h.length k x.sv 1 (x.ev.cB.map aL)
def vq{h k}(e:Ext (h++[ak.cells [.int .i64 0,.str [],.af,.af,.str []] true false]) k):k[h.length]? =some (.cells [.int .i64 0,.str [],.af,.af,.str []] true false):=e.some (by rw[Zd (Zc _)];simp)
def KJ{h k}(e:Ext (h++[ak.cells [.int .i64 0,.str [],.af,.af,.str []] true false]) k):aT 5 (.ptr h.length 0) (.agg [.int .i64 0,.str [],.af,.af,.str []]) (λz=>k[z]?)=some (ay,.set h.length (.cells [.int .i64 0,.str [],.af,.af,.str []] true false)):=by rw[aJ (vq e)];rfl
def KL{h k}(e:Ext (h++[ak.cells [.int .i64 0,.str [],.af,.af,.str []] true false]) k):ao (some 5) (.ptr h.length 0) (λz=>k[z]?)=some (.agg [.int .i64 0,.str [],.af,.af,.str []],.ar):=by rw[az (vq e)];rfl
def KK{h k}(e:Ext (h++[ak.cells [.int .i64 0,.str [],.af,.af,.str []] true false]) k):k.set h.length (.cells [.int .i64 0,.str [],.af,.af,.str []] true false)=k:=by
 have:=vq e;exact Kb
def KI{h k x}(ox:bh k x)(e:Ext (h++[ak.cells [.int .i64 0,.str [],.af,.af,.str []] true false]) k):aT 5 (.ptr h.length 0) (.agg x.row) (λz=>k[z]?)=some (ay,.set h.length (.cells x.row true false)):=by rw[aJ (vq e)];exact ox.st
def KH{h k:ah}{x:EV}(e:Ext (h++[ak.cells [.int .i64 0,.str [],.af,.af,.str []] true false]) k):ao (some 5) (.ptr h.length 0) (λz=>(k.set h.length (.cells x.row true false))[z]?)=some (.agg x.row,.ar):=by
 rw[az (Zg (YU.1 (vq e)).1)];rfl
theorem sM:∀{n}{ws}{wr},(da n ws wr).1.length=n
 | 0,_,_=>rfl
 |n+1,ws,wr=>by rw[da,YX,sM]
theorem vD:∀{n}{ws}{wr},(fE n ws wr).1.length=n
 | 0,_,_=>rfl
 |n+1,ws,wr=>by rw[fE,YX,vD]
def vv(ws:List (By)):(eQ ws).1.names.length<=3/\(eQ ws).1.cB.length<=3:=by
 unfold eQ;cases gO (bT ws false).1 with
 |none=>exact⟨ZA _,ZA _⟩
 |some d=>
  have h3:(bM d).length<=3/\cE d<=3:=by cases d<;>decide
  exact⟨by show(da _ _ _).1.length<=3;rw[sM];exact h3.1,by show(fE _ _ _).1.length<=3;rw[vD];exact h3.2⟩
def wR(k:Nat):ai:=(fn111).body.dr k
def BT(k:Nat):ai:=(wR k).hd
def NX:fn111=⟨73,1,[(2,some (some 5)),(3,none)],.seq (BT 0) (.seq (BT 1) (.seq (BT 2) (.seq (BT 3) (.seq (BT 4) (.seq (BT 5) (wR 6))))))⟩:=rfl
def NW:wR 6=.seq (BT 6) (wR 7):=rfl
def NV:wR 7=.seq (BT 7) (wR 8):=rfl
attribute [local irreducible] WQ
section
variable {P:Program}(T:fA P) {h A B:ah}{kd:By}{b8:Nat}{kb:ak}{sw:AV}{wr:Bool}{ws X2:List (By)}{sn sv:AV}{ns:List (By)}{vs:List Int}{ts:TS}
include T
theorem Hk(hA:A=h++[.cells gx true false])(o:uP A kd b8 kb sw wr ws sn sv ns vs B)(hlen:ts.length=73)(t2:slot ts 2=.ptr h.length 0)(t4:slot ts 4=.ptr A.length 0)(t7:slot ts 7=.ptr (A.length+1) 0)
  (hw:eQ X2=(⟨0,kd,ns,vs,[]⟩,!wr&&decide (ws.length=0))):WC P bJ (wR 8) [] ts (A++[gK sw wr]++B) (FQ [(2,some (some 5)),(3,none)] (MF h X2)):=by
 have hAl:A.length=h.length+1:=by rw[hA];simp
 obtain⟨Y,hY⟩:∃Y,Y=A++[gK sw wr]++B:=⟨_,rfl⟩;have Uf:Y=h++([ak.cells gx true false]++[gK sw wr]++B):=by rw[hY,hA];simp
 have m2:Y[h.length]? =some (.cells gx true false):=by rw[Uf,Zd (Zc _)];simp
 have m4:Y[A.length]? =some (.cells [sw,.bool wr] true false):=by rw[hY];exact ID
 have m7:Y[A.length+1]? =some (.cells [.int .i64 0,.str kd,sn,sv,.str []] true false):=by rw[hY];exact o.m7
 have ln:=o.n;have lv:=o.v;rw[<-hY]at ln lv ⊢;have x:∃x:EV,x=⟨⟨0,kd,ns,vs,[]⟩,sn,sv⟩:=⟨_,rfl⟩;obtain⟨x,hx⟩:=x;have hrow:x.row=[.int .i64 0,.str kd,sn,sv,.str []]:=by rw[hx];rfl
 have ox:Fr h.length (Y.set h.length (.cells x.row true false)) x.sn 1 (x.ev.names.map aq)/\Fr h.length (Y.set h.length (.cells x.row true false)) x.sv 1 (x.ev.cB.map aL):=by
  rw[hx];exact⟨(ln.aD λj hj=>Zf (by have:=(o.dn j hj).1;omega)).low Om,(lv.aD λj hj=>Zf (by have:=(o.dv j hj).1;omega)).low Om⟩
 have oy:bh Y x:=by rw[hx];exact⟨ln.aW,lv.aW⟩
 have l4:∀{n:Option Nat}{a:Nat},ao n (.ptr A.length a) (λz=>Y[z]?)=dC n a (.cells [sw,.bool wr] true false):=az m4;have l7:ao (some 5) (.ptr (A.length+1) 0) (λz=>Y[z]?)=some (.agg x.row,.ar):=by rw[az m7,hrow];rfl
 have s2:aT 5 (.ptr h.length 0) (.agg x.row) (λz=>Y[z]?)=some (ay,.set h.length (.cells x.row true false)):=by rw[aJ m2];exact oy.st
 have l2:ao (some 5) (.ptr h.length 0) (λz=>(Y.set h.length (.cells x.row true false))[z]?)=some (.agg x.row,.ar):=by rw[az (Zg (YU.1 m2).1)];rfl
 have hlw:=(o.s.aH (row:=aq));have fin:∀b,b=(!wr&&decide (ws.length=0))->MF h X2 (.dL [.agg x.row,.bool b]) (Y.set h.length (.cells x.row true false)):=λb hb=>by
  refine⟨⟨([ak.cells gx true false]++[gK sw wr]++B).set 0 (.cells x.row true false),by rw[Uf,ZY _ _ (Zc _),Z6]⟩,x,by rw[hw,hx],by rw[hw,hb],ox⟩
 unfold wR fn111;simp only[ai.j,ai.s,ai.r,ai.dr,ai.tl,ai.hd];cases wr with
 |true=>
  repeat (first|simp (config:={maxSteps:=1000000}) only[aO,aQ,aY,aZ,reduceAdd,reduceMul,reduceLeDiff,reduceEqDiff,ba,hlen,Zi,Zk,t2,t4,t7,l4,l7,s2,Zw,Zz,qI,oO,oQ,oP,qG,oI,uB,zk,uC,qH,mw,zl,uD,uE,qE,oM,uz,uy]|simp (config:={maxSteps:=1000000}) (disch:=first|(simp only[YT,YX,Y6]<;>omega)|rfl|omega|fail) only[dP,aO,aQ,aY,aZ,reduceAdd,reduceMul,reduceLeDiff,reduceEqDiff,ba,hlen,Zi,Zk,t2,t4,t7,l4,l7,s2,Zw,Zz,qI,oO,oQ,oP,qG,oI,uB,zk,uC,qH,mw,zl,uD,uE,qE,oM,uz,uy])
  rw[C5];refine⟨?_,?_⟩
  ·exact z87
  ·repeat (first|simp (config:={maxSteps:=1000000}) only[aO,aQ,aY,aZ,reduceAdd,reduceMul,reduceLeDiff,reduceEqDiff,ba,hlen,Zi,Zk,t2,l2,oD,oE,oG,aaA,aaa]|simp (config:={maxSteps:=1000000}) (disch:=first|(simp only[YT,YX,Y6]<;>omega)|rfl|omega|fail) only[dP,aO,aQ,aY,aZ,reduceAdd,reduceMul,reduceLeDiff,reduceEqDiff,ba,hlen,Zi,Zk,t2,l2,oD,oE,oG,aaA,aaa])
   exact fin _ rfl
 |false=>
  repeat (first|simp (config:={maxSteps:=1000000}) only[aO,aQ,aY,aZ,reduceAdd,reduceMul,reduceLeDiff,reduceEqDiff,ba,hlen,Zi,Zk,t2,t4,t7,l4,l7,s2,hlw,Zw,Zz,qI,oO,oQ,oP,qG,oI,uB,zk,uC,qH,mw,zl,uD,uE,qE,oM,uz,uy]|simp (config:={maxSteps:=1000000}) (disch:=first|(simp only[YT,YX,Y6]<;>omega)|rfl|omega|fail) only[dP,aO,aQ,aY,aZ,reduceAdd,reduceMul,reduceLeDiff,reduceEqDiff,ba,hlen,Zi,Zk,t2,t4,t7,l4,l7,s2,hlw,Zw,Zz,qI,oO,oQ,oP,qG,oI,uB,zk,uC,qH,mw,zl,uD,uE,qE,oM,uz,uy])
  rw[C5];refine⟨?_,?_⟩
  ·exact z87
  ·repeat (first|simp (config:={maxSteps:=1000000}) only[aO,aQ,aY,aZ,reduceAdd,reduceMul,reduceLeDiff,reduceEqDiff,ba,hlen,Zi,Zk,t2,l2,oD,oE,oG,aaA,aaa]|simp (config:={maxSteps:=1000000}) (disch:=first|(simp only[YT,YX,Y6]<;>omega)|rfl|omega|fail) only[dP,aO,aQ,aY,aZ,reduceAdd,reduceMul,reduceLeDiff,reduceEqDiff,ba,hlen,Zi,Zk,t2,l2,oD,oE,oG,aaA,aaa])
   refine fin _ ?_;cases ws<;>simp
   try omega
def NT(Z:qq P){vN rs c2 c3 a4}(hA:A=h++[.cells gx true false])(hkb:kb=.cells [rs,.int .i64 (vN:Nat),c2,c3,a4] true false)(hvN:vN<=100)(o:uP A kd b8 kb sw wr ws sn sv ns [] B)(hlen:ts.length=73)(t2:slot ts 2=.ptr h.length 0)(t4:slot ts 4=.ptr A.length 0)(t6:slot ts 6=.func (.func 208) [.ptr A.length 0] [])(t7:slot ts 7=.ptr (A.length+1) 0)(t8:slot ts 8=.ptr b8 0)
  (hw:eQ X2=(⟨0,kd,ns,(fE vN ws wr).1,[]⟩,!(fE vN ws wr).2.2&&decide ((fE vN ws wr).2.1.length=0))):WC P bJ (wR 7) [] ts (A++[gK sw wr]++B) (FQ [(2,some (some 5)),(3,none)] (MF h X2)):=by
 have m8:=o.m8;rw[hkb]at m8;have l8:∀{n:Option Nat}{a:Nat},ao n (.ptr b8 a) (λz=>(A++[gK sw wr]++B)[z]?)=dC n a (.cells [rs,.int .i64 (vN:Nat),c2,c3,a4] true false):=az m8;obtain⟨RR,SG⟩:∃RR,RR=wR 8:=⟨_,rfl⟩;rw[NV,<-SG];unfold BT wR fn111;simp only[ai.j,ai.s,ai.r,ai.dr,ai.tl,ai.hd];refine Rs (A6 t2 t4 t6 t7 t8 @l8) ?_;refine WL.inv T.mix (λn ts' h'=>∃(k:Nat) (sw' Wa:AV) (wr':Bool) (ws':List (By)) (vs':List Int) (B':ah),k<=vN/\n=vN-k/\h' =A++[gK sw' wr']++B'/\uP A kd b8 kb sw' wr' ws' sn Wa ns vs' B'/\vs'.length=k/\fE vN ws wr=(vs'++(fE (vN-k) ws' wr').1,(fE (vN-k) ws' wr').2)/\
   ts'.length=73/\slot ts' 2=.ptr h.length 0/\slot ts' 4=.ptr A.length 0/\slot ts' 6=.func (.func 208) [.ptr A.length 0] []/\slot ts' 7=.ptr (A.length+1) 0/\slot ts' 47=.int .i64 vN/\slot ts' 48=.int .i64 k) vN
  ⟨0,sw,sv,wr,ws,[],B,Om,rfl,rfl,o,rfl,rfl,(Sq t2),(Sq t2),(Sq t4),(Sq t6),(Sq t7),(Sq t2),fV⟩ ?_
 clear hlen t2 t4 t6 t7 t8 l8 m8 o;rintro _ ts' _ ⟨k,sw',Wa,wr',ws',vs',B',hk,rfl,rfl,o,Sy,Tw,hlen,u2,u4,u6,u7,u47,u48⟩;by_cases hlt:k<vN
 ·have e3:decide ((k:Int)<vN)=true:=Y5 Om;refine Rs (A7 @u2 @u4 @u6 @u7 @u47 @u48 e3) ?_;refine WF.gen T.c208 (OR T Z o.s o.wl) ?_;rintro _ _ ⟨TV,g,rfl,rfl,Sf⟩;obtain⟨SW,Vn⟩:∃SW,SW=((bT ws' wr').2.2 || !iP (bT ws' wr').1):=⟨_,rfl⟩;obtain⟨y,hy⟩:∃y,y=kX (bT ws' wr').1:=⟨_,rfl⟩;rw[<-Vn,<-hy];have o2:=(o.tk (wr':=SW) Sf (λx hx=>o.wl x (qK x hx))).app g;have bV:fE vN ws wr=((vs'++[y])++(fE (vN-(k+1)) (bT ws' wr').2.1 SW).1,(fE (vN-(k+1)) (bT ws' wr').2.1 SW).2):=by
   rw[Tw,show vN-k=(vN-(k+1))+1 by omega,fE,hy,Vn];simp
  have l7:∀{kk:ah}{n:Option Nat}{a:Nat},Ext (A++[gK TV SW]++(B'++g)) kk->ao n (.ptr (A.length+1) a) (λz=>kk[z]?)=dC n a (.cells [.int .i64 0,.str kd,sn,Wa,.str []] true false):=λe=>az (e.some o2.m7)
  refine Rs (A7 @u2 @u4 @u6 @u7 @u47 @u48 @l7) ?_;refine WR.pI (B:=A++[gK TV SW]) (cs:=vs'.map aL) (z:=aL y) (by rw[vO];exact o2.v) rfl ⟨_,rfl⟩ De (by simp;omega) ?_;rintro _ s' ⟨g2,rfl⟩ hF hlo hone hle hkp;rw[vO]at hF;have er:vs'.map aL++[aL y]=(vs'++[y]).map aL:=by rw[Y9];rfl
  rw[er]at hF;have q7:=(YU.1 o2.m7).1;have m7':(A++[gK TV SW]++g2)[A.length+1]? =some (.cells [.int .i64 0,.str kd,sn,Wa,.str []] true false):=by
   rw[hkp _ q7 (λe=>by have:=(o2.dv _ e).1;omega)];exact o2.m7
  have s7:aT 1 (.ptr (A.length+1) 3) s' (λz=>(A++[gK TV SW]++g2)[z]?)=some (ay,.set (A.length+1) (.cells [.int .i64 0,.str kd,sn,s',.str []] true false)):=by
   rw[aJ m7'];exact bO hone Si
  have o3:=o2.N1 hF hlo hle hkp;refine Rs (A8 @u2 @u4 @u6 @u7 @u47 @u48 @s7 (wrapN (show k+1<2^63 by omega))) ?_;exact⟨vN-(k+1),Om,k+1,TV,s',SW,_,vs'++[y],_,Om,rfl,nP,o3,by simp[Sy],bV,rfl⟩
 ·have e3:decide ((k:Int)<vN)=false:=YW Om;have ek:k=vN:=Om
  subst ek;rw[Z6,fE,Zr]at Tw;rw[Tw]at hw;refine Rs (A7 @u2 @u4 @u6 @u7 @u47 @u48 e3) ?_;rw[SG];exact Hk T hA o (Sq @u2) (Sq @u2) (Sq @u4) (Sq @u7) hw
def NU(Z:qq P){nN vN rs c2 c3 a4}(hA:A=h++[.cells gx true false])(hkb:kb=.cells [rs,.int .i64 (vN:Nat),c2,c3,a4] true false)(hnN:nN<=100)(hrs:∀G,jM .sl G rs=some nN)(hvN:vN<=100)(o:uP A kd b8 kb sw wr ws sn sv [] [] B)(hlen:ts.length=73)(t2:slot ts 2=.ptr h.length 0)(t4:slot ts 4=.ptr A.length 0)
  (t5:slot ts 5=.func (.func 207) [.ptr A.length 0] []) (t6:slot ts 6=.func (.func 208) [.ptr A.length 0] []) (t7:slot ts 7=.ptr (A.length+1) 0) (t8:slot ts 8=.ptr b8 0)
  (hw:eQ X2=(⟨0,kd,(da nN ws wr).1,(fE vN (da nN ws wr).2.1 (da nN ws wr).2.2).1,[]⟩,!(fE vN (da nN ws wr).2.1 (da nN ws wr).2.2).2.2&&decide ((fE vN (da nN ws wr).2.1 (da nN ws wr).2.2).2.1.length=0))):WC P bJ (wR 6) [] ts (A++[gK sw wr]++B) (FQ [(2,some (some 5)),(3,none)] (MF h X2)):=by
 have m8:=o.m8;rw[hkb]at m8;have l8:∀{n:Option Nat}{a:Nat},ao n (.ptr b8 a) (λz=>(A++[gK sw wr]++B)[z]?)=dC n a (.cells [rs,.int .i64 (vN:Nat),c2,c3,a4] true false):=az m8;obtain⟨RR,SG⟩:∃RR,RR=wR 7:=⟨_,rfl⟩;rw[NW,<-SG];unfold BT wR fn111;simp only[ai.j,ai.s,ai.r,ai.dr,ai.tl,ai.hd];refine Rs (A8 t2 t4 t5 t6 t7 t8 @l8 @hrs) ?_;refine WL.inv T.mix (λn ts' h'=>∃(k:Nat) (sw' Wc:AV) (wr':Bool) (ws' ns':List (By)) (B':ah),k<=nN/\n=nN-k/\h' =A++[gK sw' wr']++B'/\uP A kd b8 kb sw' wr' ws' Wc sv ns' [] B'/\ns'.length=k/\da nN ws wr=(ns'++(da (nN-k) ws' wr').1,(da (nN-k) ws' wr').2)/\
   ts'.length=73/\slot ts' 2=.ptr h.length 0/\slot ts' 4=.ptr A.length 0/\slot ts' 5=.func (.func 207) [.ptr A.length 0] []/\slot ts' 6=.func (.func 208) [.ptr A.length 0] []/\slot ts' 7=.ptr (A.length+1) 0/\slot ts' 8=.ptr b8 0/\slot ts' 34=.int .i64 nN/\slot ts' 35=.int .i64 k) nN
  ⟨0,sw,sn,wr,ws,[],B,Om,rfl,rfl,o,rfl,rfl,(Sq t2),(Sq t2),(Sq t4),(Sq t5),(Sq t6),(Sq t7),(Sq t8),(Sq t2),fV⟩ ?_
 clear hlen t2 t4 t5 t6 t7 t8 l8 m8 o;rintro _ ts' _ ⟨k,sw',Wc,wr',ws',ns',B',hk,rfl,rfl,o,Sy,Tw,hlen,u2,u4,u5,u6,u7,u8,u34,u35⟩;by_cases hlt:k<nN
 ·have e3:decide ((k:Int)<nN)=true:=Y5 Om;refine Rs (A9 @u2 @u4 @u5 @u6 @u7 @u8 @u34 @u35 e3) ?_;refine WF.gen T.c207 (H3 T o.s) ?_;rintro _ _ ⟨TV,rfl,rfl,Sf⟩;obtain⟨SW,Vn⟩:∃SW,SW=(bT ws' wr').2.2:=⟨_,rfl⟩;obtain⟨y,hy⟩:∃y,y=(bT ws' wr').1:=⟨_,rfl⟩;rw[<-Vn,<-hy];have o2:=o.tk (wr':=SW) Sf (λx hx=>o.wl x (qK x hx));have bV:da nN ws wr=((ns'++[y])++(da (nN-(k+1)) (bT ws' wr').2.1 SW).1,(da (nN-(k+1)) (bT ws' wr').2.1 SW).2):=by
   rw[Tw,show nN-k=(nN-(k+1))+1 by omega,da,hy,Vn];simp
  have l7:∀{kk:ah}{n:Option Nat}{a:Nat},Ext (A++[gK TV SW]++B') kk->ao n (.ptr (A.length+1) a) (λz=>kk[z]?)=dC n a (.cells [.int .i64 0,.str kd,Wc,sv,.str []] true false):=λe=>az (e.some o2.m7)
  refine Rs (A9 @u2 @u4 @u5 @u6 @u7 @u8 @u34 @u35 @l7) ?_;refine WR.pI (B:=A++[gK TV SW]) (cs:=ns'.map aq) (z:=aq y) (by rw[vO];exact o2.n) rfl ⟨_,rfl⟩ De (by simp;omega) ?_;rintro _ s' ⟨g2,rfl⟩ hF hlo hone hle hkp;rw[vO]at hF;have er:ns'.map aq++[aq y]=(ns'++[y]).map aq:=by rw[Y9];rfl
  rw[er]at hF;have q7:=(YU.1 o2.m7).1;have m7':(A++[gK TV SW]++g2)[A.length+1]? =some (.cells [.int .i64 0,.str kd,Wc,sv,.str []] true false):=by
   rw[hkp _ q7 (λe=>by have:=(o2.dn _ e).1;omega)];exact o2.m7
  have s7:aT 1 (.ptr (A.length+1) 2) s' (λz=>(A++[gK TV SW]++g2)[z]?)=some (ay,.set (A.length+1) (.cells [.int .i64 0,.str kd,s',sv,.str []] true false)):=by
   rw[aJ m7'];exact bO hone Si
  have o3:=o2.N2 hF hlo hle hkp;refine Rs (o8 @u2 @u4 @u5 @u6 @u7 @u8 @u34 @u35 @s7 (wrapN (show k+1<2^63 by omega))) ?_;exact⟨nN-(k+1),Om,k+1,TV,s',SW,_,ns'++[y],_,Om,rfl,nP,o3,by simp[Sy],bV,rfl⟩
 ·have e3:decide ((k:Int)<nN)=false:=YW Om;have ek:k=nN:=Om
  subst ek;rw[Z6,da,Zr]at Tw;rw[Tw]at hw;refine Rs (A9 @u2 @u4 @u5 @u6 @u7 @u8 @u34 @u35 e3) ?_;rw[SG];exact NT T Z hA hkb hvN o (Sq @u2) (Sq @u2) (Sq @u4) (Sq @u6) (Sq @u7) (Sq @u8) hw
def r111(Z:qq P){s ws}(hs:aK h s 1 (ws.map aq))(hwl:∀x∈ws,x.length<=2^40):aA P 111 [s] h (λv k=>∃x:EV,x.ev=(eQ ws).1/\v=.dL [.agg x.row,.bool (eQ ws).2]/\Fr h.length k x.sn 1 (x.ev.names.map aq)/\Fr h.length k x.sv 1 (x.ev.cB.map aL)):=by
 refine .of T.mix (abn T.c111 (Zv some NX)) ?_;obtain⟨ts,RD⟩:∃ts,ts=aV 73 [s]:=⟨_,rfl⟩;have hlen:ts.length=73:=by rw[RD];rfl
 have t0:slot ts 0=s:=by rw[RD];rfl
 obtain⟨RR,SG⟩:∃RR,RR=wR 6:=⟨_,rfl⟩;show WC P bJ _ [] (aV 73 [s]) h (FQ _ (MF h ws));rw[<-RD,<-SG];clear RD;have hso:=hs.one;unfold BT wR fn111;simp only[ai.j,ai.s,ai.r,ai.dr,ai.tl,ai.hd];refine Rs (A2 t0 @hso) ?_;obtain⟨A,hA⟩:∃A,A=h++[ak.cells gx true false]:=⟨_,rfl⟩;have hAl:A.length=h.length+1:=by rw[hA];simp
 have gw:=H3 T (A:=A) (B:=[]) (wr:=false) (hs.ext (k:=A) ⟨_,hA⟩);rw[Zr,hA]at gw;refine WF.gen T.c207 gw ?_;rintro _ _ ⟨TV,rfl,rfl,Sf⟩;rw[Zr];rw[<-hA]at Sf;have hwl2:∀x∈(bT ws false).2.1,x.length<=2^40:=λx hx=>hwl x (qK x hx)
 have S4:eQ ws=match gO (bT ws false).1 with
  |none=>(lB,false)
  |some d=>(⟨0,bA d,(da (bM d).length (bT ws false).2.1 (bT ws false).2.2).1,(fE (cE d) (da (bM d).length (bT ws false).2.1 (bT ws false).2.2).2.1 (da (bM d).length (bT ws false).2.1 (bT ws false).2.2).2.2).1,[]⟩,!(fE (cE d) (da (bM d).length (bT ws false).2.1 (bT ws false).2.2).2.1 (da (bM d).length (bT ws false).2.1 (bT ws false).2.2).2.2).2.2&&decide ((fE (cE d) (da (bM d).length (bT ws false).2.1 (bT ws false).2.2).2.1 (da (bM d).length (bT ws false).2.1 (bT ws false).2.2).2.2).2.1.length=0)):=by
  unfold eQ;cases gO (bT ws false).1<;>rfl
 generalize (bT ws false).1=kd at *;generalize (bT ws false).2.1=ws2 at *;generalize (bT ws false).2.2=SW at *;refine Rs t0 ?_;refine WF.res T.c90 (r90 T) ?_;rintro _ g2 ⟨vf,rfl,hk⟩;have lk:∀{z:AV},iw .s z true (.map (h++[ak.cells gx true false]++[gK TV SW]++[Cu kd .af .af]).length) (.str kd) (λb=>(h++[ak.cells gx true false]++[gK TV SW]++[Cu kd .af .af]++g2)[b]?)=lC z true ((gO kd).map vf):=hk.look;unfold Cu at lk;cases hd:gO kd with
 |none=>
  rw[hd]at lk S4;have Sh:∀{z:AV},_=some (AV.dL [z,.bool false],iI.ar):=@lk;have z2:∀{k:ah},Ext (h++[ak.cells gx true false]) k->k[h.length]? =some (.cells gx true false):=λe=>e.some (by rw[Zd (Zc _)];simp)
  have s2:∀{k:ah},Ext (h++[ak.cells gx true false]) k->aT 5 (.ptr h.length 0) (.agg [.int .i64 0,.str [],.af,.af,.str []]) (λz=>k[z]?)=some (ay,.set h.length (.cells gx true false)):=λe=>by rw[aJ (z2 e)];rfl
  have l2:∀{k:ah},Ext (h++[ak.cells gx true false]) k->ao (some 5) (.ptr h.length 0) (λz=>k[z]?)=some (.agg gx,.ar):=λe=>by rw[az (z2 e)];rfl
  have sq:∀{k:ah},Ext (h++[ak.cells gx true false]) k->k.set h.length (.cells gx true false)=k:=λ{k} e=>by
   have:=z2 e;exact Kb
  refine Rs (A8 t0 @bW @Sh @iG @Zz @s2 @sq @l2) ?_;exact⟨Xx,⟨lB,.af,.af⟩,by rw[S4],by rw[S4];rfl,.nil,.nil⟩
 |some d=>
  rw[hd]at lk S4;have Sh:∀{z:AV},_=some (AV.dL [vf d,.bool true],iI.ar):=@lk;obtain⟨rs,a,hv,hr,ha,hab⟩:=(hk.k d).ex;rw[hv]at Sh;have hlr:=hr.aH;have c1:=lX d;have c2:=lE d;have c3:=hr.one;have h3:(bM d).length<=3/\cE d<=3:=by cases d<;>decide
  refine Rs (A8 t0 @bW @Sh @Zw @c1 @c2 @c3 @ha) ?_;rw[SG];obtain⟨kb,hkb⟩:∃kb,kb=ak.cells [rs,.int .i64 (cE d:Nat),j7 d,pA d,a] true false:=⟨_,rfl⟩;obtain⟨b8,hb8⟩:∃b8,b8=(h++[ak.cells gx true false]++[gK TV SW]++[ak.cells [.int .i64 0,.str kd,.af,.af,.str []] true false]++g2).length:=⟨_,rfl⟩;rw[<-hkb,<-hb8];have eh:h++[ak.cells gx true false]++[gK TV SW]++[ak.cells [.int .i64 0,.str kd,.af,.af,.str []] true false]++g2++[kb]=A++[gK TV SW]++([Cu kd .af .af]++g2++[kb]):=by rw[hA];unfold Cu;simp
  rw[eh];have o:uP A kd b8 kb TV SW ws2 .af .af [] [] ([Cu kd .af .af]++g2++[kb]):=by
   refine⟨?_,?_,?_,Sf,hwl2,.nil,.nil,λi hi=>(by cases hi),λi hi=>(by cases hi),λi hi=>(by cases hi)⟩
   ·rw[Zd Si];simp
   ·rw[<-eh,hb8,Zd (Zc _),Z6];rfl
   ·rw[hb8,hAl];simp only[YT,Zt];omega
  refine NU T Z (nN:=(bM d).length) (vN:=cE d) hA hkb Om hlr Om o (Sq t0) (Sq t0) ?_ ?_ ?_ ?_ (Sq t0) ?_
  all_goals first|(rw[S4,cA hd];done)|skip
  ·refine Zs t0 ?_;rw[hA];rfl
  ·refine Zs t0 ?_;rw[hA];rfl
  ·refine Zs t0 ?_;rw[hA];rfl
  ·refine Zs t0 ?_;rw[hA];simp
end
def sP{c s n}(hs:s.length<=n):∀x∈bL c s,x.length<=n:=λx hx=>ZR (sR x hx) hs
theorem rI{c}:∀{s},(fq c s).1.length<=s.length/\(fq c s).2.1.length<=s.length
 |[]=>⟨Zc _,Zc _⟩
 |x::r=>by
  have ih:=rI (c:=c) (s:=r);rw[fq];split
  ·simp
  ·simp only[YX];omega
def FN{h G:ah}{X Y:ak}{j:Nat}(hj:j≠h.length):(h++([X]++G))[j]? =(h++([Y]++G))[j]? :=by
 rw[<-YV,<-YV];exact qB hj
section
variable {P:Program}(T:fA P) {h:ah}
include T
def r99(X:C4 P)(Z:qq P)(w:Pw h)(s:By)(hsl:s.length<=2^38)(n:Int):aA P 99 [.str s,.i n] h (λv k=>∃x:EV,x.ev=(fQ s n).1/\v=.dL [.agg x.row,.i (fQ s n).2]/\Fr h.length k x.sn 1 (x.ev.names.map aq)/\Fr h.length k x.sv 1 (x.ev.cB.map aL)):=by
 refine .eF 83 T.mix T.c99 ?_;intro ts hlen t0 t1;unfold fn99 gA;have w1:IntKind.i64.wrap ((s.length:Int)-7)=(s.length:Int)-7:=bz Om Om;have w2:IntKind.i64.wrap ((s.length:Int)-7-1)=(s.length:Int)-8:=by rw[bz Om Om];omega
 have s2:=@KJ h;have l2:=@KL h;have sq:=@KK h;have bad:∀{c:Int}{k:ah},fQ s n=(lB,c)->Ext h k->(Ext h k/\∃x:EV,x.ev=(fQ s n).1/\AV.dL [.agg [.i 0,.str [],.af,.af,.str []],.i c]=.dL [.agg x.row,.i (fQ s n).2]/\Fr h.length k x.sn 1 (x.ev.names.map aq)/\Fr h.length k x.sv 1 (x.ev.cB.map aL)):=
  λhe e=>⟨e,⟨lB,.af,.af⟩,by rw[he],by rw[he];rfl,.nil,.nil⟩
 by_cases h8:s.length<8
 ·have d1:decide ((s.length:Int)-8<0)=true:=Y5 Om;refine Rs (A8 t0 t1 @w1 @w2 @d1 @s2 @l2 @sq) ?_;exact(bad (by rw[fQ,Zh h8]) Xx).2
 have d1:decide ((s.length:Int)-8<0)=false:=YW Om;have ea:(s.length:Int)-8=((s.length-8:Nat):Int):=Om
 rw[ea]at w2 d1;have hlt:s.length-8<s.length:=Om
 have w3:IntKind.i64.wrap (((s.length-8:Nat):Int)+1)=((s.length-7:Nat):Int):=by rw[bz Om Om];omega
 have gd:s.getD (s.length-8) 0=s[s.length-8]:=by rw[ZK,YZ hlt];rfl
 by_cases hh:s[s.length-8]=35
 case neg=>
  have d2:decide ((s[s.length-8].toNat:Int)≠35)=true:=Y5 λe=>hh (UInt8.toNat_inj.1 (by simpa using (by omega:s[s.length-8].toNat=35)))
  repeat (first|simp (config:={maxSteps:=1000000}) only[aO,aQ,aY,aZ,reduceAdd,reduceMul,reduceLeDiff,reduceEqDiff,ba,hlen,Zi,Zk,t0,t1,w1,w2,d1,jN hlt,d2,s2,l2,sq]|simp (config:={maxSteps:=1000000}) (disch:=first|(simp only[YT,YX,Y6]<;>omega)|rfl|omega|fail) only[dP,aO,aQ,aY,aZ,reduceAdd,reduceMul,reduceLeDiff,reduceEqDiff,ba,hlen,Zi,Zk,t0,t1,w1,w2,d1,jN hlt,d2,s2,l2,sq])
  exact(bad (by rw[fQ,Za h8,Zh (.inl (by rw[gd];exact hh))]) Xx).2
 have d2:decide ((s[s.length-8].toNat:Int)≠35)=false:=YW (by rw[hh];decide)
 repeat (first|simp (config:={maxSteps:=1000000}) only[aO,aQ,aY,aZ,reduceAdd,reduceMul,reduceLeDiff,reduceEqDiff,ba,hlen,Zi,Zk,t0,t1,w1,w2,d1,jN hlt,d2,w3,ku (show s.length-7<=s.length by omega)]|simp (config:={maxSteps:=1000000}) (disch:=first|(simp only[YT,YX,Y6]<;>omega)|rfl|omega|fail) only[dP,aO,aQ,aY,aZ,reduceAdd,reduceMul,reduceLeDiff,reduceEqDiff,ba,hlen,Zi,Zk,t0,t1,w1,w2,d1,jN hlt,d2,w3,ku (show s.length-7<=s.length by omega)])
 refine WF.ce T.c189 (r189 T _ (by rw[abb];omega)) λg1=>?_
 cases hd:rH (s.drop (s.length-7))with
 |false=>
  refine Rs (A7 t0 t1 @hd @Zz @s2 @l2 @sq) ?_;exact(bad (by rw[fQ,Za h8,Zh (.inr (by rw[hd];simp))]) Xx).2
 |true=>
 repeat (first|simp (config:={maxSteps:=1000000}) only[aO,aQ,aY,aZ,reduceAdd,reduceMul,reduceLeDiff,reduceEqDiff,ba,hlen,Zi,Zk,t0,t1,hd,Zw,qT (show s.length-8<=s.length by omega)]|simp (config:={maxSteps:=1000000}) (disch:=first|(simp only[YT,YX,Y6]<;>omega)|rfl|omega|fail) only[dP,aO,aQ,aY,aZ,reduceAdd,reduceMul,reduceLeDiff,reduceEqDiff,ba,hlen,Zi,Zk,t0,t1,hd,Zw,qT (show s.length-8<=s.length by omega)])
 have UT:∀{α:Type}{a b:α},(if s.getD (s.length-8) 0≠35\/¬rH (s.drop (s.length-7))=true then a else b)=b:=λ{_ _ _}=>Za (by rw[gd,hd];simp[hh])
 refine WF.ce T.c187 (r187 T Z _ (by rw[ZQ];omega) (w.ext Xx)) λg2=>?_
 by_cases hc:nE (s.take (s.length-8))=s.drop (s.length-7)
 case neg=>
  have d3:decide (nE (s.take (s.length-8))≠s.drop (s.length-7))=true:=Y5 hc
  repeat (first|simp (config:={maxSteps:=1000000}) only[aO,aQ,aY,aZ,reduceAdd,reduceMul,reduceLeDiff,reduceEqDiff,ba,hlen,Zi,Zk,t0,t1,w3,ku (show s.length-7<=s.length by omega),d3,s2,l2,sq]|simp (config:={maxSteps:=1000000}) (disch:=first|(simp only[YT,YX,Y6]<;>omega)|rfl|omega|fail) only[dP,aO,aQ,aY,aZ,reduceAdd,reduceMul,reduceLeDiff,reduceEqDiff,ba,hlen,Zi,Zk,t0,t1,w3,ku (show s.length-7<=s.length by omega),d3,s2,l2,sq])
  exact(bad (by rw[fQ,Za h8,UT,Zh hc]) Xx).2
 have d3:decide (nE (s.take (s.length-8))≠s.drop (s.length-7))=false:=YW (λz=>z hc);have hes:fQ s n=if !iP (fq 32 (s.take (s.length-8))).1 || !(eQ (bL 32 (fq 32 (s.take (s.length-8))).2.1)).2||decide (eG { (eQ (bL 32 (fq 32 (s.take (s.length-8))).2.1)).1 with num:=kX (fq 32 (s.take (s.length-8))).1}≠0)then(lB,25)else({ (eQ (bL 32 (fq 32 (s.take (s.length-8))).2.1)).1 with num:=kX (fq 32 (s.take (s.length-8))).1},bX (decide (kX (fq 32 (s.take (s.length-8))).1≠n)) 11):=(Za h8).trans (UT.trans (Za (λz=>z hc)))
 have htl:(s.take (s.length-8)).length<=2^38:=by rw[ZQ];omega
 have hcl:=rI (c:=32) (s:=s.take (s.length-8))
 repeat (first|simp (config:={maxSteps:=1000000}) only[aO,aQ,aY,aZ,reduceAdd,reduceMul,reduceLeDiff,reduceEqDiff,ba,hlen,Zi,Zk,t0,t1,w3,ku (show s.length-7<=s.length by omega),d3,qT (show s.length-8<=s.length by omega)]|simp (config:={maxSteps:=1000000}) (disch:=first|(simp only[YT,YX,Y6]<;>omega)|rfl|omega|fail) only[dP,aO,aQ,aY,aZ,reduceAdd,reduceMul,reduceLeDiff,reduceEqDiff,ba,hlen,Zi,Zk,t0,t1,w3,ku (show s.length-7<=s.length by omega),d3,qT (show s.length-8<=s.length by omega)])
 refine WF.ce T.c98 (r98 T X _ 32 Om) λg3=>?_
 generalize hq1:(fq 32 (s.take (s.length-8))).1=a1 at hes hcl ⊢;generalize hq2:(fq 32 (s.take (s.length-8))).2.1=a2 at hes hcl ⊢;refine Rs (A2 t0 t1) ?_;refine WF.ce T.c190 (r190 T Z a1 Om) λg4=>?_
 refine Rs (A2 t0 t1) ?_;refine WF.res T.c64 (r64 T X a2 32 Om) ?_;intro v g5 hv;refine Rs (A2 t0 t1) ?_;have Tj:=vv (bL 32 a2);refine WF.res T.c111 (r111 T Z hv (sP Om)) ?_;rintro _ g6 ⟨x,hx,rfl,fn,fv⟩;have ox:bh _ x:=⟨fn.aW,fv.aW⟩;rw[<-hx]at hes Tj;generalize (eQ (bL 32 a2)).2=fm at hes ⊢;obtain⟨x',RI⟩:∃x':EV,x' =⟨{x.ev with num:=kX a1},x.sn,x.sv⟩:=⟨_,rfl⟩;have Sr:x'.sn=x.sn:=by rw[RI]
 have hsv:x'.sv=x.sv:=by rw[RI]
 have Vy:x'.ev.names=x.ev.names:=by rw[RI]
 have Sy:x'.ev.cB=x.ev.cB:=by rw[RI]
 have hrow:x'.row=x.row.set 0 (.i (kX a1)):=by rw[RI];rfl
 have hev:({x.ev with num:=kX a1}:eD)=x'.ev:=by rw[RI]
 rw[hev]at hes;have SY:fQ s n=if !iP a1 || !fm||decide (eG x'.ev≠0)then(lB,25)else(x'.ev,bX (decide (kX a1≠n)) 11):=hes
 rw[<-Sr,<-Vy]at fn;rw[<-hsv,<-Sy]at fv;have Xq:bh _ x':=⟨fn.aW,fv.aW⟩;have st:∀{b':Nat}{a0 a1 a2 a3 a4:AV},km 5 0 (.agg x.row) b' (.b [a0,a1,a2,a3,a4])=some (ay,.set b' (.b x.row)):=λ{_ _ _ _ _ _}=>ox.st
 have kr:∀{b':Nat},km 1 0 (.i (kX a1)) b' (.b x.row)=some (ay,.set b' (.b x'.row)):=λ{b'}=>by
  rw[hrow];exact bO rfl (by show 0+1<=5;omega)
 cases hdg:iP a1 with
 |false=>
  rw[hdg]at SY;refine Rs (A9 t0 t1 @st @kr @bR @Zz @s2 @l2 @sq) ?_;exact GJ
 |true=>
 cases fm with
 |false=>
  rw[hdg]at SY;refine Rs (o8 t0 t1 @st @kr @bR @Zz @Zw @s2 @l2 @sq) ?_;exact GJ
 |true=>
 rw[hdg]at SY;refine Rs (A7 t0 t1 @st @kr @bR @Zz @Zw) ?_;refine WF.ce T.c67 (r67 T (Xq.ext Xx) ⟨by rw[Vy];omega,by rw[Sy];omega⟩) λg7=>?_
 by_cases Ta:eG x'.ev=0
 case neg=>
  have d4:decide (eG x'.ev≠0)=true:=Y5 Ta;rw[d4]at SY;refine Rs (A6 t0 t1 @d4 @s2 @l2 @sq) ?_;exact GJ
 have d4:decide (eG x'.ev≠0)=false:=YW (λz=>z Ta);rw[d4]at SY;have key:∀{k:ah}{W:ah},bh W x'->Ext (h++[ak.b [.i 0,.str [],.af,.af,.str []]]) W->Ext W k->aT 5 (.ptr h.length 0) (.agg x'.row) (λz=>k[z]?)=some (ay,.set h.length (.b x'.row)):=λo e1 e2=>KI (o.ext e2) (e1.trans e2)
 have sx:=λ{k:ah}=>@key k _ Xq Xx
 have ly:=@KH h;refine Rs (A4 t0 t1 @d4 @bR) ?_;refine WF.ce T.c85 (r85 T _ _) λg8=>?_
 have fn3:=((fn.app [ak.b x'.row]).app g7).app g8;have fv3:=((fv.app [ak.b x'.row]).app g7).app g8;refine Rs (A4 t0 t1 @sx @ly) ?_;refine⟨Xx,x',by rw[SY];rfl,by rw[SY];rfl,(fn3.aD λj hj=>?_).low ?_,(fv3.aD λj hj=>?_).low ?_⟩
 ·simp only[YV];refine FN λe=>?_
  have:=(fn3.bP hj).1;simp only[YT,Zt]at this;omega
 ·exact Js
 ·simp only[YV];refine FN λe=>?_
  have:=(fv3.bP hj).1;simp only[YT,Zt]at this;omega
 ·exact Js
end
end Go.Abs
