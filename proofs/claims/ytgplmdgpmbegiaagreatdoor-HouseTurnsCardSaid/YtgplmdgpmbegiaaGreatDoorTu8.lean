/- A part of the proof that HouseTurns holds. No condition. -/
import Derived.Test.YtgplmdgpmbegiaaGreatDoorTu7
import Derived.Lib.Bytealg
import Derived.Test.YtgplmdgpmbegiaaGreatDoorTu6
import Derived.Lib.ItoaNum
import Derived.Lib.ItoaLen
import Derived.Lib.ItoaMem
import Derived.Lib.Join
import Derived.Test.YtgplmdgpmbegiaaGreatDoorTu0
set_option maxHeartbeats 4000000
set_option linter.all false
open Nat (reduceAdd reduceMul reduceLeDiff reduceEqDiff)
namespace Go.Abs
def ne_self{α:Type}[DecidableEq α](a:α):decide (a≠a)=false:=Si
theorem rD:∀(l m:List cY) (H:gO) (i:Nat),fC H (l++m) i=if(fC H l i).2.2≠0 then fC H l i else fC (fC H l i).1 m (i+l.length)
 |[],m,H,i=>by simp[fC]
 |e::l,m,H,i=>by
  rw[abe,fC,fC];by_cases h:dV H e≠0
  ·simp only[aai h]
  ·simp only[aab h];rw[rD l m (gy H e) (i+1)];have:i+1+l.length=i+(e::l).length:=by simp only[Z5];omega
   rw[this]
def nq(l:List cY)(e:cY):Int:=
 if(aN l).2.2≠0 then(aN l).2.2 else if eA e≠0 then eA e else if 1000<=l.length then 5 else(aN (l++[e])).2.2
def kv{l:List cY}{e:cY}(h:(aN l).2.2=0)(hl:l.length<1000):aN (l++[e])=if dV (aN l).1 e≠0 then(gO.zero,(l.length:Int)+1,dV (aN l).1 e)else(gy (aN l).1 e,0,0):=by
 have e1:aN l=fC gO.zero l 0:=by rw[aN,aab Om]
 have e2:aN (l++[e])=fC gO.zero (l++[e]) 0:=by rw[aN,aab (by simp;omega)]
 rw[e2,rD,<-e1,aab (λz=>z h),fC,aaP];rfl
def pq(l:List cY)(e:cY):nq l e=po l e:=by
 unfold nq po;by_cases h1:(aN l).2.2=0
 case neg=>
  have hf:aQ [(aN l).2.2,eA e,bW (decide (1000<=l.length)) 5]=(aN l).2.2:=by rw[aQ,aab h1]
  rw[aai h1,hf,aai h1]
 rw[aab (λz=>z h1)];by_cases h2:eA e=0
 case neg=>
  have hf:aQ [(aN l).2.2,eA e,bW (decide (1000<=l.length)) 5]=eA e:=by rw[aQ,aai h1,aQ,aab h2]
  rw[aai h2,hf,aai h2]
 rw[aab (λz=>z h2)];by_cases h3:1000<=l.length
 ·have hf:aQ [(aN l).2.2,eA e,bW (decide (1000<=l.length)) 5]=5:=by
   rw[aQ,aai h1,aQ,aai h2,Z8 h3];rfl
  rw[aai h3,hf,aai De]
 ·have hf:aQ [(aN l).2.2,eA e,bW (decide (1000<=l.length)) 5]=0:=by
   rw[aQ,aai h1,aQ,aai h2,Z3 h3];rfl
  rw[aab h3,hf,aab (λz=>z rfl),kv h1 Om];have hb:dV (aN l).1 e=jw (aN l).1 e:=by rw[dV,aab (λz=>z h2)]
  by_cases h4:dV (aN l).1 e=0
  ·rw[aab (λz=>z h4),<-hb,h4]
  ·rw[aai h4,hb]
def gS(R:dM):List cY->List dM
 |[]=>[]
 |e::l=>fQ R e (gx e)::gS (fQ R e (gx e)) l
def wa(R:dM):List cY->Prop
 |[]=>True
 |e::l=>(∃d,j8 e d/\d≠.dR)/\fD R e (gx e)=0/\wa (fQ R e (gx e)) l
theorem lS:∀(l:List cY) (R:dM) (e:cY),gS R (l++[e])=gS R l++[fQ ((gS R l).getLastD R) e (gx e)]
 |[],R,e=>rfl
 |x::l,R,e=>by
  rw[abe,gS,gS,lS l,List.getLastD_cons];rfl
theorem rP:∀(l:List cY) (R:dM) (e:cY),wa R (l++[e])↔wa R l/\(∃d,j8 e d/\d≠.dR)/\fD ((gS R l).getLastD R) e (gx e)=0
 |[],R,e=>by simp[wa,gS]
 |x::l,R,e=>by
  rw[abe,wa,wa,rP l,gS,List.getLastD_cons];exact⟨λ⟨a,b,c,d,f⟩=>⟨⟨a,b,c⟩,d,f⟩,λ⟨⟨a,b,c⟩,d,f⟩=>⟨a,b,c,d,f⟩⟩
def kO{α:Type}(l:List α):l=[]\/∃m x,l=m++[x]:=by
 rcases List.eq_nil_or_concat l with h|⟨m,x,h⟩
 ·exact .inl h
 ·exact .inr ⟨m,x,by rw[h,List.concat_eq_append]⟩
structure Hy(H:gO):Prop where
 rg:H.cM=gS dM.zero H.eT
 ok:wa dM.zero H.eT
theorem Hy.zero:Hy gO.zero:=⟨rfl,trivial⟩
def Hy.add{H:gO}{e:cY}(c:Hy H)(w:lq H)(h:dV H e=0):Hy (gy H e):=by
 obtain⟨h1,h2⟩:=yO h;obtain⟨d,we⟩:=p6 h1;obtain⟨h3,h4,h5⟩:=DM h2;unfold gy;split
 case isTrue hu=>
  rcases kO H.eT with hn|⟨m,x,hm⟩
  ·exact absurd hn (h4 hu)
  ·have e1:=c.rg;have e2:=c.ok;rw[hm,lS]at e1;rw[hm,rP]at e2;exact⟨by rw[e1,hm,List.dropLast_concat,List.dropLast_concat],by rw[hm,List.dropLast_concat];exact e2.1⟩
 case isFalse hu=>
  have UD:H.now=(gS dM.zero H.eT).getLastD dM.zero:=by rw[gO.now,c.rg]
  refine⟨?_,?_⟩
  ·show H.cM++_=gS dM.zero (H.eT++[e]);rw[lS,<-UD,c.rg]
  ·show wa dM.zero (H.eT++[e]);rw[rP,<-UD];exact⟨c.ok,⟨d,we,λz=>hu (by rw[we.gx,z])⟩,h5 hu⟩
theorem zh:∀(l:List cY) (H:gO) (i:Nat),Hy H->lq H->(fC H l i).2.2=0->Hy (fC H l i).1/\lq (fC H l i).1
 |[],H,_,c,w,_=>⟨c,w⟩
 |e::l,H,i,c,w,h=>by
  rw[fC]at h ⊢;by_cases hb:dV H e=0
  ·rw[aab (λz=>z hb)]at h ⊢;exact zh l _ _ (c.add w hb) (w.add hb) h
  ·rw[aai hb]at h;exact absurd h hb
def uy{l:List cY}(h:(aN l).2.2=0):Hy (aN l).1/\lq (aN l).1:=by
 unfold aN at h ⊢;split at h
 ·exact absurd h De
 case isFalse hl=>
 rw[aab hl];exact zh l _ _ .zero .zero h
def xA{R:dM}{e:cY}{d:Kd}(h:fD R e d=0):R.tick<=bI e 0:=by
 unfold fD at h;split at h
 ·exact absurd h De
 ·omega
theorem rO:∀(l:List cY) (R:dM),wa R l->∀e∈l,R.tick<=bI e 0
 |[],_,_,e,he=>by cases he
 |x::l,R,h,e,he=>by
  obtain⟨_,h2,h3⟩:=h;have ht:=xA h2;rcases aaJ.1 he with rfl|he
  ·exact ht
  ·exact Int.le_trans ht (rO l _ h3 e he)
def Hr(t:Int)(R:dM)(e:cY):dM:=if bI e 0<=t then fQ R e (gx e)else R
theorem xL:∀(l:List cY) (R:dM) (t:Int),(∀e∈l,t<bI e 0)->l.foldl (Hr t) R=R
 |[],_,_,_=>rfl
 |x::l,R,t,h=>by
  have:=h x (aaS ..);rw[ab5,Hr,aab Om];exact xL l R t λe he=>h e (aaH _ he)
theorem xK:∀(l1 l2:List cY) (R:dM) (e:cY) (t:Int),wa R (l1++e::l2)->eS R->eS (l1.foldl (Hr t) R)/\(∃d,j8 e d/\d≠.dR)/\(bI e 0<=t->fD (l1.foldl (Hr t) R) e (gx e)=0)
 |[],l2,R,e,t,h,w=>⟨w,h.1,λ_=>h.2.1⟩
 |x::l1,l2,R,e,t,h,w=>by
  obtain⟨⟨d,wx,hd⟩,h2,h3⟩:=h;have SN:=wx.gx;have wn:eS (fQ R x (gx x)):=by rw[SN]at h2 ⊢;exact w.step wx hd h2
  obtain⟨a1,a2,a3⟩:=xK l1 l2 _ e t h3 wn;rw[ab5];by_cases ht:bI x 0<=t
  ·have:Hr t R x=fQ R x (gx x):=by rw[Hr,aai ht]
   rw[this];exact⟨a1,a2,a3⟩
  ·have hx:Hr t R x=R:=by rw[Hr,aab ht]
   have hl:∀y∈l1,t<bI y 0:=λy hy=>by
    have:=rO _ _ h3 y (aac.2 (.inl hy));have hn:(fQ R x (gx x)).tick=bI x 0:=rfl;omega
   have he:=rO _ _ h3 e Si;have hn:(fQ R x (gx x)).tick=bI x 0:=rfl;rw[hx,xL l1 R t hl];exact⟨w,a2,λz=>by omega⟩
def gQ(l:List cY)(n:Int):Bool:=decide ((l.length:Int)<=n)&&l.all λe=>decide (e.kind.length<=40)&&decide (e.names.length<=6)&&decide (e.cw.length<=8)&&decide (e.text.length<=200)&&e.names.all λx=>decide (x.length<=40)
def bM(c:UInt8):By->List (By)
 |[]=>[[]]
 |x::r=>
  if x=c then []::bM c r
  else match bM c r with
   |p::ps=>(x::p)::ps
   |[]=>[[x]]
def kr{c:UInt8}:∀{s:By},bM c s≠[]
 |[]=>by simp[bM]
 |x::r=>by
  unfold bM;split
  ·simp
  ·split<;>simp
theorem tA{c:UInt8}:∀{s:By},c∉s->bM c s=[s]
 |[],_=>rfl
 |x::r,h=>by
  unfold bM;rw[aab (λe=>h (by simp[e])),tA (λhr=>h (aaH _ hr))]
theorem rv{c:UInt8}{q:By}:∀{p:By},c∉p->bM c (p++c::q)=p::bM c q
 |[],_=>by simp[bM]
 |x::r,h=>by
  rw[abe,bM,aab (λe=>h (by simp[e])),rv (λhr=>h (aaH _ hr))]
theorem ru{c:UInt8}:∀{s:By},(bM c s).length=s.count c+1
 |[]=>rfl
 |x::r=>by
  have ih:=ru (c:=c) (s:=r);unfold bM;by_cases h:x=c
  ·subst h;rw[aai rfl,Z5,ih,List.count_cons_self]
  ·rw[aab h,List.count_cons_of_ne h];cases hs:bM c r with
   |nil=>exact absurd hs kr
   |cons p ps=>rw[hs]at ih;simpa using ih
theorem tB{c:UInt8}:∀{s:By},∀p∈bM c s,p.length<=s.length
 |[]=>by simp[bM]
 |x::r=>by
  have ih:=tB (c:=c) (s:=r);intro p hp;unfold bM at hp;rw[Z5];by_cases h:x=c
  ·rw[aai h]at hp;rcases aaJ.1 hp with rfl|hp
   ·simp
   ·have:=ih p hp;omega
  ·rw[aab h]at hp;cases hs:bM c r with
   |nil=>exact absurd hs kr
   |cons q qs=>
    rw[hs]at hp ih;rcases aaJ.1 hp with rfl|hp
    ·have:=ih q Si;rw[Z5];omega
    ·have:=ih p (by simp[hp]);omega
def jN(c:UInt8):List (By)->By
 |[]=>[]
 |[p]=>p
 |p::ps=>p++c::jN c ps
def nL{c:UInt8}{p:By}{r:List (By)}(h:r≠[]):jN c (p::r)=p++c::jN c r:=by
 cases r with
 |nil=>exact absurd rfl h
 |cons=>rfl
theorem j5{c:UInt8}:∀{s:By},jN c (bM c s)=s
 |[]=>rfl
 |x::r=>by
  have ih:=j5 (c:=c) (s:=r);unfold bM;by_cases h:x=c
  ·subst h;rw[aai rfl];cases hs:bM x r with
   |nil=>exact absurd hs kr
   |cons p ps=>rw[hs]at ih;rw[jN,ih]<;>simp
  ·rw[aab h];cases hs:bM c r with
   |nil=>exact absurd hs kr
   |cons p ps=>
    rw[hs]at ih;cases ps with
    |nil=>rw[jN]at ih ⊢;rw[ih]
    |cons q qs=>
     rw[jN]at ih ⊢<;>first|(rw[<-ih];rfl)|simp
theorem G4{c:UInt8}:∀{s:By},c∉s->Lib.indexByte s c= -1
 |[],_=>rfl
 |x::r,h=>by
  unfold Lib.indexByte;have h1:(x==c)=false:=by simp;exactλe=>h (by simp[e])
  rw[h1,G4 (λhr=>h (aaH _ hr))];rfl
theorem C5{c:UInt8}{q:By}:∀{p:By},c∉p->Lib.indexByte (p++c::q) c=p.length
 |[],_=>by simp[Lib.indexByte]
 |x::r,h=>by
  have ih:=C5 (q:=q) (λhr=>h (aaH _ hr):c∉r);rw[abe,Lib.indexByte];have h1:(x==c)=false:=by simp;exactλe=>h (by simp[e])
  rw[h1,ih];have h2:((r.length:Int) == -1)=false:=Si
  rw[h2];simp
def wJ(c:UInt8)(s:By):(c∉s/\Lib.indexByte s c= -1)\/∃p q,c∉p/\s=p++c::q/\Lib.indexByte s c=p.length:=by
 by_cases h:c∈s
 ·right
  obtain⟨p,q,rfl,hp⟩:=List.eq_append_cons_of_mem h;exact⟨p,q,hp,rfl,C5 hp⟩
 ·exact .inl ⟨h,G4 h⟩
def Dk(s:By):Int:=s.foldl (λn c=>10*n+((c.toNat:Int)-48)) 0
def jh(s:By):Bool:=!decide (s.length=0)&&decide (s.length<=9) && !(decide (1<s.length)&&decide (s.head? =some 48))&&s.all fE
def sH(s:By):Bool:=!decide (s=[])&&s.all fE
def lF(s:By):Int:=if jh s then Dk s else 0
def Ft:Nat->Nat->By
 | 0,u=>[UInt8.ofNat (48+u)]
 |f+1,u=>
  match Nat.blt u 10 with
  |true=>[UInt8.ofNat (48+u)]
  |false=>Ft f (u / 10)++[UInt8.ofNat (48+u%10)]
theorem zI:∀(f u:Nat),u<10^(f+1)->Ft f u=Lib.decDigits u
 | 0,u,h=>by rw[Lib.decDigits,dif_pos (by simpa using h)];rfl
 |f+1,u,h=>by
  unfold Ft;cases hb:Nat.blt u 10 with
  |true=>rw[Lib.decDigits,dif_pos (by rw[Nat.blt_eq]at hb;exact hb)]
  |false=>
   have hn:¬u<10:=λx=>by rw[<-Nat.blt_eq,hb]at x;cases x
   rw[Lib.decDigits,dif_neg hn,zI f (u / 10) (by rw[Nat.pow_succ]at h;omega)]
def j6(n:Int):By:=Ft n.toNat n.toNat
def k5(n:Int):j6 n=Lib.decDigits n.toNat:=zI _ _ (Nat.lt_trans (Nat.lt_succ_self _) (Nat.lt_pow_self De))
def iY(s:By):Int:=s.foldl (λx c=>(339*x+(c.toNat:Int)).tmod 9999749) 1
def nV(s:By):By:=List.replicate (7-(j6 (iY s)).length) 48++j6 (iY s)
def xG(e:cY):List (By):=[j6 e.num,e.kind]++e.names++e.cw.map j6
def ji(e:cY):By:=jN 32 (xG e)
def vV(e:cY):By:=ji e++[35]++nV (ji e)++[10]
def wy(l:List cY):By:=(l.map vV).flatten
def bU:List (By)->Bool->By×List (By)×Bool
 |[],_=>([],[],true)
 |w::r,wr=>if w=[]then([],[],true)else(w,r,wr)
def dw:Nat->List (By)->Bool->List (By)×List (By)×Bool
 | 0,ws,b=>([],ws,b)
 |n+1,ws,b=>((bU ws b).1:: (dw n (bU ws b).2.1 (bU ws b).2.2).1,(dw n (bU ws b).2.1 (bU ws b).2.2).2)
def fR:Nat->List (By)->Bool->List Int×List (By)×Bool
 | 0,ws,b=>([],ws,b)
 |n+1,ws,b=>(lF (bU ws b).1:: (fR n (bU ws b).2.1 ((bU ws b).2.2 || !jh (bU ws b).1)).1,(fR n (bU ws b).2.1 ((bU ws b).2.2 || !jh (bU ws b).1)).2)
def lV:cY:=⟨0,[],[],[],[]⟩
def fe(ws:List (By)):cY×Bool:=
 match iH (bU ws false).1 with
 |none=>(lV,false)
 |some d=>
  let n:=dw (bN d).length (bU ws false).2.1 (bU ws false).2.2
  let v:=fR (cF d) n.2.1 n.2.2
  (⟨0,bu d,n.1,v.1,[]⟩,!v.2.2&&decide (v.2.1.length=0))
def fF(c:UInt8):By->By×By×Bool
 |[]=>([],[],false)
 |x::r=>if x=c then([],r,true)else(x:: (fF c r).1,(fF c r).2)
def gk(s:By)(n:Int):cY×Int:=
 if s.length<8 then(lV,25)else
 if s.getD (s.length-8) 0≠35\/¬sH (s.drop (s.length-7))=true then(lV,25)else
 if nV (s.take (s.length-8))≠s.drop (s.length-7)then(lV,27)else
 let h:=fF 32 (s.take (s.length-8))
 let e:=fe (bM 32 h.2.1)
 if !jh h.1 || !e.2||decide (eA {e.1 with num:=lF h.1}≠0)then(lV,25)else
 ({e.1 with num:=lF h.1},bW (decide (lF h.1≠n)) 11)
def rM:Nat->By->List cY->Nat->List cY×Int×Int
 | 0,_,l,a=>(l,(a:Int),0)
 |f+1,s,l,a=>
  if s=[]then(l,(a:Int),0)else
  if !(fF 10 s).2.2 then(l,(a:Int),28)else
  let e:=gk (fF 10 s).1 ((l.length:Int)+1)
  if e.2≠0 then(l,(a:Int),e.2)else rM f (fF 10 s).2.1 (l++[e.1]) (a+(fF 10 s).1.length+1)
def lT(s:By):List cY×Int×Int:=if 1000000<s.length then([],0,26)else rM (s.length+1) s [] 0
def lE(w:By):Option (Nat×Bool×Nat):=
 if w=[108,101,102,116]then some (0,true,4)else
 if w=[102,114,111,109]then some (1,true,5)else
 if w=[108,105,110,101,115]then some (2,true,3)else
 if w=[117,110,115,97,102,101]then some (3,false,2)else
 if w=[116,97,112,101,115]then some (4,true,2)else
 if w=[114,101,108,101,97,115,101,100]then some (5,false,5)else
 if w=[119,97,110,116]then some (6,true,0)else none
def sZ(l:List qM):List (By):=(l.map λp=>if p.rel then [p.name,j6 p.mi]else []).flatten
def k9(R:dM)(n:By):Nat->List (By)
 | 0=>(cZ (gX R n).bE 0).map j6
 | 1=>tG R n
 | 2=>(jl R n).map gN.name
 | 3=>fK R R.tick
 | 4=>(lQ R n).aE
 | 5=>sZ R.aJ
 |_=>[j6 (tJ R n).length,j6 (cC R n).want,if(cC R n).acc then [97,99,99,101,112,116,101,100]else [111,112,101,110]]
def yQ(l:List (By)):By:=if l=[]then [110,111,110,101]else jN 32 l
def nR(R:dM)(ws:List (By))(q:Nat×Bool×Nat):By×Int:=
 let n:=if q.2.1=true/\ws.length=2 then ws.getD 1 []else []
 if(q.2.1=true/\¬(ws.length=2/\n≠[]))\/(q.2.1=false/\ws.length≠1)then([],25)else
 if q.2.1=true/\dD R q.2.2 n=false then([],10)else(yQ (k9 R n q.1),0)
def AM(H:gO)(s:By):gO×By×Int:=
 if 4096<s.length then(H,[],26)else
 if s=[]then(H,[],25)else
 match lE ((bM 32 s).headD [])with
 |some q=>(H,nR H.now (bM 32 s) q)
 |none=>
  match iH ((bM 32 s).headD [])with
  |none=>(H,[],13)
  |some _=>
   if !(fe (bM 32 s)).2 then(H,[],25)else
   if 1000<=H.c9.length then(H,[],5)else
   let e:={ (fe (bM 32 s)).1 with num:=(H.c9.length:Int)+1}
   if dV H e≠0 then(H,[],dV H e)else(gy H e,[100,111,110,101,32]++j6 e.num,0)
structure DO(P:Program):Prop where
 ib:∀(args:Array Value) (w:World),(callFunc 288 args).run P w=((Extern.BytealgIndexByte.indexByte args).run P w).andThen λv w'=>.ok (.value v) w'
 ct:∀(args:Array Value) (w:World),(callFunc 262 args).run P w=((Extern.BytealgCount.count args).run P w).andThen λv w'=>.ok (.value v) w'
def BH(c:UInt8):(c.toNat:Int).toNat.toUInt8=c:=Si
def ry{s}{n:Nat}{kk}(hn:n<=s.length):vI (.str s) none (some (.int kk (n:Int)))=some (.str (s.take n)):=by
 simp only[vI,jt hn,abt,Nat.sub_zero]
def kP{s}{n:Nat}{kk}(hn:n<=s.length):vI (.str s) (some (.int kk (n:Int))) none=some (.str (s.drop n)):=by
 simp only[vI,mM hn];rw[aaM Si]
def uu{p r kk}:vI (.str (p++r)) none (some (.int kk (p.length:Int)))=some (.str p):=by
 rw[ry Si];simp
def n7{p r c kk}:vI (.str (p++c::r)) (some (.int kk ((p.length+1:Nat):Int))) none=some (.str r):=by
 rw[kP Si];simp
def zb{α:Type}{don:List α}{z q:α}{m k:Nat}(hk:don.length=k)(hm:0<m):(don++List.replicate m z).set k q=(don++[q])++List.replicate (m-1) z:=by
 subst hk;obtain⟨n,rfl⟩:∃n,m=n+1:=⟨m-1,Om⟩;rw[abE,aa1 _ _ (aah _),abb];simp
section
variable {P:Program}(X:DO P) {h:ah}
include X
def N9(s:By)(c:UInt8):bH P (.func (.func 288) [] []) [.str s,.int .u8 c.toNat] h (λv h'=>v=.int .i64 (Lib.indexByte s c)/\h' =h):=by
 refine⟨_,[],?_,rfl,Si⟩;rw[aaw];intro m w cv vs hr hf hargs;rw[VR]at hf;obtain⟨f',a',c',rfl,hfn,ha,hc⟩:=hf;simp only[Bm]at hfn;subst hfn;rw[bG]at ha hc;subst ha;subst hc;obtain⟨v1,vs1,rfl,h1,hargs⟩:=aV.1 hargs;obtain⟨v2,vs2,rfl,h2,hargs⟩:=aV.1 hargs;rw[bG]at hargs;subst hargs;have h1:v1=.string ⟨⟨s⟩⟩:=h1;have h2:v2=.int .u8 (c.toNat:Int):=h2;subst h1;subst h2;refine⟨_,λw=>rfl,?_⟩;simp only[invoke];rw[X.ib];have e:=Lib.run_indexByteString (P:=P) ⟨⟨s⟩⟩ (c.toNat:Int) w;rw[BH]at e;have e':(Extern.BytealgIndexByte.indexByte (#[]++#[.string ⟨⟨s⟩⟩,.int .u8 (c.toNat:Int)]++#[])).run P w=.ok (.int .i64 (Lib.indexByte s c)) w:=by simpa using e
 exact Rq
def Oa(s:By)(c:UInt8):bH P (.func (.func 262) [] []) [.str s,.int .u8 c.toNat] h (λv h'=>v=.int .i64 (s.count c:Nat)/\h' =h):=by
 refine⟨_,[],?_,rfl,Si⟩;rw[aaw];intro m w cv vs hr hf hargs;rw[VR]at hf;obtain⟨f',a',c',rfl,hfn,ha,hc⟩:=hf;simp only[Bm]at hfn;subst hfn;rw[bG]at ha hc;subst ha;subst hc;obtain⟨v1,vs1,rfl,h1,hargs⟩:=aV.1 hargs;obtain⟨v2,vs2,rfl,h2,hargs⟩:=aV.1 hargs;rw[bG]at hargs;subst hargs;have h1:v1=.string ⟨⟨s⟩⟩:=h1;have h2:v2=.int .u8 (c.toNat:Int):=h2;subst h1;subst h2;refine⟨_,λw=>rfl,?_⟩;simp only[invoke];rw[X.ct];have e:=Lib.run_countString (P:=P) ⟨⟨s⟩⟩ (c.toNat:Int) w;rw[BH]at e;have e':(Extern.BytealgCount.count (#[]++#[.string ⟨⟨s⟩⟩,.int .u8 (c.toNat:Int)]++#[])).run P w=.ok (.int .i64 (s.count c:Nat)) w:=by simpa [Lib.countByte]using e
 exact Rq
end
attribute [local irreducible] WP WC WE WB WR WF WL WG fX
section
variable {P:Program}(T:fq P) (X:DO P) {h:ah}
include T X
def r272(s:By)(c:UInt8):ay P 272 [.str s,.int .u8 c.toNat] h (λv _=>v=.int .i64 (Lib.indexByte s c)):=by
 refine .of T.mix T.c272 ?_;unfold fn272 Lm;refine Wn ?_;refine WF.val (N9 X s c) ?_;rintro _ g ⟨rfl,hg⟩;exact Wn Tv
def r221(s:By)(c:UInt8):ay P 221 [.str s,.str [c]] h (λv _=>v=.int .i64 (s.count c:Nat)):=by
 refine .of T.mix T.c221 ?_;unfold fn221 gA;simp only[aO,aT,aZ,a8,reduceAdd,reduceMul,reduceLeDiff,reduceEqDiff,aau,show decide (((1:Nat):Int)=0)=false from rfl,show decide (((1:Nat):Int)=1)=true from rfl,wG];refine WF.val (Oa X s c) ?_;rintro _ g ⟨rfl,hg⟩;exact Wn Tv
def r253(s:By)(c:UInt8):ay P 253 [.str s,.str [c]] h (λv _=>v=.int .i64 (Lib.indexByte s c)):=by
 refine .of T.mix T.c253 ?_;unfold fn253 gA;by_cases hs:[c]=s
 ·have d1:decide ([c]=s)=true:=Z8 hs;have e:Lib.indexByte s c=0:=by rw[<-hs];simp[Lib.indexByte]
  simp only[aO,aT,aZ,a8,reduceAdd,reduceMul,reduceLeDiff,reduceEqDiff,aau,show decide (((1:Nat):Int)=0)=false from rfl,d1,e]
 ·have d1:decide ([c]=s)=false:=Z3 hs;simp only[aO,aT,aZ,a8,reduceAdd,reduceMul,reduceLeDiff,reduceEqDiff,aau,show decide (((1:Nat):Int)=0)=false from rfl,show decide (((1:Nat):Int)=1)=true from rfl,d1,wG];refine WF.ce T.c272 (r272 T X s c) λg=>?_
  exact Wn Tv
def r222(s:By)(c:UInt8):ay P 222 [.str s,.str [c]] h (λv _=>v=.int .i64 (Lib.indexByte s c)):=by
 refine .of T.mix T.c222 ?_;unfold fn222 gA;refine Wn ?_;refine WF.ce T.c253 (r253 T X s c) λg=>?_
 exact Wn Tv
set_option maxRecDepth 10000 in
def r128(s:By)(c:UInt8)(hs:s.length<=2^40):ay P 128 [.str s,.str [c],.int .i64 0,.int .i64 (-1)] h (λv h'=>aI h' v 1 ((bM c s).map aq)):=by
 refine .of T.mix T.c128 ?_;obtain⟨ts,SH⟩:∃ts,ts=aW 66 [.str s,.str [c],.int .i64 0,.int .i64 (-1)]:=⟨_,rfl⟩;have hlen:ts.length=66:=by rw[SH];rfl
 have t0:slot ts 0=.str s:=by rw[SH];rfl
 have t1:slot ts 1=.str [c]:=by rw[SH];rfl
 have t2:slot ts 2=.int .i64 0:=by rw[SH];rfl
 have t3:slot ts 3=.int .i64 (-1):=by rw[SH];rfl
 unfold fn128 gA;show WC P bJ _ [] (aW 66 [.str s,.str [c],.int .i64 0,.int .i64 (-1)]) h _;rw[<-SH];clear SH;have hcnt:s.count c<=s.length:=List.count_le_length;have w1:IntKind.i64.wrap ((s.count c:Int)+1)=((s.count c+1:Nat):Int):=by rw[bD Om Om];omega
 have w2:IntKind.i64.wrap ((s.length:Int)+1)=((s.length+1:Nat):Int):=by rw[bD Om Om];omega
 have e1:min ((s.count c+1:Nat):Int) ((s.length+1:Nat):Int)=((s.count c+1:Nat):Int):=Om
 have w3:IntKind.i64.wrap (((s.count c+1:Nat):Int)-1)=((s.count c:Nat):Int):=by rw[bD Om Om];omega
 have dn:decide ([c]=([] :By))=false:=Z3 Si;have d1:decide ((-1:Int)=0)=false:=rfl;have d2:decide (-1<(0:Int))=true:=rfl;refine Rs (A7 t0 t1 t2 t3 @dn @d1 @d2) ?_;refine WF.ce T.c221 (r221 T X s c) λg1=>?_
 repeat (first|simp (config:={maxSteps:=1000000}) only[aO,aT,aZ,a8,reduceAdd,reduceMul,reduceLeDiff,reduceEqDiff,bd,hlen,aal,aan,t0,t1,t2,t3,w1,w2,e1,w3,oM (es:=1) (w:=16) (N0:=(h++g1).length) (n:=s.count c+1) (z:=[AV.str []]) (k:=.i64) (k':=.i64) Om Om]|simp (config:={maxSteps:=1000000}) (disch:=first|(simp only[Z1,Z5,Z9]<;>omega)|rfl|omega|fail) only[dX,aO,aT,aZ,a8,reduceAdd,reduceMul,reduceLeDiff,reduceEqDiff,bd,hlen,aal,aan,t0,t1,t2,t3,w1,w2,e1,w3,oM (es:=1) (w:=16) (N0:=(h++g1).length) (n:=s.count c+1) (z:=[AV.str []]) (k:=.i64) (k':=.i64) Om Om])
 have hF:=Fr.Bz (N:=h.length) (n:=s.count c+1) (h:=h++g1) (z:=[AV.str []]) (es:=1) Si rfl;obtain⟨sv,hsv⟩:∃sv,sv=AV.slice (h++g1).length 0 (s.count c+1) 1:=⟨_,rfl⟩;rw[<-hsv]at hF ⊢;have er:List.replicate (s.count c+1) [AV.str []]=(List.replicate (s.count c+1) ([] :By)).map aq:=by simp[aq]
 rw[er,Z4]at hF;rw[Z4];refine WL.inv T.mix (λn ts' h'=>∃(k:Nat) (don:List (By)) (q:By) (g':ah),don.length=k/\bM c s=don++bM c q/\k+q.count c=s.count c/\n=s.count c-k/\h' =h++g'/\Fr h.length h' sv 1 ((don++List.replicate (s.count c+1-k) ([] :By)).map aq)/\ts'.length=66/\slot ts' 0=.str q/\slot ts' 1=.str [c]/\slot ts' 2=.int .i64 0/\slot ts' 3=.int .i64 ((s.count c:Nat):Int)/\slot ts' 9=sv/\slot ts' 10=.int .i64 k) (s.count c)
  ⟨0,[],s,_,rfl,rfl,Om,rfl,rfl,hF,(Sq t0),(Sq t0),(Sq t1),(Sq t2),(Sq t0),(Sq t0),ga⟩ ?_
 rintro _ ts' _ ⟨k,don,q,g',hdl,Wf,hkc,rfl,rfl,hF',T7,u0,u1,u2,u3,u9,Y9⟩;clear hlen t0 t1 t2 t3;have hlen:=T7;have XK:k<(don++List.replicate (s.count c+1-k) ([] :By)).length:=by simp;omega
 have hql:q.length<=s.length:=by
  have e1:=j5 (c:=c) (s:=s);have:∀(d:List (By)) (z:List (By)),(jN c z).length<=(jN c (d++z)).length:=by
   intro d
   induction d with
   |nil=>intro z;exact aah _
   |cons x d ih=>
    intro z;by_cases hz:d++z=[]
    ·have:z=[]:=by simp at hz;exact hz.2
     subst this;simp[jN]
    ·rw[abe,nL hz];have:=ih z;simp;omega
  have:=this don (bM c q);rw[<-Wf,j5,j5]at this;exact this
 rcases wJ c q with⟨hno,hix⟩|⟨p,q',hp,hq,hix⟩
 ·have hc0:q.count c=0:=List.count_eq_zero.2 hno;have e3:¬(k:Int)<((s.count c:Nat):Int):=Om
  have ek:s.count c+1-k=1:=Om
  have ixk:=hF'.aY.c6 (kk:=.i64) XK;have w4:IntKind.i64.wrap ((k:Int)+1)=((k+1:Nat):Int):=by rw[bD Om Om];omega
  refine Rs (A9 @u0 @u1 @u2 @u3 @u9 @Y9 e3 @aaz @ixk) ?_;refine WR.vX (h0:=h) (off:=0) (x':=q) hF' XK De rfl (by simp[aq]) ?_;intro g3 ZG YV _;rw[zb hdl Om,ek]at YV;simp only[abb,acy,aaw]at YV;have esp:don++[q]=bM c s:=by rw[Wf,tA hno]
  rw[esp]at YV;have U6:ju none (some (AV.int .i64 ((k+1:Nat):Int))) (bM c s).length=some (0,k+1):=jt (by rw[<-esp];simp;omega);obtain⟨s',es',SI⟩:=YV.aY.Eg U6;refine Rs (A8 @u0 @u1 @u2 @u3 @u9 @Y9 @w4 @es') ?_;have et:List.take (k+1-0) (List.drop 0 (bM c s))=bM c s:=by
   rw[abt,aaM (by rw[<-esp];simp;omega)]
  rw[et]at SI;exact SI
 ·have hcq:q.count c=q'.count c+1:=by rw[hq,List.count_append,List.count_eq_zero.2 hp,List.count_cons_self];omega
  have e3:(k:Int)<((s.count c:Nat):Int):=Om
  refine Rs (A8 @u0 @u1 @u2 @u3 @u9 @Y9 e3 @aaq) ?_;refine WF.ce T.c222 (r222 T X q c) λg2=>?_
  have ixk:=(hF'.app g2).aY.c6 (kk:=.i64) XK;have w4:IntKind.i64.wrap ((k:Int)+1)=((k+1:Nat):Int):=by rw[bD Om Om];omega
  have VW:p.length<q.length:=by rw[hq];simp
  have w5:IntKind.i64.wrap ((p.length:Int)+0)=(p.length:Int):=by rw[bD Om Om];omega
  have w6:IntKind.i64.wrap ((p.length:Int)+((1:Nat):Int))=((p.length+1:Nat):Int):=by rw[bD Om Om];omega
  have dp:decide ((p.length:Int)<0)=false:=Z3 Om;have hF2:=hF'.app g2;rw[Z4]at hF2 ⊢;rw[hix];subst hq
  repeat (first|simp (config:={maxSteps:=1000000}) only[aO,aT,aZ,a8,reduceAdd,reduceMul,reduceLeDiff,reduceEqDiff,bd,hlen,aal,aan,u0,u1,u2,u3,u9,Y9,dp,w5,ixk,uu,aau,w6,n7]|simp (config:={maxSteps:=1000000}) (disch:=first|(simp only[Z1,Z5,Z9]<;>omega)|rfl|omega|fail) only[dX,aO,aT,aZ,a8,reduceAdd,reduceMul,reduceLeDiff,reduceEqDiff,bd,hlen,aal,aan,u0,u1,u2,u3,u9,Y9,dp,w5,ixk,uu,aau,w6,n7])
  refine WR.vX (h0:=h) (off:=0) (x':=p) hF2 XK De rfl (by simp[aq]) ?_;intro g3 ZG YV _;rw[zb hdl Om]at YV
  repeat (first|simp (config:={maxSteps:=1000000}) only[aO,aT,aZ,a8,reduceAdd,reduceMul,reduceLeDiff,reduceEqDiff,bd,hlen,aal,aan,u0,u1,u2,u3,u9,Y9,aau,w6,n7,w4]|simp (config:={maxSteps:=1000000}) (disch:=first|(simp only[Z1,Z5,Z9]<;>omega)|rfl|omega|fail) only[dX,aO,aT,aZ,a8,reduceAdd,reduceMul,reduceLeDiff,reduceEqDiff,bd,hlen,aal,aan,u0,u1,u2,u3,u9,Y9,aau,w6,n7,w4])
  have em:s.count c+1-k-1=s.count c+1-(k+1):=Om
  rw[em]at YV;exact⟨s.count c-(k+1),Om,k+1,don++[p],q',g3,by simp[hdl],by rw[Wf,rv hp];simp,Om,rfl,rfl,YV,rfl,rfl⟩
def r64(s:By)(c:UInt8)(hs:s.length<=2^40):ay P 64 [.str s,.str [c]] h (λv h'=>aI h' v 1 ((bM c s).map aq)):=by
 refine .of T.mix T.c64 ?_;unfold fn64 gA;refine Wn ?_;refine WF.res T.c128 (r128 T X s c hs) ?_;intro v g hv;refine Wn ?_;exact hv
omit T X in
theorem zJ{c}:∀{s},c∉s->fF c s=(s,[],false)
 |[],_=>rfl
 |x::r,h=>by
  simp only[aaJ,not_or]at h;rw[fF,aab (λe=>h.1 e.symm),zJ h.2]
omit T X in
theorem xD{c}:∀{p q},c∉p->fF c (p++c::q)=(p,q,true)
 |[],q,_=>by rw[abI,fF,aai rfl]
 |x::r,q,h=>by
  simp only[aaJ,not_or]at h;rw[abe,fF,aab (λe=>h.1 e.symm),xD h.2]
def r188(s:By)(c:UInt8)(hs:s.length<=2^40):ay P 188 [.str s,.str [c]] h (λv _=>v=.dW [.str (fF c s).1,.str (fF c s).2.1,.bool (fF c s).2.2]):=by
 refine .of T.mix T.c188 ?_;unfold fn188 gA;refine Wn ?_;refine WF.ce T.c253 (r253 T X s c) λg=>?_
 rcases wJ c s with⟨hno,hix⟩|⟨p,q,hp,hq,hix⟩
 ·refine Ws (A2 @hix (show decide ((0:Int)<=-1)=false from rfl)) ?_;rw[zJ hno]
 ·have d1:decide ((0:Int)<=(p.length:Int))=true:=Z8 Om;have VW:p.length<s.length:=by rw[hq];simp
  have w6:IntKind.i64.wrap ((p.length:Int)+((1:Nat):Int))=((p.length+1:Nat):Int):=by rw[bD Om Om];omega
  rw[hix];subst hq;simp only[aO,aT,aZ,a8,reduceAdd,reduceMul,reduceLeDiff,reduceEqDiff,d1,aau,w6,uu,n7];rw[xD hp]
def r98(s:By)(c:UInt8)(hs:s.length<=2^40):ay P 98 [.str s,.str [c]] h (λv _=>v=.dW [.str (fF c s).1,.str (fF c s).2.1,.bool (fF c s).2.2]):=by
 refine .of T.mix T.c98 ?_;unfold fn98 gA;refine Wn ?_;refine WF.ce T.c188 (r188 T X s c hs) λg=>?_
 exact Wn Tv
end
def Pw(h:ah):Prop:=∃mu tl,h[2]? =some (.cells (Lib.pow10Tab.map (AV.int .u64)) mu tl)
def Pw.ext{h k}(o:Pw h)(e:Ext h k):Pw k:=by
 obtain⟨mu,tl,hb⟩:=o;exact⟨mu,tl,e.some hb⟩
structure qQ(P:Program):Prop where
 itoa:∀{h:ah}{n:Int},-9223372036854775808<=n->n<=9223372036854775807->Pw h->ay P 113 [.i n] h (λv _=>v=.str (Lib.itoa n))
 join:∀{h:ah}{s:AV}{sep:By}{xs:List (By)},aI h s 1 (xs.map aq)->(Lib.join xs sep).length<=140737488355328/\xs.length<=140737488355328->ay P 114 [s,.str sep] h (λv _=>v=.str (Lib.join xs sep))
 atoi:∀{h:ah}{s:By},s.all fE=true->s≠[]->s.length<=9->ay P 254 [.str s] h (λv _=>v=.dW [.i (Dk s),.kS])
 rep:∀{h:ah}{n:Nat},n<=7->ay P 252 [.str [48],.i (n:Nat)] h (λv _=>v=.str (List.replicate n 48))
def gY{n}(h:0<=n):Lib.itoa n=j6 n:=by rw[k5];unfold Lib.itoa;rw[aab Om]
theorem mI:∀{k u},u<10^(k+1)->(Lib.decDigits u).length<=k+1
 | 0,u,h=>by rw[Lib.decDigits,dif_pos (by simpa using h)];simp
 |k+1,u,h=>by
  by_cases hu:u<10
  ·rw[Lib.decDigits,dif_pos hu];simp
  ·rw[Lib.decDigits,dif_neg hu,Z1];have:=mI (k:=k) (u:=u / 10) (by rw[Nat.pow_succ]at h;omega);simp;omega
def kZ{c}:fE c=true↔48<=c.toNat/\c.toNat<=57:=by simp[fE]
def nB{α:Type}{s:List α}{k:Nat}(hk:k<s.length):s.take (k+1)=s.take k++[s[k]]:=by
 rw[aaO,Z6 hk];rfl
def iD(sw:AV)(wr:Bool):ak:=.b [sw,.bool wr]
section
variable {P:Program}(T:fq P) {h A B:ah}
include T
set_option maxRecDepth 10000 in
def r189(s:By)(hs:s.length<=2^40):ay P 189 [.str s] h (λv _=>v=.bool (sH s)):=by
 refine .kM 18 T.mix T.c189 ?_;intro ts hlen t0;unfold fn189 gA;refine Rs t0 ?_;refine WL.inv T.mix (λn ts' h'=>∃k:Nat,k<=s.length/\n=s.length-k/\h' =h++[.iter s k]/\(s.take k).all fE=true/\ts'.length=18/\slot ts' 0=.str s/\slot ts' 6=.ptr h.length 0) s.length
  ⟨0,Om,rfl,rfl,rfl,(Sq t0),(Sq t0),(Sq t0)⟩ ?_
 rintro _ ts' _ ⟨k,hk,rfl,rfl,hd,T7,u0,u6⟩;clear hlen t0;have hlen:=T7;by_cases hlt:k<s.length
 ·obtain⟨c,w,Vd,hcw⟩:∃c w,Utf8.decode ⟨⟨s⟩⟩ k=(c,w)/\(c=s[k].toNat/\w=1/\s[k].toNat<128\/128<=c/\128<=s[k].toNat):=by
   by_cases hc:s[k].toNat<128
   ·exact⟨_,_,dec_lt hlt hc,.inl ⟨rfl,rfl,hc⟩⟩
   ·exact z201
  have hall:fE s[k]=false->AV.bool false=AV.bool (sH s):=λhx=>by
   have:s.all fE=false:=by rw[List.all_eq_false];exact⟨s[k],aad hlt,by simp[hx]⟩
   simp only[sH,this,Bool.and_false]
  by_cases a5:(48:Int)<=c
  ·by_cases a6:(c:Int)<=57
   ·have hc:c=s[k].toNat/\w=1:=Om
    obtain⟨rfl,rfl⟩:=hc;have hy:fE s[k]=true:=kZ.2 Om;have d1:decide ((s[k].toNat:Int)<48)=false:=Z3 Om;have d2:decide ((57:Int)<(s[k].toNat:Int))=false:=Z3 Om
    repeat (first|simp (config:={maxSteps:=1000000}) only[aO,aT,aZ,a8,reduceAdd,reduceMul,reduceLeDiff,reduceEqDiff,bd,hlen,aal,aan,u0,u6,eM,hlt,aan,Vd,d1,d2]|simp (config:={maxSteps:=1000000}) (disch:=first|(simp only[Z1,Z5,Z9]<;>omega)|rfl|omega|fail) only[dX,aO,aT,aZ,a8,reduceAdd,reduceMul,reduceLeDiff,reduceEqDiff,bd,hlen,aal,aan,u0,u6,eM,hlt,aan,Vd,d1,d2])
    refine⟨s.length-(k+1),Om,k+1,Om,rfl,rfl,?_,trivial⟩;rw[nB hlt,List.all_append,hd];simp[hy]
   ·have d1:decide ((c:Int)<48)=false:=Z3 Om;have d2:decide ((57:Int)<(c:Int))=true:=Z8 Om
    repeat (first|simp (config:={maxSteps:=1000000}) only[aO,aT,aZ,a8,reduceAdd,reduceMul,reduceLeDiff,reduceEqDiff,bd,hlen,aal,aan,u0,u6,eM,hlt,aan,Vd,d1,d2]|simp (config:={maxSteps:=1000000}) (disch:=first|(simp only[Z1,Z5,Z9]<;>omega)|rfl|omega|fail) only[dX,aO,aT,aZ,a8,reduceAdd,reduceMul,reduceLeDiff,reduceEqDiff,bd,hlen,aal,aan,u0,u6,eM,hlt,aan,Vd,d1,d2])
    exact KO
  ·have d1:decide ((c:Int)<48)=true:=Z8 Om
   repeat (first|simp (config:={maxSteps:=1000000}) only[aO,aT,aZ,a8,reduceAdd,reduceMul,reduceLeDiff,reduceEqDiff,bd,hlen,aal,aan,u0,u6,eM,hlt,aan,Vd,d1]|simp (config:={maxSteps:=1000000}) (disch:=first|(simp only[Z1,Z5,Z9]<;>omega)|rfl|omega|fail) only[dX,aO,aT,aZ,a8,reduceAdd,reduceMul,reduceLeDiff,reduceEqDiff,bd,hlen,aal,aan,u0,u6,eM,hlt,aan,Vd,d1])
   exact KO
 ·have ek:k=s.length:=Om
  rw[ek,aaI]at hd
  repeat (first|simp (config:={maxSteps:=1000000}) only[aO,aT,aZ,a8,reduceAdd,reduceMul,reduceLeDiff,reduceEqDiff,bd,hlen,aal,aan,u0,u6,eM,hlt,aal]|simp (config:={maxSteps:=1000000}) (disch:=first|(simp only[Z1,Z5,Z9]<;>omega)|rfl|omega|fail) only[dX,aO,aT,aZ,a8,reduceAdd,reduceMul,reduceLeDiff,reduceEqDiff,bd,hlen,aal,aan,u0,u6,eM,hlt,aal])
  simp only[sH,hd,Bool.and_true,decide_not]
omit T in
theorem AO{s}:jh s=(sH s&&decide (s.length<=9) && !(decide (1<s.length)&&decide (s.head? =some 48))):=by
 unfold jh sH;cases s with
 |nil=>rfl
 |cons x r=>cases (x::r).all fE<;>cases decide ((x::r).length<=9)<;>simp
set_option maxRecDepth 10000 in
def r190(Z:qQ P)(s:By)(hs:s.length<=2^40):ay P 190 [.str s] h (λv _=>v=.dW [.i (lF s),.bool (jh s)]):=by
 refine .kM 30 T.mix T.c190 ?_;intro ts hlen t0;unfold fn190 gA;refine Rs t0 ?_;refine WF.ce T.c189 (r189 T s hs) λg=>?_
 have bad:jh s=false->AV.dW [.i 0,.bool false]=AV.dW [.i (lF s),.bool (jh s)]:=λhb=>by unfold lF;rw[hb];rfl
 have e0:=AO (s:=s);cases hd:sH s with
 |false=>
  rw[hd]at e0;refine Rs (A3 t0 @hd @aay) ?_;exact bad (by rw[e0];rfl)
 |true=>
  rw[hd]at e0;have Tn:=hd;unfold sH at Tn;simp only[aaD,abr,abl]at Tn;by_cases h9:9<s.length
  ·have d9:decide ((9:Int)<s.length)=true:=Z8 Om;have q9:decide (s.length<=9)=false:=Z3 Om;rw[q9]at e0;refine Rs (A4 t0 @hd @aar @d9) ?_;exact bad (by rw[e0];rfl)
  ·have d9:decide ((9:Int)<s.length)=false:=Z3 Om;have q9:decide (s.length<=9)=true:=Z8 Om;rw[q9]at e0;obtain⟨c,r,rfl⟩:∃c r,s=c::r:=by cases s with|nil=>exact absurd rfl Tn.1|cons c r=>exact⟨c,r,rfl⟩
   by_cases h1:1<(c::r).length
   ·have d1:decide ((1:Int)<((c::r).length:Int))=true:=Z8 Om;have q1:decide (1<(c::r).length)=true:=Z8 h1;rw[q1]at e0;by_cases h2:c=48
    ·have d2:decide ((c.toNat:Int)=48)=true:=by rw[h2];rfl
     have q2:decide ((c::r).head? =some 48)=true:=by rw[h2];rfl
     rw[q2]at e0;refine Rs (A7 t0 @hd @aar @d9 @d1 @wG @d2) ?_;exact bad (by rw[e0];rfl)
    ·have d2:decide ((c.toNat:Int)=48)=false:=Z3 λe=>h2 (UInt8.toNat_inj.1 (by simpa using (by omega:c.toNat=48)))
     have q2:decide ((c::r).head? =some 48)=false:=Z3 (by simp[h2]);rw[q2]at e0;have e1:jh (c::r)=true:=by rw[e0];rfl
     refine Rs (A7 t0 @hd @aar @d9 @d1 @wG @d2) ?_;exact z130
   ·have d1:decide ((1:Int)<((c::r).length:Int))=false:=Z3 Om;have q1:decide (1<(c::r).length)=false:=Z3 h1;rw[q1]at e0;have e1:jh (c::r)=true:=by rw[e0];rfl
    refine Rs (A5 t0 @hd @aar @d9 @d1) ?_;exact z130
set_option maxRecDepth 10000 in
def IU{sw ws wr}(hs:aI A sw 1 (ws.map aq)):
  dA P 207 [.ptr A.length 0] (A++[iD sw wr]++B) (λv h'=>∃sw',v=.str (bU ws wr).1/\h' =A++[iD sw' (bU ws wr).2.2]++B/\aI A sw' 1 ((bU ws wr).2.1.map aq)):=by
 refine .of T.mix T.c207 ?_;obtain⟨ts,SH⟩:∃ts,ts=aW 40 [.ptr A.length 0]:=⟨_,rfl⟩;have hlen:ts.length=40:=by rw[SH];rfl
 have t0:slot ts 0=.ptr A.length 0:=by rw[SH];rfl
 unfold fn207 gA;show WC P bJ _ [] (aW 40 [.ptr A.length 0]) (A++[iD sw wr]++B) _;rw[<-SH];clear SH;unfold iD;have c0:=hs.one;have hsE:∀{k:ah},aI (A++k) sw 1 (ws.map aq):=λ{k}=>hs.ext ⟨k,rfl⟩
 cases ws with
 |nil=>
  have d0:decide ((([] :List (By)).length:Int)=0)=true:=rfl;refine Rs (A4 t0 hs.aH @d0 @c0) ?_;exact⟨.af,by rw[bU];exact⟨rfl,rfl,aI.nil⟩⟩
 |cons w r=>
  have d0:decide (((w::r).length:Int)=0)=false:=Z3 (by simp;omega);have ix:=hs.qP (kk:=.i64) Si;have ld:∀{k:ah},Ext A k->ao none (cI sw 1 0) (λb=>k[b]?)=some (.str w,.ar):=λ{k} e=>hs.lC (i:=0) Si rfl e
  by_cases hw:w=[]
  ·have d1:decide (w=[])=true:=Z8 hw;refine Rs (A7 t0 hs.aH @d0 ix @ld @d1 @c0) ?_;exact⟨.af,by rw[bU,aai hw];exact⟨rfl,rfl,aI.nil⟩⟩
  ·have d1:decide (w=[])=false:=Z3 hw;have U6:ju (some (AV.i 1)) none (w::r).length=some (1,(w::r).length):=mM (k:=1) Si;obtain⟨s',es',SI⟩:=hs.Eg U6;have et:List.take ((w::r).length-1) (List.drop 1 (w::r))=r:=Si
   rw[et]at SI;refine Rs (A9 t0 hs.aH @d0 ix @ld @d1 @c0 @es' SI.one) ?_;exact⟨s',by rw[bU,aab hw];exact⟨rfl,rfl,SI⟩⟩
set_option maxRecDepth 10000 in
def PV(Z:qQ P){sw ws wr}(hs:aI A sw 1 (ws.map aq))(hl:∀x∈ws,x.length<=2^40):
  dA P 208 [.ptr A.length 0] (A++[iD sw wr]++B) (λv h'=>∃(sw':AV) (g:ah),v=.i (lF (bU ws wr).1)/\h' =A++[iD sw' ((bU ws wr).2.2 || !jh (bU ws wr).1)]++(B++g)/\aI A sw' 1 ((bU ws wr).2.1.map aq)):=by
 refine .of T.mix T.c208 ?_;obtain⟨ts,SH⟩:∃ts,ts=aW 23 [.ptr A.length 0]:=⟨_,rfl⟩;have hlen:ts.length=23:=by rw[SH];rfl
 have t0:slot ts 0=.ptr A.length 0:=by rw[SH];rfl
 unfold fn208 gA;show WC P bJ _ [] (aW 23 [.ptr A.length 0]) (A++[iD sw wr]++B) _;rw[<-SH];clear SH;refine Rs t0 ?_;refine WF.gen T.c207 (IU T hs) ?_;rintro _ _ ⟨sw',rfl,rfl,SI⟩;have hwl:(bU ws wr).1.length<=2^40:=by
  cases ws with
  |nil=>simp[bU]
  |cons w r=>
   by_cases hw:w=[]
   ·rw[bU,aai hw];simp
   ·rw[bU,aab hw];exact hl w Si
 generalize (bU ws wr).1=w at hwl ⊢;generalize (bU ws wr).2.2=wr' at SI ⊢;generalize (bU ws wr).2.1=ws' at SI ⊢;refine Rs t0 ?_;refine WF.ce T.c190 (r190 T Z w hwl) λg=>?_
 unfold iD;have c0:=SI.one;cases wr' with
 |true=>
  refine Rs (A3 t0 @c0 @Bool.true_or) ?_;exact⟨sw',g,by rw[Z4],SI⟩
 |false=>
  refine Rs (A3 t0 @c0 @acf) ?_;exact⟨sw',g,by rw[Z4],SI⟩
end
def uM{α:Type}{p:α->Bool}{L:List α}{k:Nat}(hlt:k<L.length)(hi:L.findIdx? p=((L.drop k).findIdx? p).map (· +k)):(p L[k]=true->cV p L=(k:Int))/\(p L[k]=false->L.findIdx? p=((L.drop (k+1)).findIdx? p).map (· +(k+1))):=by
 have hd:L.drop k=L[k]::L.drop (k+1):=Si
 rw[hd,acj]at hi;constructor
 ·intro hp;rw[hp]at hi;rw[cV,hi];simp
 ·intro hp;rw[hp]at hi;rw[hi];exact RE
def w9{α:Type}{p:α->Bool}{L:List α}(hi:L.findIdx? p=((L.drop L.length).findIdx? p).map (· +L.length)):cV p L= -1:=by
 rw[aa2]at hi;rw[cV,hi];rfl
set_option maxRecDepth 10000
section
variable {P:Program}(T:fq P) {h:ah}
include T
def r20(n lo hi:Int):ay P 20 [.i n,.i lo,.i hi] h (λv _=>v=.bool (decide (bj n lo hi≠0))):=by
 refine .nC 15 T.mix T.c20 ?_;intro ts hlen t0 t1 t2;unfold fn20 gA;by_cases h1:n<lo
 ·have q1:decide (n<lo)=true:=Z8 h1;refine Rs (A4 t0 t1 t2 q1) ?_;rw[bj,aai (.inl h1)];rfl
 ·have q1:decide (n<lo)=false:=Z3 h1;by_cases h2:hi<n
  ·have q2:decide (hi<n)=true:=Z8 h2;refine Rs (A5 t0 t1 t2 q1 q2) ?_;rw[bj,aai (.inr h2)];rfl
  ·have q2:decide (hi<n)=false:=Z3 h2;refine Rs (A5 t0 t1 t2 q1 q2) ?_;rw[bj,aab Om];rfl
def r35{L:List (By)}{s:AV}(hs:aI h s 1 (L.map aq))(hl:L.length<2^40)(n:By):ay P 35 [s,.str n] h (λv _=>v=.bool (decide (n∈L))):=by
 refine .eX 18 T.mix T.c35 ?_;intro ts hlen t0 t1;unfold fn35 gA;refine Rs (A2 t0 t1) ?_;refine WL.inv T.mix (λm ts h'=>∃k:Nat,k<=L.length/\m=L.length-k/\h' =h/\(n∈L↔n∈L.drop k)/\ts.length=18/\slot ts 0=s/\slot ts 1=.str n/\slot ts 5=.i k) L.length
  ⟨0,Om,rfl,rfl,Iff.rfl,Sn,(Sq t0),(Sq t1),ga⟩ ?_
 rintro _ ts _ ⟨k,hk,rfl,rfl,hi,hlen,t0,t1,t5⟩;by_cases hlt:k<L.length
 ·have hd:L.drop k=L[k]::L.drop (k+1):=Si
  rw[hd,aaJ]at hi;have e3:=dN hlt;have ix:=hs.c6 (kk:=.i64) hlt;have ld:=hs.lC (i:=k) (x:=.str L[k]) hlt rfl (Ext.refl _);have e5:=wrapN (n:=k) Om;by_cases hp:L[k]=n
  ·have q:decide (L[k]=n)=true:=Z8 hp;refine Rs (A8 t0 t1 t5 e3 hs.aH ix @ld q) ?_;exact aax AV.bool (Z8 (hi.2 (.inl hp.symm))).symm
  ·have q:decide (L[k]=n)=false:=Z3 hp;refine Rs (A9 t0 t1 t5 e3 hs.aH ix @ld q e5) ?_;exact⟨_,Om,k+1,Om,rfl,⟨λz=>(hi.1 z).resolve_left λe=>hp e.symm,λz=>hi.2 (.inr z)⟩,rfl⟩
 ·have e3:=eF hlt;have e4:k=L.length:=Om
  refine Rs (A5 t0 t1 t5 e3 hs.aH) ?_;rw[e4,aa2]at hi;exact aax AV.bool (Z3 (λz=>by simpa using hi.1 z)).symm
def r25{L M:List (By)}{s t:AV}(hs:aI h s 1 (L.map aq))(ht:aI h t 1 (M.map aq))(hl:L.length<2^40)(hm:M.length<2^40):ay P 25 [s,t] h (λv _=>v=.bool (decide (L=M))):=by
 refine .eX 26 T.mix T.c25 ?_;intro ts hlen t0 t1;unfold fn25 gA;by_cases h1:L.length=M.length
 case neg=>
  exact Rj
 have q:decide ((L.length:Int)≠M.length)=false:=Z3 Om;refine Rs (A5 t0 t1 hs.aH ht.aH q) ?_;refine WL.inv T.mix (λm ts h'=>∃k:Nat,k<=L.length/\m=L.length-k/\h' =h/\L.take k=M.take k/\ts.length=26/\slot ts 0=s/\slot ts 1=t/\slot ts 5=.i k) L.length
  ⟨0,Om,rfl,rfl,rfl,Sn,(Sq t0),(Sq t1),ga⟩ ?_
 rintro _ ts h' ⟨k,hk,rfl,rfl,hi,hlen,t0,t1,t5⟩;by_cases hlt:k<L.length
 ·have Th:k<M.length:=Om
  have e3:=dN hlt;have ix:=hs.c6 (kk:=.i64) hlt;have iy:=ht.c6 (kk:=.i64) Th;have ld:∀{kk:ah},Ext h' kk->_:=λ{kk} e=>hs.lC (i:=k) (x:=.str L[k]) (k:=kk) hlt rfl e
  have ly:∀{kk:ah},Ext h' kk->_:=λ{kk} e=>ht.lC (i:=k) (x:=.str M[k]) (k:=kk) Th rfl e
  exact z21
 ·exact z76
def r62{L M:List (Int)}{s t:AV}(hs:aI h s 1 (L.map aM))(ht:aI h t 1 (M.map aM))(hl:L.length<2^40)(hm:M.length<2^40):ay P 62 [s,t] h (λv _=>v=.bool (decide (L=M))):=by
 refine .eX 26 T.mix T.c62 ?_;intro ts hlen t0 t1;unfold fn62 gA;by_cases h1:L.length=M.length
 case neg=>
  exact Rj
 have q:decide ((L.length:Int)≠M.length)=false:=Z3 Om;refine Rs (A5 t0 t1 hs.aH ht.aH q) ?_;refine WL.inv T.mix (λm ts h'=>∃k:Nat,k<=L.length/\m=L.length-k/\h' =h/\L.take k=M.take k/\ts.length=26/\slot ts 0=s/\slot ts 1=t/\slot ts 5=.i k) L.length
  ⟨0,Om,rfl,rfl,rfl,Sn,(Sq t0),(Sq t1),ga⟩ ?_
 rintro _ ts h' ⟨k,hk,rfl,rfl,hi,hlen,t0,t1,t5⟩;by_cases hlt:k<L.length
 ·have Th:k<M.length:=Om
  have e3:=dN hlt;have ix:=hs.c6 (kk:=.i64) hlt;have iy:=ht.c6 (kk:=.i64) Th;have ld:∀{kk:ah},Ext h' kk->_:=λ{kk} e=>hs.lC (i:=k) (x:=.i L[k]) (k:=kk) hlt rfl e
  have ly:∀{kk:ah},Ext h' kk->_:=λ{kk} e=>ht.lC (i:=k) (x:=.i M[k]) (k:=kk) Th rfl e
  exact z21
 ·exact z76
def p9{f i w:Nat}{α:Type}{row:α->List AV}{nm:α->By}{L:List α}{s:AV}{V:RV}(c:bT P f=some (vD i w))(o:aB h V)(hs:aI h s w (L.map row))(hv:V.row[i]? =some s)(hr:∀y,(row y)[0]? =some (.str (nm y)))(hl:L.length<2^30)(n:By):ay P f [.agg V.row,.str n] h (λv _=>v=.i (cV (λy=>decide (nm y=n)) L)):=by
 refine .eX 22 T.mix c ?_;intro ts hlen t0 t1;unfold vD;have SG:=@aB.box _ _ o;refine Rs (A3 t0 t1 @SG) ?_;refine WL.inv T.mix (λm ts h'=>∃k:Nat,k<=L.length/\m=L.length-k/\h' =h++[ak.b V.row]/\L.findIdx? (λy=>decide (nm y=n))=((L.drop k).findIdx? (λy=>decide (nm y=n))).map (· +k)/\ts.length=22/\slot ts 1=.str n/\slot ts 2=.ptr h.length 0/\slot ts 5=.i k) L.length
  ⟨0,Om,rfl,rfl,Si,Sn,(Sq t1),Sw,ga⟩ ?_
 rintro _ ts _ ⟨k,hk,rfl,rfl,hi,hlen,t1,t2,t5⟩;have lb:∀{kk n a},Ext (h++[ak.b V.row]) kk->ao n (.ptr h.length a) (λz=>kk[z]?)=dG n a (.b V.row):=λ{_ _ _} e=>aA (e.some ba)
 by_cases hlt:k<L.length
 ·have e3:=dN hlt;have ix:=hs.c6 (kk:=.i64) hlt;have e5:=wrapN (n:=k) Om;obtain⟨h1,h2⟩:=uM hlt hi;obtain⟨y,hy⟩:∃y,y=L[k]:=⟨_,rfl⟩;have ld:∀{kk:ah},Ext h kk->ao none (jF s w k 0) (λb=>kk[b]?)=some (.str (nm y),.ar):=λ{kk} e=>hs.kT hlt (by rw[<-hy];exact hr y) e
  rw[<-hy]at h1 h2;by_cases hp:nm y=n
  ·have q:decide (nm y=n)=true:=Z8 hp;refine Rs (mU t1 t2 t5 @lb @hv hs.aH e3 ix @ld q) ?_;rw[h1 q]
  ·have q:decide (nm y=n)=false:=Z3 hp;refine Rs (lI t1 t2 t5 @lb @hv hs.aH e3 ix @ld q e5) ?_;exact⟨_,Om,k+1,Om,rfl,h2 q,rfl⟩
 ·have e3:=eF hlt;have e4:k=L.length:=Om
  refine Rs (A7 t1 t2 t5 @lb @hv hs.aH e3) ?_;subst e4;rw[w9 hi]
def r28{V:RV}(o:aB h V)(l:ff V)(n:By):ay P 28 [.agg V.row,.str n] h (λv _=>v=.i (cV (λy=>decide (y.name=n)) V.lines)):=
 p9 T (nm:=λy:gN=>y.name) T.c28 o o.i0 eJ (λ_=>rfl) l.l0 n
def r141{V:RV}(o:aB h V)(l:ff V)(n:By):ay P 141 [.agg V.row,.str n] h (λv _=>v=.i (cV (λy=>decide (y.name=n)) V.aE)):=
 p9 T (nm:=λy:sR=>y.name) T.c141 o o.i1 gR (λ_=>rfl) l.l1 n
def r22{V:RV}(o:aB h V)(l:ff V)(n:By):ay P 22 [.agg V.row,.str n] h (λv _=>v=.i (cV (λy:jc×AV=>decide (y.1.name=n)) V.aj)):=
 p9 T (nm:=λy:jc×AV=>y.1.name) T.c22 o o.i2 dC (λ_=>rfl) l.l2 n
def r55{V:RV}(o:aB h V)(l:ff V)(n:By):ay P 55 [.agg V.row,.str n] h (λv _=>v=.i (cV (λy:iP×AV=>decide (y.1.name=n)) V.aC)):=
 p9 T (nm:=λy:iP×AV=>y.1.name) T.c55 o o.i3 eU (λ_=>rfl) l.l3 n
def r56{V:RV}(o:aB h V)(l:ff V)(n:By):ay P 56 [.agg V.row,.str n] h (λv _=>v=.i (cV (λy:lH×AV=>decide (y.1.name=n)) V.aF)):=
 p9 T (nm:=λy:lH×AV=>y.1.name) T.c56 o o.i4 fc (λ_=>rfl) l.l4 n
def r57{V:RV}(o:aB h V)(l:ff V)(n:By):ay P 57 [.agg V.row,.str n] h (λv _=>v=.i (cV (λy=>decide (y.name=n)) V.aJ)):=
 p9 T (nm:=λy:qM=>y.name) T.c57 o o.i5 fL (λ_=>rfl) l.l5 n
end
def lJ(r:Nat×Bool):UInt8:=
 match r.1,r.2 with
 | 0,true=>108
 | 1,true=>116
 | 2,true=>115
 | 3,true=>109
 | 4,true=>106
 |_,true=>112
 | 0,false=>76
 | 1,false=>84
 | 2,false=>83
 | 3,false=>77
 | 4,false=>74
 |_,false=>80
def yi(d:Kd):By:=(bN d).map lJ
def zD(k:By):List AV:=
 match iH k with
 |none=>[.str [],.i 0,.bool false]
 |some d=>[.str (yi d),.i (cF d:Int),.bool true]
def gZ(d:Kd):decide (bu d=[108,105,110,101])=decide (d=.line):=by cases d<;>rfl
def iV(d:Kd):decide (bu d=[116,97,112,101])=decide (d=.tape):=by cases d<;>rfl
def si(d:Kd):decide (bu d=[115,104,111,116])=decide (d=.gK):=by cases d<;>rfl
def wQ(d:Kd):decide (bu d=[99,111,112,121])=decide (d=.copy):=by cases d<;>rfl
def sj(d:Kd):decide (bu d=[97,99,99,101,112,116])=decide (d=.accept):=by cases d<;>rfl
def iO(d:Kd):decide (bu d=[115,111,117,114,99,101])=decide (d=.source):=by cases d<;>rfl
def kF(d:Kd):decide (bu d=[109,111,100,117,108,101])=decide (d=.gu):=by cases d<;>rfl
def jE(d:Kd):decide (bu d=[109,101,114,103,101])=decide (d=.merge):=by cases d<;>rfl
def zC(d:Kd):decide (bu d=[114,117,110])=decide (d=.run):=by cases d<;>rfl
def wL(d:Kd):decide (bu d=[116,105,108,101])=decide (d=.gp):=by cases d<;>rfl
def wP(d:Kd):decide (bu d=[102,97,105,108])=decide (d=.fail):=by cases d<;>rfl
def wM(d:Kd):decide (bu d=[112,105,99,116,117,114,101])=decide (d=.gL):=by cases d<;>rfl
def qV(d:Kd):decide (bu d=[114,101,108,101,97,115,101])=decide (d=.rel):=by cases d<;>rfl
def oT(d:Kd):decide (bu d=[117,110,100,111])=decide (d=.dR):=by cases d<;>rfl
def iI:type_of% (Bo @gZ @iV @si @wQ @sj @iO @kF @jE @zC @wL @wP @wM @qV @oT):=Bo @gZ @iV @si @wQ @sj @iO @kF @jE @zC @wL @wP @wM @qV @oT
def Cv:∀r:Nat×Bool,r.1<6->decide (97<=((lJ r).toNat:Int))=r.2
 |(0,true),_=>rfl
 |(1,true),_=>rfl
 |(2,true),_=>rfl
 |(3,true),_=>rfl
 |(4,true),_=>rfl
 |(5,true),_=>rfl
 |(0,false),_=>rfl
 |(1,false),_=>rfl
 |(2,false),_=>rfl
 |(3,false),_=>rfl
 |(4,false),_=>rfl
 |(5,false),_=>rfl
def EB(d:Kd):∀r∈bN d,r.1<6:=by cases d<;>decide
section
variable {P:Program}(T:fq P) {h:ah}
include T
def r101(k:By):ay P 101 [.str k] h (λv _=>v=.agg (zD k)):=by
 refine .kM 47 T.mix T.c101 ?_;intro ts hlen t0;unfold fn101 gA;unfold zD;cases hk:iH k with
 |none=>
  have Zg:decide (k=[108,105,110,101])=false:=Z3 (dP hk .line);have Zc:decide (k=[116,97,112,101])=false:=Z3 (dP hk .tape);have Zd:decide (k=[115,104,111,116])=false:=Z3 (dP hk .gK);have Zi:decide (k=[99,111,112,121])=false:=Z3 (dP hk .copy);have Wu:decide (k=[97,99,99,101,112,116])=false:=Z3 (dP hk .accept);have Wt:decide (k=[115,111,117,114,99,101])=false:=Z3 (dP hk .source);have Zf:decide (k=[109,111,100,117,108,101])=false:=Z3 (dP hk .gu);have XS:decide (k=[109,101,114,103,101])=false:=Z3 (dP hk .merge);have q_run:decide (k=[114,117,110])=false:=Z3 (dP hk .run);have Zb:decide (k=[116,105,108,101])=false:=Z3 (dP hk .gp)
  have Zh:decide (k=[102,97,105,108])=false:=Z3 (dP hk .fail);have Ze:decide (k=[112,105,99,116,117,114,101])=false:=Z3 (dP hk .gL);have q_rel:decide (k=[114,101,108,101,97,115,101])=false:=Z3 (dP hk .rel);have Za:decide (k=[117,110,100,111])=false:=Z3 (dP hk .dR);exact Rs (Bn t0 @Zg @Zc @Zd @Zi @Wu @Wt @Zf @XS @q_run @Zb @Zh @Ze @q_rel @Za) Tv
 |some d=>
  have SN:=cA hk;subst SN;clear hk;cases d
  all_goals
   refine pL (A4 t0 @iI @aaq @aaz) ?_;rfl
def r39{x}(o:bh h x)(hl:x.ev.names.length<=2^40/\x.ev.cw.length<=2^40)(hn:∀n∈x.ev.names,n.length<2^63):ay P 39 [.agg x.row] h (λv _=>v=.i (eA x.ev)):=by
 refine .kM 59 T.mix T.c39 ?_;intro ts hlen t0;unfold fn39 gA;have SG:=@bh.box _ _ o;refine Rs (A3 t0 @SG @mh) ?_;refine WF.ce T.c20 (r20 T _ _ _) λg1=>?_
 by_cases h0:bj x.ev.num 1 1000=0
 case neg=>
  have e0:decide (bj x.ev.num 1 1000≠0)=true:=Z8 h0;refine Rs (A2 t0 e0) ?_;rw[eA,aai h0]
 have e0:decide (bj x.ev.num 1 1000≠0)=false:=Z3 (λz=>z h0);refine Rs (A3 t0 e0 @bB) ?_;refine WF.ce T.c101 (r101 T _) λg2=>?_
 unfold zD;rw[eA,aab (λz=>z h0)];cases hd:iH x.ev.kind with
 |none=>
  exact Rs (A2 t0 @aay) Tv
 |some d=>
  have Un:(yi d).length=(bN d).length:=by rw[yi,aaa]
  have hr3:(bN d).length<=3/\cF d<=3:=by cases d<;>decide
  refine Rs (A7 t0 @aar @aS @bg o.n.aH o.v.aH @Un) ?_;by_cases h1:x.ev.names.length=(bN d).length
  case neg=>
   have q:decide ((x.ev.names.length:Int)≠(bN d).length)=true:=Z8 Om;refine Rs (A2 t0 q) ?_;rw[aai (.inl h1)]
  have q:decide ((x.ev.names.length:Int)≠(bN d).length)=false:=Z3 Om;by_cases h2:x.ev.cw.length=cF d
  case neg=>
   have q2:decide ((x.ev.cw.length:Int)≠cF d)=true:=Z8 Om;refine Rs (A5 t0 @bg q q2 o.v.aH) ?_;rw[aai (.inr h2)]
  have q2:decide ((x.ev.cw.length:Int)≠cF d)=false:=Z3 Om;refine Rs (A5 t0 @bg q q2 o.v.aH) ?_;rw[aab Om];obtain⟨H,hH⟩:∃H,H=h++[ak.b x.row]++g1++g2++[ak.b [AV.str (yi d),.i (cF d:Int),.bool true]]:=⟨_,rfl⟩;obtain⟨fb,hfb⟩:∃fb,fb=(h++[ak.b x.row]++g1++g2).length:=⟨_,rfl⟩;have Tj:Ext h H:=by rw[hH];exact Xx
  have me:H[h.length]? =some (.b x.row):=by rw[hH];exact(show Ext (h++[ak.b x.row]) _ from Xx).some ba
  have mf:H[fb]? =some (.b [AV.str (yi d),.i (cF d:Int),.bool true]):=by rw[hH,hfb];exact ba
  rw[<-hH,<-hfb];refine WL.inv T.mix (λm ts h'=>∃k:Nat,k<=x.ev.names.length/\m=x.ev.names.length-k/\Ext H h'/\x.ev.names.any (λs=>!eE s)=(x.ev.names.drop k).any (λs=>!eE s)/\ts.length=59/\slot ts 1=.ptr h.length 0/\slot ts 3=.ptr fb 0/\slot ts 4=.i k) x.ev.names.length
   ⟨0,Om,rfl,.refl _,rfl,Sn,Sw,Sw,ga⟩ ?_
  rintro _ ts h' ⟨k,hk,rfl,hx,hi,hlen,t1,t3,t4⟩;have le:∀{kk n a},Ext h' kk->ao n (.ptr h.length a) (λz=>kk[z]?)=dG n a (.b x.row):=λ{_ _ _} e=>aA ((hx.trans e).some me)
  have lf:∀{kk n a},Ext h' kk->ao n (.ptr fb a) (λz=>kk[z]?)=dG n a (.b [AV.str (yi d),.i (cF d:Int),.bool true]):=λ{_ _ _} e=>aA ((hx.trans e).some mf)
  by_cases hlt:k<x.ev.names.length
  ·have e3:decide ((k:Int)<(bN d).length)=true:=Z8 Om;have e5:=wrapN (n:=k) Om;have ix:=o.n.c6 (kk:=.i64) hlt;have ld:∀{kk:ah},Ext h' kk->ao none (cI x.sn 1 k) (λb=>kk[b]?)=some (.str x.ev.names[k],.ar):=λ{kk} e=>o.n.lC hlt rfl ((Tj.trans hx).trans e)
   have Yf:x.ev.names.drop k=x.ev.names[k]::x.ev.names.drop (k+1):=Si
   rw[Yf,acu]at hi;have hnk:=hn x.ev.names[k] (aad _);obtain⟨y,hy⟩:∃y,y=x.ev.names[k]:=⟨_,rfl⟩;rw[<-hy]at ld hi hnk;refine Rs (mU t1 t3 t4 @le @lf @Un e3 @aS ix @ld) ?_;refine WF.ce T.c102 (r102 T y hnk) λg3=>?_
   cases hny:eE y with
   |false=>
    rw[hny]at hi;have hi:x.ev.names.any (λs=>!eE s)=true:=hi;refine Rs (A4 t1 t3 t4 @aay) ?_;refine⟨(Tj.trans hx).trans Xx,?_⟩;rw[aai hi]
   |true=>
    rw[hny]at hi;refine Rs (A5 t1 t3 t4 @aar e5) ?_;exact Kk
  ·have e3:decide ((k:Int)<(bN d).length)=false:=Z3 Om;have e4:k=x.ev.names.length:=Om
   have hi0:x.ev.names.any (λs=>!eE s)=false:=by rw[hi,e4,aa2];rfl
   rw[aab (by rw[hi0];decide)];refine Rs (A6 t1 t3 t4 @lf @Un e3) ?_;refine WL.inv T.mix (λm ts Yn=>∃k:Nat,k<=x.ev.cw.length/\m=x.ev.cw.length-k/\Ext H Yn/\x.ev.cw.any (λn=>decide (bj n 0 999999999≠0))=(x.ev.cw.drop k).any (λn=>decide (bj n 0 999999999≠0))/\ts.length=59/\slot ts 1=.ptr h.length 0/\slot ts 3=.ptr fb 0/\slot ts 5=.i k) x.ev.cw.length
    ⟨0,Om,rfl,hx,rfl,Sn,(Sq t1),(Sq t3),ga⟩ ?_
   clear t1 t3 t4 hlen hlt hi e3 e4 hk le lf hx;clear ts k h';rintro _ ts h' ⟨k,hk,rfl,hx,hi,hlen,t1,t3,t5⟩;have le:∀{kk n a},Ext h' kk->ao n (.ptr h.length a) (λz=>kk[z]?)=dG n a (.b x.row):=λ{_ _ _} e=>aA ((hx.trans e).some me)
   have lf:∀{kk n a},Ext h' kk->ao n (.ptr fb a) (λz=>kk[z]?)=dG n a (.b [AV.str (yi d),.i (cF d:Int),.bool true]):=λ{_ _ _} e=>aA ((hx.trans e).some mf)
   by_cases hlt:k<x.ev.cw.length
   ·have e3:decide ((k:Int)<cF d)=true:=Z8 Om;have e5:=wrapN (n:=k) Om;have ix:=o.v.c6 (kk:=.i64) hlt;have ld:∀{kk:ah},Ext h' kk->ao none (cI x.sv 1 k) (λb=>kk[b]?)=some (.i x.ev.cw[k],.ar):=λ{kk} e=>o.v.lC hlt rfl ((Tj.trans hx).trans e)
    have Yf:x.ev.cw.drop k=x.ev.cw[k]::x.ev.cw.drop (k+1):=Si
    rw[Yf,acu]at hi;obtain⟨y,hy⟩:∃y,y=x.ev.cw[k]:=⟨_,rfl⟩;rw[<-hy]at ld hi;refine Rs (A9 t1 t3 t5 @le @lf e3 @bg ix @ld) ?_;refine WF.ce T.c20 (r20 T _ _ _) λg3=>?_
    cases hny:decide (bj y 0 999999999≠0)with
    |true=>
     rw[hny]at hi;have hi:x.ev.cw.any (λn=>decide (bj n 0 999999999≠0))=true:=hi;refine Rs (A3 t1 t3 t5) ?_;refine⟨(Tj.trans hx).trans Xx,?_⟩;rw[aai hi]
    |false=>
     rw[hny]at hi;refine Rs (A4 t1 t3 t5 e5) ?_;exact Kk
   ·have e3:decide ((k:Int)<cF d)=false:=Z3 Om;have e4:k=x.ev.cw.length:=Om
    have hi0:x.ev.cw.any (λn=>decide (bj n 0 999999999≠0))=false:=by rw[hi,e4,aa2];rfl
    rw[aab (by rw[hi0];decide)];by_cases ht:x.ev.text=[]
    ·have q:decide (x.ev.text≠[])=false:=Z3 (λz=>z ht);refine Rs (A8 t1 t3 t5 @lf @le e3 @yG q) ?_;refine⟨Tj.trans hx,?_⟩;rw[aab (λz=>z ht)]
    ·have q:decide (x.ev.text≠[])=true:=Z8 ht;refine Rs (A8 t1 t3 t5 @lf @le e3 @yG q) ?_;refine⟨Tj.trans hx,?_⟩;rw[aai ht]
end
def Ed(R:dM)(e:cY):List (Nat×Bool)->Bool
 |[]=>false
 |r::_=>!r.2&&dD R r.1 (aL e 0)
def CR{R e d}:ka d R e=if lO R e (bN d) 0 then 10 else bW (Ed R e (bN d)) 9:=by
 have:pN R e (bN d) 0=Ed R e (bN d):=by cases d<;>simp[bN,pN,Ed]
 rw[ka,this];rfl
def AU:∀r:Nat×Bool,r.1<6->r.2=false->IntKind.u8.wrap (IntKind.u8.wrap (((lJ r).toNat:Int)+97)-65)=((lJ (r.1,true)).toNat:Int)
 |(0,false),_,_=>rfl
 |(1,false),_,_=>rfl
 |(2,false),_,_=>rfl
 |(3,false),_,_=>rfl
 |(4,false),_,_=>rfl
 |(5,false),_,_=>rfl
section
variable {P:Program}(T:fq P) {h:ah}
include T
def Sz{V}(o:aB h V)(l:ff V)(n:By):ay P 195 [.agg V.row,.int .u8 ((lJ (0,true)).toNat:Int),.str n] h (λv _=>∃i,v=.i i/\decide (0<=i)=dD V.an 0 n):=by
 refine .nC 36 T.mix T.c195 ?_;intro ts hlen t0 t1 t2;unfold fn195 gA;have SG:=@aB.box _ _ o;have q0:decide (((lJ (0,true)).toNat:Int)=108)=true:=rfl;refine Rs (A6 t0 t1 t2 @SG q0 @aG) ?_;refine WF.ce T.c28 (r28 T (o.ext Xx) l n) λg1=>?_
 refine Rs t0 ?_;exact⟨_,rfl,fM (f:=λy:gN=>y.name)⟩
def Sy{V}(o:aB h V)(l:ff V)(n:By):ay P 195 [.agg V.row,.int .u8 ((lJ (1,true)).toNat:Int),.str n] h (λv _=>∃i,v=.i i/\decide (0<=i)=dD V.an 1 n):=by
 refine .nC 36 T.mix T.c195 ?_;intro ts hlen t0 t1 t2;unfold fn195 gA;have SG:=@aB.box _ _ o;have q0:decide (((lJ (1,true)).toNat:Int)=108)=false:=rfl;have q1:decide (((lJ (1,true)).toNat:Int)=116)=true:=rfl;refine Rs (A7 t0 t1 t2 @SG q0 q1 @aG) ?_;refine WF.ce T.c141 (r141 T (o.ext Xx) l n) λg1=>?_
 refine Rs t0 ?_;exact⟨_,rfl,fM (f:=λy:sR=>y.name)⟩
def Sx{V}(o:aB h V)(l:ff V)(n:By):ay P 195 [.agg V.row,.int .u8 ((lJ (2,true)).toNat:Int),.str n] h (λv _=>∃i,v=.i i/\decide (0<=i)=dD V.an 2 n):=by
 refine .nC 36 T.mix T.c195 ?_;intro ts hlen t0 t1 t2;unfold fn195 gA;have SG:=@aB.box _ _ o;have q0:decide (((lJ (2,true)).toNat:Int)=108)=false:=rfl;have q1:decide (((lJ (2,true)).toNat:Int)=116)=false:=rfl;have q2:decide (((lJ (2,true)).toNat:Int)=115)=true:=rfl;refine Rs (A8 t0 t1 t2 @SG q0 q1 q2 @aG) ?_;refine WF.ce T.c22 (r22 T (o.ext Xx) l n) λg1=>?_
 refine Rs t0 ?_;refine⟨_,rfl,(fM (f:=λy:jc×AV=>y.1.name)).trans ?_⟩;rw[<-gV];rfl
def Sv{V}(o:aB h V)(l:ff V)(n:By):ay P 195 [.agg V.row,.int .u8 ((lJ (3,true)).toNat:Int),.str n] h (λv _=>∃i,v=.i i/\decide (0<=i)=dD V.an 3 n):=by
 refine .nC 36 T.mix T.c195 ?_;intro ts hlen t0 t1 t2;unfold fn195 gA;have SG:=@aB.box _ _ o;have q0:decide (((lJ (3,true)).toNat:Int)=108)=false:=rfl;have q1:decide (((lJ (3,true)).toNat:Int)=116)=false:=rfl;have q2:decide (((lJ (3,true)).toNat:Int)=115)=false:=rfl;have q3:decide (((lJ (3,true)).toNat:Int)=109)=true:=rfl;refine Rs (A9 t0 t1 t2 @SG q0 q1 q2 q3 @aG) ?_;refine WF.ce T.c55 (r55 T (o.ext Xx) l n) λg1=>?_
 refine Rs t0 ?_;refine⟨_,rfl,(fM (f:=λy:iP×AV=>y.1.name)).trans ?_⟩;rw[<-iS];rfl
def Su{V}(o:aB h V)(l:ff V)(n:By):ay P 195 [.agg V.row,.int .u8 ((lJ (4,true)).toNat:Int),.str n] h (λv _=>∃i,v=.i i/\decide (0<=i)=dD V.an 4 n):=by
 refine .nC 36 T.mix T.c195 ?_;intro ts hlen t0 t1 t2;unfold fn195 gA;have SG:=@aB.box _ _ o;have q0:decide (((lJ (4,true)).toNat:Int)=108)=false:=rfl;have q1:decide (((lJ (4,true)).toNat:Int)=116)=false:=rfl;have q2:decide (((lJ (4,true)).toNat:Int)=115)=false:=rfl;have q3:decide (((lJ (4,true)).toNat:Int)=109)=false:=rfl;have q4:decide (((lJ (4,true)).toNat:Int)=106)=true:=rfl;refine Rs (mU t0 t1 t2 @SG q0 q1 q2 q3 q4 @aG) ?_;refine WF.ce T.c56 (r56 T (o.ext Xx) l n) λg1=>?_
 refine Rs t0 ?_;refine⟨_,rfl,(fM (f:=λy:lH×AV=>y.1.name)).trans ?_⟩;rw[<-iT];rfl
def Sr{V}(o:aB h V)(l:ff V)(n:By):ay P 195 [.agg V.row,.int .u8 ((lJ (5,true)).toNat:Int),.str n] h (λv _=>∃i,v=.i i/\decide (0<=i)=dD V.an 5 n):=by
 refine .nC 36 T.mix T.c195 ?_;intro ts hlen t0 t1 t2;unfold fn195 gA;have SG:=@aB.box _ _ o;have q0:decide (((lJ (5,true)).toNat:Int)=108)=false:=rfl;have q1:decide (((lJ (5,true)).toNat:Int)=116)=false:=rfl;have q2:decide (((lJ (5,true)).toNat:Int)=115)=false:=rfl;have q3:decide (((lJ (5,true)).toNat:Int)=109)=false:=rfl;have q4:decide (((lJ (5,true)).toNat:Int)=106)=false:=rfl;refine Rs (mU t0 t1 t2 @SG q0 q1 q2 q3 q4 @aG) ?_;refine WF.ce T.c57 (r57 T (o.ext Xx) l n) λg1=>?_
 refine Rs t0 ?_;exact⟨_,rfl,fM (f:=λy:qM=>y.name)⟩
def r195{V}(o:aB h V)(l:ff V){t}(ht:t<6)(n:By):ay P 195 [.agg V.row,.int .u8 ((lJ (t,true)).toNat:Int),.str n] h (λv _=>∃i,v=.i i/\decide (0<=i)=dD V.an t n):=by
 match t,ht with
 | 0,_=>exact Sz T o l n
 | 1,_=>exact Sy T o l n
 | 2,_=>exact Sx T o l n
 | 3,_=>exact Sv T o l n
 | 4,_=>exact Su T o l n
 | 5,_=>exact Sr T o l n
def r223{V x d}(o:aB h V)(l:ff V)(ox:bh h x)(wx:j8 x.ev d):ay P 223 [.agg V.row,.agg x.row] h (λv _=>v=.i (ka d V.an x.ev)):=by
 refine .eX 55 T.mix T.c223 ?_;intro ts hlen t0 t1;unfold fn223;have SG:=@aB.box _ _ o;have hex:=@bh.box _ _ ox;refine Rs (A5 t0 t1 @SG @hex @bB) ?_;refine WF.ce T.c101 (r101 T _) λg1=>?_
 unfold zD;rw[wx.kd];obtain⟨L,hL⟩:∃L,L=bN d:=⟨_,rfl⟩;have hnl:x.ev.names.length=L.length:=by rw[hL];exact wx.nl
 have Ym:L.length<=3:=by rw[hL];cases d<;>decide
 have YT:∀r∈L,r.1<6:=by rw[hL];exact EB d
 have Un:(yi d).length=L.length:=by rw[yi,aaa,hL]
 refine Rs (A2 t0 t1) ?_;obtain⟨H,hH⟩:∃H,H=h++[ak.b V.row]++[ak.b x.row]++g1:=⟨_,rfl⟩;obtain⟨eb,heb⟩:∃eb,eb=(h++[ak.b V.row]).length:=⟨_,rfl⟩;have Tj:Ext h H:=by rw[hH];exact Xx
 have mr:H[h.length]? =some (.b V.row):=by rw[hH];exact(show Ext (h++[ak.b V.row]) _ from Xx).some ba
 have me:H[eb]? =some (.b x.row):=by rw[hH,heb];exact(show Ext (h++[ak.b V.row]++[ak.b x.row]) _ from Xx).some ba
 rw[<-hH,<-heb];have Vt:∀(i:Nat) (hi:i<L.length),bf 1 x.sn (.i (i:Int))=some (cI x.sn 1 i,.ar):=λi hi=>ox.n.c6 Om
 have hld:∀(i:Nat) (hi:i<L.length) (k':ah),Ext h k'->ao none (cI x.sn 1 i) (λb=>k'[b]?)=some (.str (aL x.ev i),.ar):=λi hi k' e=>by
  exact Rh
 have hixs:∀(i:Nat) (hi:i<L.length),wI (.str (yi d)) (.i (i:Int))=some (.int .u8 ((lJ L[i]).toNat:Int)):=λi hi=>by
  have hi':i<(yi d).length:=Om
  rw[ke hi'];have:(yi d)[i]=lJ L[i]:=by simp only[yi,hL,abf]
  rw[this]
 refine WL.inv T.mix (λm ts h'=>∃k:Nat,k<=L.length/\m=L.length-k/\Ext H h'/\lO V.an x.ev L 0=lO V.an x.ev (L.drop k) k/\ts.length=55/\slot ts 2=.ptr h.length 0/\slot ts 3=.ptr eb 0/\slot ts 5=.str (yi d)/\slot ts 6=.i k) L.length
  ⟨0,Om,rfl,.refl _,rfl,Sn,Sw,Sw,Sw,ga⟩ ?_
 clear t0 t1 hlen SG hex;clear ts;rintro _ ts h' ⟨k,hk,rfl,hx,hu,hlen,t2,t3,t5,t6⟩;have le:∀{kk n a},Ext h' kk->ao n (.ptr eb a) (λz=>kk[z]?)=dG n a (.b x.row):=λ{_ _ _} e=>aA ((hx.trans e).some me)
 have lr:∀{kk n a},Ext h' kk->ao n (.ptr h.length a) (λz=>kk[z]?)=dG n a (.b V.row):=λ{_ _ _} e=>aA ((hx.trans e).some mr)
 by_cases hlt:k<L.length
 ·have e3:=dN hlt;have e5:=wrapN (n:=k) Om;have iy:=Vt k hlt;have ly:∀{k'},Ext h' k'->ao none (cI x.sn 1 k) (λb=>k'[b]?)=some (.str (aL x.ev k),.ar):=λ{k'} e=>hld k hlt k' ((Tj.trans hx).trans e)
  have ii:=hixs k hlt;have hd:L.drop k=L[k]::L.drop (k+1):=Si
  obtain⟨r,WN⟩:∃r,r=L[k]:=⟨_,rfl⟩;have XF:r.1<6:=by rw[WN];exact YT _ (aad _)
  rw[hd,<-WN,lO]at hu;rw[<-WN]at ii;have qg:=Cv r XF;cases T4:r.2 with
  |false=>
   rw[T4]at hu qg;refine Rs (A9 t2 t3 t5 t6 @Un e3 @ii @qg e5) ?_;exact Kl
  |true=>
   rw[T4]at hu qg;have er:r=(r.1,true):=by rw[<-T4]
   rw[er]at ii qg;refine Rs (Bo t2 t3 t5 t6 @Un e3 @ii @qg @le @lr @aG @aS @iy @ly) ?_;refine WF.res T.c195 (r195 T ((o.ext (Tj.trans hx)).ext Xx) l XF _) ?_;rintro _ g3 ⟨i,rfl,hi⟩;have qi:decide (i<0)= !dD V.an r.1 (aL x.ev k):=by rw[<-hi];by_cases h0:0<=i<;>simp[h0]<;>omega
   cases hh:dD V.an r.1 (aL x.ev k)with
   |true=>
    rw[hh]at hu qi;have qi:decide (i<0)=false:=qi;refine Rs (A6 t2 t3 t5 t6 @qi e5) ?_;exact Kl
   |false=>
    rw[hh]at hu qi;have qi:decide (i<0)=true:=qi;have hu1:lO V.an x.ev L 0=true:=by rw[hu];rfl
    refine Rs (A5 t2 t3 t5 t6 @qi) ?_;refine⟨(Tj.trans hx).trans Xx,?_⟩;rw[CR,<-hL,aai hu1]
 ·have e3:=eF hlt;have e4:k=L.length:=Om
  have VI:lO V.an x.ev L 0=false:=by rw[hu,e4,aa2];rfl
  have XB:=Tj.trans hx;rw[CR,<-hL,aab (by rw[VI];decide)];refine Rs (A6 t2 t3 t5 t6 @Un e3) ?_;cases hLc:L with
  |nil=>
   have q0:decide ((0:Int)<(([] :List (Nat×Bool)).length:Int))=false:=rfl;refine Rs (A5 t2 t3 t5 t6 q0) ?_;exact⟨XB,rfl⟩
  |cons r rest=>
   rw[Ed];have q0:decide ((0:Int)<((r::rest).length:Int))=true:=Z8 (by simp only[Z5];omega);have Ya:0<L.length:=by rw[hLc];simp
   have ii:wI (.str (yi d)) (.i 0)=some (.int .u8 ((lJ r).toNat:Int)):=by
    have:=hixs 0 Ya;simp only[hLc,List.getElem_cons_zero]at this;exact this
   have XF:r.1<6:=YT r (by rw[hLc];simp);have qg:=Cv r XF;have qP:bf 1 x.sn (.i 0)=some (cI x.sn 1 0,.ar):=Vt 0 Ya;have ld0:∀{k':ah},Ext h' k'->ao none (cI x.sn 1 0) (λb=>k'[b]?)=some (.str (aL x.ev 0),.ar):=λ{k'} e=>hld 0 Ya k' (XB.trans e)
   cases T4:r.2 with
   |true=>
    rw[T4]at qg;have qg2:decide (((lJ r).toNat:Int)<97)=false:=Z3 (by have:=abk qg;omega);refine Rs (A7 t2 t3 t5 t6 q0 @ii @qg2) ?_;exact⟨XB,rfl⟩
   |false=>
    rw[T4]at qg;have qg2:decide (((lJ r).toNat:Int)<97)=true:=Z8 (by have:=of_decide_eq_false qg;omega);have ew:=AU r XF T4;refine Rs (Bo t2 t3 t5 t6 q0 @ii @qg2 @le @lr @aG @aS @qP @ld0 @ew) ?_;refine WF.res T.c195 (r195 T (o.ext XB) l XF _) ?_;rintro _ g3 ⟨i,rfl,hi⟩;cases hh:dD V.an r.1 (aL x.ev 0)with
    |true=>
     exact z164
    |false=>
     exact z164
end
section
variable {P:Program}(T:fq P) {h:ah}
include T
def r84{V}(o:aB h V)(l:ff V){n}(hn:n∈iQ V.an)(t:Int):ay P 84 [.agg V.row,.str n,.i t] h (λv _=>v=.bool (gT V.an t n)):=by
 refine .nC 17 T.mix T.c84 ?_;intro ts hlen t0 t1 t2;unfold fn84;have SG:=@aB.box _ _ o;have hlt:=cN hn;have Th:bn (iQ V.an) n<V.aE.length:=by simpa [iQ,RV.an]using hlt
 have ix:bf 2 V.s1 (.i ((bn (iQ V.an) n:Nat):Int))=some (cI V.s1 2 (bn (iQ V.an) n),.ar):=o.i1.c6 Th;have ev:jI V.an n=V.aE[bn (iQ V.an) n]:=de (f:=sR.name) (l:=V.aE) hn;have ld:∀{k':ah},Ext h k'->ao none (jF V.s1 2 (bn (iQ V.an) n) 1) (λb=>k'[b]?)=some (.i (jI V.an n).last,.ar):=λ{k'} e=>by
  rw[ev];exact o.i1.kT Th rfl e
 refine Rs (A6 t0 t1 t2 @SG @gR @aG) ?_;refine WF.ce T.c141 (r141 T (o.ext Xx) l n) λg1=>?_
 have ei:cV (λy:sR=>decide (y.name=n)) V.aE=(bn (iQ V.an) n:Int):=fp (f:=λy:sR=>y.name) hn;rw[ei];refine Rs (A5 t0 t1 t2 ix @ld) ?_;rfl
def r23{V}(o:aB h V)(l:ff V){x}(hx:aI h x.2 1 (x.1.aE.map aq))(hl:x.1.aE.length<2^30)(hk:∀n∈x.1.aE,n∈iQ V.an)(t:Int):
  ay P 23 [.agg V.row,.agg (aU x),.i t] h (λv _=>v=.bool (eD V.an x.1 t)):=by
 refine .nC 23 T.mix T.c23 ?_;intro ts hlen t0 t1 t2;unfold fn23 gA;have SG:=@aB.box _ _ o;have ox:=hx.one;unfold aU at t1;refine Rs (A5 t0 t1 t2 @SG @ox) ?_;obtain⟨H,hH⟩:∃H,H=h++[ak.b V.row]++[ak.b [AV.str x.1.name,.str x.1.line,x.2]]:=⟨_,rfl⟩;obtain⟨sb,hsb⟩:∃sb,sb=(h++[ak.b V.row]).length:=⟨_,rfl⟩;have Tj:Ext h H:=by rw[hH];exact Xx
 have mr:H[h.length]? =some (.b V.row):=by rw[hH];exact(show Ext (h++[ak.b V.row]) _ from Xx).some ba
 have ms:H[sb]? =some (.b [AV.str x.1.name,.str x.1.line,x.2]):=by rw[hH,hsb];exact ba
 rw[<-hH,<-hsb];refine WL.inv T.mix (λn ts h'=>∃k:Nat,k<=x.1.aE.length/\n=x.1.aE.length-k/\Ext H h'/\eD V.an x.1 t=(x.1.aE.drop k).any (gT V.an t)/\
   ts.length=23/\slot ts 2=.i t/\slot ts 3=.ptr h.length 0/\slot ts 4=.ptr sb 0/\slot ts 7=.i k) x.1.aE.length
  ⟨0,Om,rfl,.refl _,rfl,Sn,(Sq t2),Sw,Sw,ga⟩ ?_
 rintro _ ts h' ⟨k,SK,rfl,he,hi,hlen,t2,t3,t4,t7⟩;have lr:∀{kk n a},Ext h' kk->ao n (.ptr h.length a) (λz=>kk[z]?)=dG n a (.b V.row):=λ{_ _ _} e=>aA ((he.trans e).some mr)
 have ls:∀{kk n a},Ext h' kk->ao n (.ptr sb a) (λz=>kk[z]?)=dG n a (.b [AV.str x.1.name,.str x.1.line,x.2]):=λ{_ _ _} e=>aA ((he.trans e).some ms)
 by_cases hlt:k<x.1.aE.length
 ·have e3:=dN hlt;have e5:=wrapN (n:=k) Om;have ix:=hx.c6 (kk:=.i64) hlt;have hd:x.1.aE.drop k=x.1.aE[k]::x.1.aE.drop (k+1):=Si
  have hm:=hk x.1.aE[k] (aad _);have ld:∀{kk:ah},Ext h' kk->ao none (cI x.2 1 k) (λb=>kk[b]?)=some (.str x.1.aE[k],.ar):=λ{kk} e=>hx.lC hlt rfl ((Tj.trans he).trans e)
  rw[hd,acu]at hi;obtain⟨y,hy⟩:∃y,y=x.1.aE[k]:=⟨_,rfl⟩;rw[<-hy]at ld hi hm;refine Rs (lI t2 t3 t4 t7 @ls @lr hx.aH e3 ix @ld @aG) ?_;refine WF.ce T.c84 (r84 T ((o.ext (Tj.trans he)).ext Xx) l hm t) λg3=>?_
  cases hr:gT V.an t y with
  |true=>
   rw[hr]at hi;refine Rs (A4 t2 t3 t4 t7) ?_;refine⟨(Tj.trans he).trans Xx,?_⟩;rw[hi];rfl
  |false=>
   rw[hr]at hi;refine Rs (A5 t2 t3 t4 t7 e5) ?_;exact⟨_,Om,k+1,Om,rfl,he.trans Xx,hi,rfl⟩
 ·have e3:=eF hlt;have e4:k=x.1.aE.length:=Om
  refine Rs (A7 t2 t3 t4 t7 @ls hx.aH e3) ?_;refine⟨Tj.trans he,?_⟩;rw[hi,e4,aa2];rfl
def r24{V}(o:aB h V)(l:ff V)(ir:NS V)(t:Int):ay P 24 [.agg V.row,.i t] h (λv h'=>aI h' v 1 ((fK V.an t).map aq)):=by
 refine .eX 33 T.mix T.c24 ?_;intro ts hlen t0 t1;unfold fn24 gA;have SG:=@aB.box _ _ o;refine Rs (A3 t0 t1 @SG) ?_;obtain⟨H,hH⟩:∃H,H=h++[ak.b V.row]:=⟨_,rfl⟩;have Tj:Ext h H:=by rw[hH];exact Xx
 have mr:H[h.length]? =some (.b V.row):=by rw[hH];exact ba
 rw[<-hH];have eu:fK V.an t=(V.aj.filter λx=>!eD V.an x.1 t).map λx=>x.1.name:=by
  exact z203
 rw[eu];refine WL.inv T.mix (λn ts h'=>∃(k:Nat) (out:AV),k<=V.aj.length/\n=V.aj.length-k/\Ext H h'/\Fr H.length h' out 1 ((((V.aj.take k).filter λx=>!eD V.an x.1 t).map λx=>x.1.name).map aq)/\
   ts.length=33/\slot ts 1=.i t/\slot ts 2=.ptr h.length 0/\slot ts 5=out/\slot ts 6=.i k) V.aj.length
  ⟨0,.af,Om,rfl,.refl _,.nil,Sn,(Sq t1),Sw,Sw,ga⟩ ?_
 rintro _ ts h' ⟨k,out,SK,rfl,⟨g,rfl⟩,hfr,hlen,t1,t2,t5,t6⟩;have he:Ext H (H++g):=⟨_,rfl⟩;have lr:∀{kk n a},Ext (H++g) kk->ao n (.ptr h.length a) (λz=>kk[z]?)=dG n a (.b V.row):=λ{_ _ _} e=>aA ((he.trans e).some mr)
 have U5:=l.l2;by_cases hlt:k<V.aj.length
 ·have e3:=dN hlt;have e5:=wrapN (n:=k) Om;have ix:=o.i2.c6 (kk:=.i64) hlt;obtain⟨y,hy⟩:∃y,y=V.aj[k]:=⟨_,rfl⟩;have Ua:y∈V.aj:=by rw[hy];exact aad _
  have ld:∀{kk:ah},Ext (H++g) kk->ao (some 3) (cI V.s2 3 k) (λb=>kk[b]?)=some (.agg (aU y),.ar):=λ{kk} e=>by rw[hy];exact o.i2.gP hlt ((Tj.trans he).trans e)
  have lf:∀{kk:ah},Ext (H++g) kk->ao none (jF V.s2 3 k 0) (λb=>kk[b]?)=some (.str y.1.name,.ar):=λ{kk} e=>o.i2.kT hlt (by rw[<-hy];rfl) ((Tj.trans he).trans e)
  have S9:V.aj.take (k+1)=V.aj.take k++[y]:=by rw[hy,aaO,Z6 hlt];rfl
  have hsh:=ir.sh y Ua;refine Rs (lI t1 t2 t5 t6 @lr @dC @aG o.i2.aH e3 ix @ld) ?_;refine WF.ce T.c23 (r23 T ((o.ext (Tj.trans he)).ext Xx) l (((o.e2 y Ua).ext (Tj.trans he)).ext Xx) hsh.2 hsh.1 t) λg3=>?_
  cases hs:eD V.an y.1 t with
  |true=>
   refine Rs (A6 t1 t2 t5 t6 @aar e5) ?_;refine⟨_,Om,k+1,out,Om,rfl,?_,rfl,rfl⟩;rw[S9,aaZ];simp only[abi,ab3,hs,aar,aaU,aal,aaw];exact hfr.app _
  |false=>
   refine Rs (A9 t1 t2 t5 t6 @aay @lr @dC ix @lf) ?_;have Tg:((V.aj.take k).filter λx=>!eD V.an x.1 t).length<=V.aj.length:=aaT (aaF _ _) (by rw[aaQ];omega);refine WR.fg (h0:=H) (cs:=(((V.aj.take k).filter λx=>!eD V.an x.1 t).map λx=>x.1.name).map aq) (ys:=[aq y.1.name]) ((hfr.app _).app _) (Fr.push (N:=0) (aaC _) [aq y.1.name] (by simp[aq])).aY De Si (by simp only[aaa,Z5,Z9];omega) (by rw[Z4,Z4];exact⟨_,rfl⟩) ?_;intro g' SP hff hkp;have hrow:(((V.aj.take k).filter λx=>!eD V.an x.1 t).map λx=>x.1.name).map aq++[aq y.1.name]=(((V.aj.take (k+1)).filter λx=>!eD V.an x.1 t).map λx=>x.1.name).map aq:=by
    rw[S9,aaZ];simp only[abi,ab3,hs,aay,aan,aae,aaX,abF]
   rw[hrow]at hff;rw[hrow];refine Rs (A5 t1 t2 t5 t6 e5) ?_;exact HC
 ·exact Rg
end
def any_eq{α:Type}{p:α->Bool}{L:List α}{k:Nat}(hlt:k<L.length):(L.drop k).any p=(p L[k]||(L.drop (k+1)).any p):=by
 have hd:L.drop k=L[k]::L.drop (k+1):=Si
 rw[hd,acu]
section
variable {P:Program}(T:fq P) {h:ah}
include T
def r263(n:Int):ay P 263 [.i n] h (λv _=>v=.dW [.str (nA n),.str (kg n)]):=by
 refine .kM 11 T.mix T.c263 ?_;intro ts hlen t0;unfold fn263 gA;by_cases h1:n=1
 ·have q1:decide (n=1)=true:=Z8 h1;refine Rs (A2 t0 q1) ?_;subst h1;rfl
 have q1:decide (n=1)=false:=Z3 h1;by_cases h2:n=2
 ·have q2:decide (n=2)=true:=Z8 h2;refine Rs (A3 t0 q1 q2) ?_;subst h2;rfl
 have q2:decide (n=2)=false:=Z3 h2;by_cases h3:n=3
 ·have q3:decide (n=3)=true:=Z8 h3;refine Rs (A4 t0 q1 q2 q3) ?_;subst h3;rfl
 have q3:decide (n=3)=false:=Z3 h3;refine Rs (A4 t0 q1 q2 q3) ?_;rw[nA,aab h1,aab h2,aab h3,kg,aab h1,aab h2];rfl
def r265{V:RV}(o:aB h V)(l:ff V)(n:By):ay P 265 [.agg V.row,.str n] h (λv _=>v=.bool (qH V.an n)):=by
 refine .eX 21 T.mix T.c265 ?_;intro ts hlen t0 t1;unfold fn265 gA;have SG:=@aB.box _ _ o;have hl:=l.l5;refine Rs (A3 t0 t1 @SG) ?_;refine WL.inv T.mix (λm ts h'=>∃k:Nat,k<=V.aJ.length/\m=V.aJ.length-k/\h' =h++[ak.b V.row]/\qH V.an n=(V.aJ.drop k).any (λp=>decide (p.Bt=n))/\ts.length=21/\slot ts 1=.str n/\slot ts 2=.ptr h.length 0/\slot ts 5=.i k) V.aJ.length
  ⟨0,Om,rfl,rfl,rfl,Sn,(Sq t1),Sw,ga⟩ ?_
 rintro _ ts _ ⟨k,hk,rfl,rfl,hi,hlen,t1,t2,t5⟩;have lb:∀{kk n a},Ext (h++[ak.b V.row]) kk->ao n (.ptr h.length a) (λz=>kk[z]?)=dG n a (.b V.row):=λ{_ _ _} e=>aA (e.some ba)
 by_cases hlt:k<V.aJ.length
 ·have e3:=dN hlt;have ix:=o.i5.c6 (kk:=.i64) hlt;have e5:=wrapN (n:=k) Om;rw[any_eq hlt]at hi;obtain⟨y,hy⟩:∃y,y=V.aJ[k]:=⟨_,rfl⟩;have ld:∀{kk:ah},Ext h kk->ao none (jF V.s5 4 k 1) (λb=>kk[b]?)=some (.str y.Bt,.ar):=λ{kk} e=>o.i5.kT hlt (by rw[<-hy];rfl) e
  rw[<-hy]at hi;cases hp:decide (y.Bt=n)with
  |true=>
   rw[hp]at hi;refine Rs (mU t1 t2 t5 @lb @fL o.i5.aH e3 ix @ld @hp) ?_;rw[hi];rfl
  |false=>
   rw[hp]at hi;refine Rs (lI t1 t2 t5 @lb @fL o.i5.aH e3 ix @ld @hp e5) ?_;exact⟨_,Om,k+1,Om,rfl,hi,rfl⟩
 ·have e3:=eF hlt;have e4:k=V.aJ.length:=Om
  refine Rs (A7 t1 t2 t5 @lb @fL o.i5.aH e3) ?_;rw[hi,e4,aa2];rfl
def r264{V}(o:aB h V)(l:ff V){n}(hn:n∈iC V.an):ay P 264 [.agg V.row,.str n] h (λv _=>v=.str (iG V.an n).gives):=by
 refine .eX 13 T.mix T.c264 ?_;intro ts hlen t0 t1;unfold fn264;have SG:=@aB.box _ _ o;have hlt:=cN hn;have Th:bn (iC V.an) n<V.aC.length:=by simpa [iC,RV.an]using hlt
 have ix:bf 4 V.s3 (.i ((bn (iC V.an) n:Nat):Int))=some (cI V.s3 4 (bn (iC V.an) n),.ar):=o.i3.c6 Th;have ev:iG V.an n=(V.aC[bn (iC V.an) n]).1:=by
  rw[iG,de (f:=iP.name) (l:=V.an.aC) (d:=CQ) hn];exact BB
 have ld:∀{k':ah},Ext h k'->ao none (jF V.s3 4 (bn (iC V.an) n) 1) (λb=>k'[b]?)=some (.str (iG V.an n).gives,.ar):=λ{k'} e=>by
  rw[ev];exact o.i3.kT Th rfl e
 refine Rs (A5 t0 t1 @SG @eU @aG) ?_;refine WF.ce T.c55 (r55 T (o.ext Xx) l n) λg1=>?_
 have ei:cV (λy:iP×AV=>decide (y.1.name=n)) V.aC=(bn (iC V.an) n:Int):=by
  rw[iS];exact fp (f:=λy:iP×AV=>y.1.name) (by rw[<-iS];exact hn)
 exact D9
def r31{s l}(hs:aI h s 1 (l.map aM))(hl:l.length<2^30)(hb:∀s∈l,-1<=s/\s<=999999999):ay P 31 [s] h (λv _=>v=.i (gE l)):=by
 refine .kM 20 T.mix T.c31 ?_;intro ts hlen t0;unfold fn31 gA;refine Rs t0 ?_;refine WL.inv T.mix (λn ts h'=>∃k:Nat,k<=l.length/\n=l.length-k/\h' =h/\ts.length=20/\slot ts 0=s/\slot ts 3=.i (gE (l.take k))/\slot ts 4=.i k) l.length
  ⟨0,Om,rfl,rfl,Sn,(Sq t0),ga,ga⟩ ?_
 rintro _ ts h' ⟨k,hk,rfl,rfl,hlen,t0,t3,t4⟩;by_cases hlt:k<l.length
 ·have e3:=dN hlt;have e5:=wrapN (n:=k) Om;have ix:=hs.c6 (kk:=.i64) hlt;have ld:=hs.lC (i:=k) (x:=.i l[k]) hlt rfl (Ext.refl _);have hd:=uP (l.take k) 1 (λs hs=>hb s (aa4 hs)) De De;have U8:=hb _ (aad hlt);have Tn:-16777213<gE (l.take k)/\gE (l.take k)<16777213:=hd;have w1:IntKind.i64.wrap (257*gE (l.take k))=257*gE (l.take k):=bD Om Om;have w2:IntKind.i64.wrap (257*gE (l.take k)+l[k])=257*gE (l.take k)+l[k]:=bD Om Om;have er:=pf (k:=.i64) (a:=257*gE (l.take k)+l[k]) (b:=16777213) De;have S9:gE (l.take (k+1))=(257*gE (l.take k)+l[k]).tmod 16777213:=by
   exact z162
  rw[<-S9]at er;refine Rs (lI t0 t3 t4 hs.aH e3 ix @ld @w1 @w2 @er e5) ?_;exact⟨_,Om,k+1,Om,rfl,rfl,rfl⟩
 ·have e3:=eF hlt;have e4:k=l.length:=Om
  refine Rs (A5 t0 t3 t4 hs.aH e3) ?_;rw[e4,aaI]
def r60{x}(hx:aI h x.2 1 (x.1.bE.map aM))(hl:x.1.bE.length<2^30):ay P 60 [.agg (bF x)] h (λv h'=>aI h' v 1 ((cZ x.1.bE 0).map aM)):=by
 refine .kM 23 T.mix T.c60 ?_;intro ts hlen t0;unfold fn60 gA;have ox:=hx.one;unfold bF at t0;refine Rs (A2 t0 @ox) ?_;obtain⟨H0,Vj⟩:∃H0,H0=h++[ak.b [AV.str x.1.name,.str x.1.mod,x.2]]:=⟨_,rfl⟩;have e0:Ext h H0:=by rw[Vj];exact Xx
 have lb:∀{k n a},Ext H0 k->ao n (.ptr h.length a) (λz=>k[z]?)=dG n a (.b [AV.str x.1.name,.str x.1.mod,x.2]):=λ{_ _ _} e=>aA (e.some (by rw[Vj];exact ba))
 rw[<-Vj];refine WL.inv T.mix (λn ts h'=>∃(k:Nat) (out:AV),k<=x.1.bE.length/\n=x.1.bE.length-k/\Ext H0 h'/\Fr H0.length h' out 1 ((cZ (x.1.bE.take k) 0).map aM)/\
   ts.length=23/\slot ts 1=.ptr h.length 0/\slot ts 3=out/\slot ts 4=.i k) x.1.bE.length
  ⟨0,.af,Om,rfl,Ext.refl _,.nil,Sn,(Sq t0),(Sq t0),ga⟩ ?_
 rintro _ ts _ ⟨k,out,hk',rfl,⟨g,rfl⟩,hfr,hlen,t1,t3,t4⟩;by_cases hlt:k<x.1.bE.length
 ·have e3:=dN hlt;have ix:=hx.c6 (kk:=.i64) hlt;have ld:∀{k':ah},Ext H0 k'->ao none (cI x.2 1 k) (λb=>k'[b]?)=some (.i x.1.bE[k],.ar):=λ{k'} e=>hx.lC hlt rfl (e0.trans e)
  have e5:=wrapN (n:=k) Om;have S9:cZ (x.1.bE.take (k+1)) 0=cZ (x.1.bE.take k) 0++(if x.1.bE[k]<0 then [(k:Int)]else []):=by
   exact Ra
  by_cases hn:x.1.bE[k]<0
  ·have q:decide (x.1.bE[k]<0)=true:=Z8 hn;rw[aai hn]at S9;refine Rs (A9 t1 t3 t4 @lb hx.aH e3 ix @ld q) ?_;have U5:=kD (l:=x.1.bE.take k) (i:=0);refine WR.fg (h0:=H0) (cs:=(cZ (x.1.bE.take k) 0).map aM) (ys:=[aM (k:Int)]) (hfr.app _) (Fr.push (N:=0) (aaC _) [aM (k:Int)] Si).aY De Si (by simp only[aaa,aaQ,Z5,Z9]at U5 ⊢;omega) Xx ?_;intro g' SP hff hkp;have hrow:(cZ (x.1.bE.take k) 0).map aM++[aM (k:Int)]=(cZ (x.1.bE.take (k+1)) 0).map aM:=by rw[S9,aae];rfl
   rw[hrow]at hff;rw[hrow];refine Rs (A4 t1 t3 t4 e5) ?_;exact HC
  ·have q:decide (x.1.bE[k]<0)=false:=Z3 hn;rw[aab hn,aaw]at S9;refine Rs (mU t1 t3 t4 @lb hx.aH e3 ix @ld q e5) ?_;refine⟨_,Om,k+1,out,Om,rfl,?_,rfl,rfl⟩;rw[S9];exact hfr
 ·have e3:=eF hlt;have e4:k=x.1.bE.length:=Om
  refine Rs (A6 t1 t3 t4 @lb hx.aH e3) ?_;rw[e4,aaI]at hfr;exact⟨e0.trans Xx,hfr.aY⟩
def r127{V:RV}(o:aB h V)(l:ff V){M:List (By)}{s:AV}(hs:aI h s 1 (M.map aq))(hM:M.length<2^40):ay P 127 [.agg V.row,s] h (λv h'=>aI h' v 1 (((V.an.aj.filter λx=>decide (x.line∈M)).map jc.name).map aq)):=by
 refine .eX 32 T.mix T.c127 ?_;intro ts hlen t0 t1;unfold fn127 gA;have SG:=@aB.box _ _ o;refine Rs (A3 t0 t1 @SG) ?_;obtain⟨H,hH⟩:∃H,H=h++[ak.b V.row]:=⟨_,rfl⟩;have Tj:Ext h H:=by rw[hH];exact Xx
 have mr:H[h.length]? =some (.b V.row):=by rw[hH];exact ba
 rw[<-hH];have eu:(V.an.aj.filter λx=>decide (x.line∈M)).map jc.name=(V.aj.filter λx=>decide (x.1.line∈M)).map λx=>x.1.name:=by
  simp only[RV.an,abA,abJ];rfl
 rw[eu];refine WL.inv T.mix (λn ts h'=>∃(k:Nat) (out:AV),k<=V.aj.length/\n=V.aj.length-k/\Ext H h'/\Fr H.length h' out 1 ((((V.aj.take k).filter λx=>decide (x.1.line∈M)).map λx=>x.1.name).map aq)/\
   ts.length=32/\slot ts 1=s/\slot ts 2=.ptr h.length 0/\slot ts 5=out/\slot ts 6=.i k) V.aj.length
  ⟨0,.af,Om,rfl,.refl _,.nil,Sn,(Sq t1),Sw,Sw,ga⟩ ?_
 rintro _ ts h' ⟨k,out,SK,rfl,⟨g,rfl⟩,hfr,hlen,t1,t2,t5,t6⟩;have he:Ext H (H++g):=⟨_,rfl⟩;have lr:∀{kk n a},Ext (H++g) kk->ao n (.ptr h.length a) (λz=>kk[z]?)=dG n a (.b V.row):=λ{_ _ _} e=>aA ((he.trans e).some mr)
 have U5:=l.l2;by_cases hlt:k<V.aj.length
 ·have e3:=dN hlt;have e5:=wrapN (n:=k) Om;have ix:=o.i2.c6 (kk:=.i64) hlt;obtain⟨y,hy⟩:∃y,y=V.aj[k]:=⟨_,rfl⟩;have lf:∀{kk:ah},Ext (H++g) kk->ao none (jF V.s2 3 k 0) (λb=>kk[b]?)=some (.str y.1.name,.ar):=λ{kk} e=>o.i2.kT hlt (by rw[<-hy];rfl) ((Tj.trans he).trans e)
  have lg:∀{kk:ah},Ext (H++g) kk->ao none (jF V.s2 3 k 1) (λb=>kk[b]?)=some (.str y.1.line,.ar):=λ{kk} e=>o.i2.kT hlt (by rw[<-hy];rfl) ((Tj.trans he).trans e)
  have S9:V.aj.take (k+1)=V.aj.take k++[y]:=by rw[hy,aaO,Z6 hlt];rfl
  refine Rs (mU t1 t2 t5 t6 @lr @dC o.i2.aH e3 ix @lg) ?_;refine WF.ce T.c35 (r35 T (hs.ext (Tj.trans he)) hM _) λg3=>?_
  cases hd:decide (y.1.line∈M)with
  |false=>
   refine Rs (A5 t1 t2 t5 t6 e5) ?_;exact z72
  |true=>
   refine Rs (A8 t1 t2 t5 t6 @lr @dC ix @lf) ?_;have Tg:((V.aj.take k).filter λx=>decide (x.1.line∈M)).length<=V.aj.length:=aaT (aaF _ _) (by rw[aaQ];omega);refine WR.fg (h0:=H) (cs:=(((V.aj.take k).filter λx=>decide (x.1.line∈M)).map λx=>x.1.name).map aq) (ys:=[aq y.1.name]) ((hfr.app _).app _) (Fr.push (N:=0) (aaC _) [aq y.1.name] (by simp[aq])).aY De Si (by simp only[aaa,Z5,Z9];omega) (by rw[Z4,Z4];exact⟨_,rfl⟩) ?_;intro g' SP hff hkp;have hrow:(((V.aj.take k).filter λx=>decide (x.1.line∈M)).map λx=>x.1.name).map aq++[aq y.1.name]=(((V.aj.take (k+1)).filter λx=>decide (x.1.line∈M)).map λx=>x.1.name).map aq:=by
    exact NZ
   rw[hrow]at hff;rw[hrow];refine Rs (A5 t1 t2 t5 t6 e5) ?_;exact HC
 ·exact Rg
end
end Go.Abs
namespace Go.Abs
section
variable {P:Program}{ro:Option Nat->Prop}{ks:List Kt}{ts:TS}{Q:Ex->TS->ah->Prop}
def WR.F4{h s y es cs ys h0 w d l}
  (hs:Fr h0.length h s es cs) (hy:aI h y es ys) (hes:0<es) (eQ:(cs.length+ys.length)*w<=2^46) (he:Ext h0 h)
  (K:∀s' g,Fr h0.length (h0++g) s' es (cs++ys)->(∀b,b<h.length->sB s≠some b->(h0++g)[b]? =h[b]?)->h.length<=(h0++g).length->WP P ro l ks (put ts d s') (h0++g) Q):
  WR P ro (qb es w s y (λb=>h[b]?) h.length) false d l ks ts h Q:=by
 by_cases hn:ys.length=0
 ·have hys:ys=[]:=aa9.1 hn;subst hys;obtain⟨g,rfl⟩:=he;rw[aaw]at K;have e:qb es w s y (λb=>(h0++g)[b]?) (h0++g).length=some (s,.ar):=by
   simp only[qb,hy.fG];cases hs with
   |nil=>simp
   |mk hN hb h'=>simp
  rw[e,jy];exact K s g hs (λ_ _ _=>rfl) (aah _)
 ·refine WR.fg hs hy hes Om eQ he λg h1 h2 h3=>K _ g h2 (λb hb hne=>h3 b hb λb0 o n e Zx hbb=>hne (by rw[Zx,hbb];rfl)) Om
end
def EX{R}(w:eS R){x}(hx:x∈R.aC):iG R x.name=x:=qX (f:=iP.name) w.n3.nd hx
def qu{m l x}:cS m (l++[x])=if x.name∈cS m l then cS m l++x.bC else cS m l:=by
 rw[cS,List.foldl_append];rfl
def wi{m}:∀{l},(∀x∈l,x.bC.length<=2)->(cS m l).length<=1+2*l.length:=by
 intro l;have key:∀(l:List iP) (a:List (By)),(∀x∈l,x.bC.length<=2)->(l.foldl (λn x=>if x.name∈n then n++x.bC else n) a).length<=a.length+2*l.length:=by
  intro l
  induction l with
  |nil=>intro a _;simp
  |cons x l ih=>
   intro a hl;have h1:=hl x Si;have:=ih (if x.name∈a then a++x.bC else a) (λy hy=>hl y (aaH _ hy));rw[ab5];refine aaT this ?_;split<;>simp only[Z1,Z5]<;>omega
 intro hl;exact key l [m] hl
set_option maxRecDepth 10000
attribute [local irreducible] WP WC WE WB WR WF WL WG fX WM
section
variable {P:Program}(T:fq P) {h:ah}
include T
def r58{V}(o:aB h V)(w:eS V.an)(m:By):ay P 58 [.agg V.row,.str m] h (λv h'=>aI h' v 1 (((na V.an m).map iP.name).map aq)):=by
 refine .eX 60 T.mix T.c58 ?_;intro ts hlen t0 t1;unfold fn58 gA;have SG:=@aB.box _ _ o;have l:=w.len;have hn32:V.aC.length<=32:=by have:=w.l3;simpa [RV.an]using this
 have hin:∀x∈V.an.aC,x.bC.length<=2:=λx hx=>(w.md x hx).2.1
 have hml:V.an.aC.length=V.aC.length:=by simp[RV.an]
 have ew:IntKind.i64.wrap ((V.aC.length:Int)-1)=(V.aC.length:Int)-1:=bD Om Om;have lb0:∀{kk n a},Ext (h++[ak.b V.row]) kk->ao n (.ptr h.length a) (λz=>kk[z]?)=dG n a (.b V.row):=λ{_ _ _} e=>aA (e.some ba)
 refine Rs (A7 t0 t1 @SG @lb0 @eU o.i3.aH @ew) ?_;obtain⟨H,hH⟩:∃H,H=h++[ak.b V.row]:=⟨_,rfl⟩;have Tj:Ext h H:=by rw[hH];exact Xx
 have mr:H[h.length]? =some (.b V.row):=by rw[hH];exact ba
 rw[<-hH];refine WL.inv T.mix (λn ts h'=>∃(k:Nat) (ws:AV),k<=V.aC.length/\n=V.aC.length-k/\Ext H h'/\aI h' ws 1 ((cS m (V.an.aC.reverse.take k)).map aq)/\
   ts.length=60/\slot ts 2=.ptr h.length 0/\slot ts 5=ws/\slot ts 6=.i ((V.aC.length:Int)-1-k)) V.aC.length
  ⟨0,.slice H.length 0 1 1,Om,rfl,⟨_,rfl⟩,(Fr.push (N:=0) (aaC _) [aq m] (by simp[aq])).aY,Sn,Sw,Sw,(by simp only[aO,aT,aZ,a8,reduceAdd,reduceMul,reduceLeDiff,reduceEqDiff,bd,hlen,aal,aan];simp)⟩ ?_
 clear t0 t1 hlen lb0;clear ts;rintro _ ts h' ⟨k,ws,hk,rfl,⟨g,rfl⟩,Wy,hlen,t2,t5,t6⟩;have he:Ext H (H++g):=⟨_,rfl⟩;have lr:∀{kk n a},Ext (H++g) kk->ao n (.ptr h.length a) (λz=>kk[z]?)=dG n a (.b V.row):=λ{_ _ _} e=>aA ((he.trans e).some mr)
 have hwl:=wi (m:=m) (l:=V.an.aC.reverse.take k) (λx hx=>hin x (List.mem_reverse.1 (aa4 hx)));have htl:(V.an.aC.reverse.take k).length<=32:=by rw[aaQ,abU];omega
 by_cases hlt:k<V.aC.length
 ·have hi:V.aC.length-1-k<V.aC.length:=Om
  have ei:(V.aC.length:Int)-1-k=((V.aC.length-1-k:Nat):Int):=Om
  have e3:decide (0<=(V.aC.length:Int)-1-k)=true:=Z8 Om;have e5:IntKind.i64.wrap ((V.aC.length:Int)-1-k-1)=(V.aC.length:Int)-1-((k+1:Nat):Int):=by rw[bD Om Om];omega
  have ix:bf 4 V.s3 (.i ((V.aC.length:Int)-1-k))=some (cI V.s3 4 (V.aC.length-1-k),.ar):=by rw[ei];exact o.i3.c6 hi
  obtain⟨y,hy⟩:∃y,y=V.aC[V.aC.length-1-k]:=⟨_,rfl⟩;have Ua:y∈V.aC:=by rw[hy];exact aad _
  have ld:∀{kk:ah},Ext (H++g) kk->ao (some 4) (cI V.s3 4 (V.aC.length-1-k)) (λb=>kk[b]?)=some (.agg (aR y),.ar):=λ{kk} e=>by rw[hy];exact o.i3.gP hi ((Tj.trans he).trans e)
  have S9:V.an.aC.reverse.take (k+1)=V.an.aC.reverse.take k++[y.1]:=by
   have hk':k<V.an.aC.reverse.length:=by rw[abU];omega
   rw[aaO,Z6 hk',List.getElem_reverse];simp only[RV.an,abf,aaa,Option.toList_some,hy]
  have oy:=(o.e3 y Ua).one;have hy3:=o.e3 y Ua;unfold aR at ld;refine Rs (A9 t2 t5 t6 e3 @lr @eU ix @ld @oy) ?_;refine WF.ce T.c35 (r35 T (Wy.ext Xx) Om _) λg3=>?_
  cases hd:decide (y.1.name∈cS m (V.an.aC.reverse.take k))with
  |false=>
   refine Rs (A4 t2 t5 t6 e5) ?_;refine⟨_,Om,k+1,ws,Om,rfl,?_,rfl,rfl⟩;rw[S9,qu,aab (of_decide_eq_false hd)];exact Wy.ext Xx
  |true=>
   refine Rs (A3 t2 t5 t6) ?_;obtain⟨H1,XQ⟩:∃H1,H1=H++g++[ak.b [AV.str y.1.name,.str y.1.gives,.str y.1.line,y.2]]++g3:=⟨_,rfl⟩;obtain⟨bx,SG⟩:∃bx,bx=(H++g).length:=⟨_,rfl⟩;have Ug:Ext (H++g) H1:=by rw[XQ];exact Xx
   have mx:H1[bx]? =some (.b [AV.str y.1.name,.str y.1.gives,.str y.1.line,y.2]):=by rw[XQ,SG];exact(show Ext (H++g++[ak.b [AV.str y.1.name,.str y.1.gives,.str y.1.line,y.2]]) _ from Xx).some ba
   have hbl:bx<H1.length:=(Z2.1 mx).1;rw[<-XQ,<-SG];refine pG (λh=>h[bx]? =some (.b [AV.str y.1.name,.str y.1.gives,.str y.1.line,y.2])) ?_;refine dt mx rfl rfl ?_;refine Rs t2 ?_;have x2:Ext H1 (H1++[ak.b []]):=⟨_,rfl⟩;have m2:(λh:ah=>h[bx]? =some (.b [AV.str y.1.name,.str y.1.gives,.str y.1.line,y.2])) (H1++[ak.b []]):=x2.some mx;refine dt m2 rfl rfl ?_;refine Rs (A2 t2 t5) ?_;refine dt m2 rfl rfl ?_;refine Rs (A2 t2 t5) ?_;refine WR.pk (N:=H1.length) ba (aah _) (Wy.ext (Ug.trans x2)) (by simp only[aaa];omega) λs' g5 ZM=>?_
   have x3:Ext H1 (H1++[ak.b []]++g5):=Xx;have m3:(λh:ah=>h[bx]? =some (.b [AV.str y.1.name,.str y.1.gives,.str y.1.line,y.2])) (H1++[ak.b []]++g5):=x3.some mx;refine Rs (A2 t2 t5) ?_;refine dt m3 rfl rfl ?_;refine Rs (A2 t2 t5) ?_;refine lD m3 (v:=y.2) (λz hz=>?_) ?_
   ·simp only[aO,aT,aZ,a8,reduceAdd,reduceMul,reduceLeDiff,reduceEqDiff,bd,hlen,aal,aan,t2,aA hz]
   refine Rs (A2 t2 t5) ?_;refine dt m3 rfl rfl ?_;refine Rs (A2 t2 t5) ?_;have Uk:y.1.bC.length<=2:=hin y.1 (aao Ua);refine WR.F4 (h0:=H1) (ys:=y.1.bC.map aq) ZM (hy3.ext (((Tj.trans he).trans Ug).trans x3)) De (by simp only[aaa];omega) x3 λs6 g6 hf6 hk6 hl6=>?_
   have m6:(λh:ah=>h[bx]? =some (.b [AV.str y.1.name,.str y.1.gives,.str y.1.line,y.2])) (H1++g6):=(Ext.app g6 (Ext.refl H1)).some mx;refine Rs (A2 t2 t5) ?_;refine pF m6 rfl ?_;refine Rs (A4 t2 t5 t6 e5) ?_;refine⟨_,Om,k+1,s6,Om,rfl,⟨_,by rw[XQ];simp only[Z4];rfl⟩,?_,rfl,rfl⟩;rw[S9,qu,aai (abk hd),aae];exact hf6.aY
 ·have e3:decide (0<=(V.aC.length:Int)-1-k)=false:=Z3 Om;have e4:k=V.aC.length:=Om
  refine Rs (A4 t2 t5 t6 e3) ?_;have hns:cS m (V.an.aC.reverse.take k)=cS m V.an.aC.reverse:=by rw[e4,<-hml,<-abU,aaI]
  rw[hns]at Wy hwl;have eu:(na V.an m).map iP.name=(V.aC.filter λx=>decide (x.1.name∈cS m V.an.aC.reverse)).map λx=>x.1.name:=by
   rw[<-pU,je,abJ];rfl
  rw[eu];obtain⟨W,hW⟩:∃W,W=cS m V.an.aC.reverse:=⟨_,rfl⟩;rw[<-hW]at Wy hwl ⊢;have hwl2:W.length<=65:=Om
  clear hwl;refine WL.inv T.mix (λn ts h'=>∃(k:Nat) (out:AV),k<=V.aC.length/\n=V.aC.length-k/\Ext (H++g) h'/\Fr (H++g).length h' out 1 ((((V.aC.take k).filter λx=>decide (x.1.name∈W)).map λx=>x.1.name).map aq)/\
    ts.length=60/\slot ts 2=.ptr h.length 0/\slot ts 5=ws/\slot ts 8=out/\slot ts 9=.i k) V.aC.length
   ⟨0,.af,Om,rfl,.refl _,.nil,Sn,(Sq t2),(Sq t5),Sw,ga⟩ ?_
  clear t2 t5 t6 hlen lr hlt e3 e4 hk htl hns;clear ts k;rintro _ ts _ ⟨k,out,SK,rfl,⟨g2,rfl⟩,hfr,hlen,t2,t5,t8,t9⟩;have SU:Ext (H++g) (H++g++g2):=⟨_,rfl⟩;have lr:∀{kk n a},Ext (H++g++g2) kk->ao n (.ptr h.length a) (λz=>kk[z]?)=dG n a (.b V.row):=λ{_ _ _} e=>aA (((he.trans SU).trans e).some mr)
  by_cases hlt:k<V.aC.length
  ·have e3:=dN hlt;have e5:=wrapN (n:=k) Om;have ix:=o.i3.c6 (kk:=.i64) hlt;obtain⟨y,hy⟩:∃y,y=V.aC[k]:=⟨_,rfl⟩;have lf:∀{kk:ah},Ext (H++g++g2) kk->ao none (jF V.s3 4 k 0) (λb=>kk[b]?)=some (.str y.1.name,.ar):=λ{kk} e=>o.i3.kT hlt (by rw[<-hy];rfl) (((Tj.trans he).trans SU).trans e)
   have S9:V.aC.take (k+1)=V.aC.take k++[y]:=by rw[hy,aaO,Z6 hlt];rfl
   refine Rs (mU t2 t5 t8 t9 @lr @eU o.i3.aH e3 ix @lf) ?_;refine WF.ce T.c35 (r35 T (Wy.ext SU) Om _) λg3=>?_
   cases hd:decide (y.1.name∈W)with
   |false=>
    refine Rs (A5 t2 t5 t8 t9 e5) ?_;exact z72
   |true=>
    refine Rs (A8 t2 t5 t8 t9 @lr @eU ix @lf) ?_;have Tg:((V.aC.take k).filter λx=>decide (x.1.name∈W)).length<=V.aC.length:=aaT (aaF _ _) (by rw[aaQ];omega);refine WR.fg (h0:=H++g) (cs:=(((V.aC.take k).filter λx=>decide (x.1.name∈W)).map λx=>x.1.name).map aq) (ys:=[aq y.1.name]) ((hfr.app _).app _) (Fr.push (N:=0) (aaC _) [aq y.1.name] (by simp[aq])).aY De Si (by simp only[aaa,Z5,Z9];omega) (by rw[Z4,Z4];exact⟨_,rfl⟩) ?_;intro g' SP hff hkp;have hrow:(((V.aC.take k).filter λx=>decide (x.1.name∈W)).map λx=>x.1.name).map aq++[aq y.1.name]=(((V.aC.take (k+1)).filter λx=>decide (x.1.name∈W)).map λx=>x.1.name).map aq:=by
     exact NZ
    rw[hrow]at hff;rw[hrow];refine Rs (A5 t2 t5 t8 t9 e5) ?_;exact HC
  ·have e3:=eF hlt;have e4:k=V.aC.length:=Om
   refine Rs (A8 t2 t5 t8 t9 @lr @eU o.i3.aH e3) ?_;rw[e4,aaI]at hfr;exact⟨(Tj.trans he).trans SU,hfr.aY⟩
def r59{V}(o:aB h V)(w:eS V.an)(m:By):ay P 59 [.agg V.row,.str m] h (λv h'=>aI h' v 1 (((jl V.an m).map gN.name).map aq)):=by
 refine .eX 64 T.mix T.c59 ?_;intro ts hlen t0 t1;unfold fn59 gA;have SG:=@aB.box _ _ o;have l:=w.len;have hn32:V.aC.length<=32:=by have:=w.l3;simpa [RV.an]using this
 have hml:V.an.aC.length=V.aC.length:=by simp[RV.an]
 refine Rs (A4 t0 t1 @SG @aG) ?_;refine WF.res T.c58 (r58 T (o.ext Xx) w m) ?_;rintro ns g0 hns;obtain⟨M,hM⟩:∃M,M=na V.an m:=⟨_,rfl⟩;rw[<-hM]at hns;have hMm:∀x∈M,x∈V.an.aC:=λx hx=>by rw[hM]at hx;exact(aa6.1 hx).1
 have hMl:M.length<=32:=by
  have h1:M.length<=V.an.aC.length:=by rw[hM];unfold na;exact aaF _ _
  omega
 obtain⟨H,hH⟩:∃H,H=h++[ak.b V.row]++g0:=⟨_,rfl⟩;have Tj:Ext h H:=by rw[hH];exact Xx
 have mr:H[h.length]? =some (.b V.row):=by rw[hH];exact(show Ext (h++[ak.b V.row]) _ from Xx).some ba
 rw[<-hH]at hns ⊢;rw[abJ]at hns;refine Rs (A2 t0 t1) ?_;obtain⟨F,hF⟩:∃F:List iP->List (By),F=λl=>(l.filter λx=>decide (x.bC=[])).map iP.line:=⟨_,rfl⟩
 refine WL.inv T.mix (λn ts h'=>∃(k:Nat) (out:AV),k<=M.length/\n=M.length-k/\Ext H h'/\Fr H.length h' out 1 ((F (M.take k)).map aq)/\
   ts.length=64/\slot ts 2=.ptr h.length 0/\slot ts 5=ns/\slot ts 6=out/\slot ts 7=.af/\slot ts 8=.i k) M.length
  ⟨0,.af,Om,rfl,.refl _,(by rw[hF];exact .nil),Sn,Sw,Sw,Sw,Sw,ga⟩ ?_
 rintro _ ts _ ⟨k,out,hk,rfl,⟨g,rfl⟩,hfr,hlen,t2,t5,t6,t7,t8⟩;have he:Ext H (H++g):=⟨_,rfl⟩;have lr:∀{kk n a},Ext (H++g) kk->ao n (.ptr h.length a) (λz=>kk[z]?)=dG n a (.b V.row):=λ{_ _ _} e=>aA ((he.trans e).some mr)
 have hFl:∀j,(F (M.take j)).length<=M.length:=λj=>by
  rw[hF];simp only[aaa];exact aaT (aaF _ _) (by rw[aaQ];omega)
 by_cases hlt:k<M.length
 ·have e3:=dN hlt;have e5:=wrapN (n:=k) Om;have ix:=hns.c6 (kk:=.i64) hlt;obtain⟨x,hx⟩:∃x,x=M[k]:=⟨_,rfl⟩;have Ta:x∈V.an.aC:=hMm x (by rw[hx];exact aad _);have lf:∀{kk:ah},Ext (H++g) kk->ao none (cI ns 1 k) (λb=>kk[b]?)=some (.str x.name,.ar):=λ{kk} e=>hns.lC hlt (by rw[<-hx];rfl) (he.trans e)
  have Vr:x.name∈iC V.an:=aao Ta;have hps:=cN Vr;have Up:bn (iC V.an) x.name<V.aC.length:=by simpa [iC,RV.an]using hps
  have iy:bf 4 V.s3 (.i ((bn (iC V.an) x.name:Nat):Int))=some (cI V.s3 4 (bn (iC V.an) x.name),.ar):=o.i3.c6 Up;obtain⟨y,hy⟩:∃y,y=V.aC[bn (iC V.an) x.name]:=⟨_,rfl⟩;have Ua:y∈V.aC:=by rw[hy];exact aad _
  have XV:y.1=x:=by
   have e1:=EX w Ta;rw[iG,de (f:=iP.name) (l:=V.an.aC) (d:=CQ) Vr]at e1;rw[<-e1,hy];exact BB
  have ly:∀{kk:ah},Ext (H++g) kk->ao (some 4) (cI V.s3 4 (bn (iC V.an) x.name)) (λb=>kk[b]?)=some (.agg (aR y),.ar):=λ{kk} e=>by rw[hy];exact o.i3.gP Up ((Tj.trans he).trans e)
  have S9:M.take (k+1)=M.take k++[x]:=by rw[hx,aaO,Z6 hlt];rfl
  have oy:=o.e3 y Ua;have UA:=oy.one;unfold aR at ly;refine Rs (nT t2 t5 t6 t7 t8 hns.aH e3 @lr @eU @aG ix @lf) ?_;refine WF.ce T.c55 (r55 T ((o.ext (Tj.trans he)).ext Xx) l _) λg1=>?_
  have ei:cV (λy:iP×AV=>decide (y.1.name=x.name)) V.aC=(bn (iC V.an) x.name:Int):=by
   rw[iS];exact fp (f:=λy:iP×AV=>y.1.name) (by rw[<-iS];exact Vr)
  rw[ei];refine Rs (A9 t2 t5 t6 t7 t8 @iy @ly @UA oy.aH) ?_;rw[XV];by_cases hin:x.bC=[]
  ·have q:decide ((x.bC.length:Int)=0)=true:=Z8 (by rw[hin];rfl);refine Rs (A6 t2 t5 t6 t7 t8 q) ?_;have Tg:=hFl k;refine WR.fg (h0:=H) (cs:=(F (M.take k)).map aq) (ys:=[aq x.line]) (((hfr.app _).app _).app _) (Fr.push (N:=0) (aaC _) [aq x.line] (by simp[aq])).aY De Si (by simp only[aaa,Z5,Z9];omega) (by simp only[Z4];exact⟨_,rfl⟩) ?_;intro g' SP hff hkp;have hrow:(F (M.take k)).map aq++[aq x.line]=(F (M.take (k+1))).map aq:=by
    rw[S9,hF];simp only[aaZ,abi,ab3,hin,aaq,aan,aae,aaX,abF]
   rw[hrow]at hff;rw[hrow];refine Rs (A6 t2 t5 t6 t7 t8 e5) ?_;exact HC
  ·have q:decide ((x.bC.length:Int)=0)=false:=Z3 (λz=>hin (aa9.1 Om));refine Rs (A7 t2 t5 t6 t7 t8 q e5) ?_;refine⟨_,Om,k+1,out,Om,rfl,?_,rfl,rfl⟩;have:F (M.take (k+1))=F (M.take k):=by
    rw[S9,hF];simp only[aaZ,abi,ab3,hin,aaz,aaU,aal,aaw]
   rw[this];exact(hfr.app _).app _
 ·have e3:=eF hlt;have e4:k=M.length:=Om
  rw[e4,aaI]at hfr;have Tg:=hFl M.length;rw[aaI]at Tg;have hsrc:∀y∈V.lines,decide (y.name∈F M)=decide (y.name∈(na V.an m).map iP.line):=λy hy=>by
   refine abK.2 ?_;rw[<-hM,hF];simp only[aaA,aa6,aaK];constructor
   ·rintro⟨x,⟨h1,_⟩,h2⟩;exact⟨x,h1,h2⟩
   ·rintro⟨x,h1,h2⟩;refine⟨x,⟨h1,?_⟩,h2⟩;rcases(w.md x (hMm x h1)).1 with⟨a,_⟩|⟨_,a⟩
    ·exact a
    ·have hnn:=w.n0.nm y.name (aao hy);rw[<-h2,a]at hnn;cases hnn
  have eu:(jl V.an m).map gN.name=(V.lines.filter λy=>decide (y.name∈F M)).map gN.name:=by
   rw[jl];congr 1;exact(List.filter_congr λy hy=>hsrc y hy).symm
  rw[eu];obtain⟨W,hW⟩:∃W,W=F M:=⟨_,rfl⟩;rw[<-hW]at hfr Tg ⊢;have Wy:=hfr.aY;refine Rs (A7 t2 t5 t6 t7 t8 hns.aH e3) ?_;refine WL.inv T.mix (λn ts h'=>∃(k:Nat) (res:AV),k<=V.lines.length/\n=V.lines.length-k/\Ext (H++g) h'/\Fr (H++g).length h' res 1 ((((V.lines.take k).filter λy=>decide (y.name∈W)).map gN.name).map aq)/\
    ts.length=64/\slot ts 2=.ptr h.length 0/\slot ts 6=out/\slot ts 7=res/\slot ts 10=.i k) V.lines.length
   ⟨0,.af,Om,rfl,.refl _,.nil,Sn,(Sq t2),(Sq t6),(Sq t7),ga⟩ ?_
  clear t2 t5 t6 t7 t8 hlen lr hlt e3 e4 hk;clear ts k;rintro _ ts _ ⟨k,res,SK,rfl,⟨g2,rfl⟩,Vv,hlen,t2,t6,t7,t10⟩;have SU:Ext (H++g) (H++g++g2):=⟨_,rfl⟩;have lr:∀{kk n a},Ext (H++g++g2) kk->ao n (.ptr h.length a) (λz=>kk[z]?)=dG n a (.b V.row):=λ{_ _ _} e=>aA (((he.trans SU).trans e).some mr)
  have U5:=l.l0;by_cases hlt:k<V.lines.length
  ·have e3:=dN hlt;have e5:=wrapN (n:=k) Om;have ix:=o.i0.c6 (kk:=.i64) hlt;obtain⟨y,hy⟩:∃y,y=V.lines[k]:=⟨_,rfl⟩;have lf:∀{kk:ah},Ext (H++g++g2) kk->ao none (jF V.s0 3 k 0) (λb=>kk[b]?)=some (.str y.name,.ar):=λ{kk} e=>o.i0.kT hlt (by rw[<-hy];rfl) (((Tj.trans he).trans SU).trans e)
   have S9:V.lines.take (k+1)=V.lines.take k++[y]:=by rw[hy,aaO,Z6 hlt];rfl
   refine Rs (mU t2 t6 t7 t10 @lr @eJ o.i0.aH e3 ix @lf) ?_;refine WF.ce T.c35 (r35 T (Wy.ext SU) Om _) λg3=>?_
   cases hd:decide (y.name∈W)with
   |false=>
    refine Rs (A5 t2 t6 t7 t10 e5) ?_;refine⟨_,Om,k+1,res,Om,rfl,?_,rfl,rfl⟩;rw[S9,aaZ];simp only[abi,ab3,hd,aaU,aal,aaw];exact Vv.app _
   |true=>
    refine Rs (A8 t2 t6 t7 t10 @lr @eJ ix @lf) ?_;have hfl2:((V.lines.take k).filter λy=>decide (y.name∈W)).length<=V.lines.length:=aaT (aaF _ _) (by rw[aaQ];omega);refine WR.fg (h0:=H++g) (cs:=(((V.lines.take k).filter λy=>decide (y.name∈W)).map gN.name).map aq) (ys:=[aq y.name]) ((Vv.app _).app _) (Fr.push (N:=0) (aaC _) [aq y.name] (by simp[aq])).aY De Si (by simp only[aaa,Z5,Z9];omega) (by rw[Z4,Z4];exact⟨_,rfl⟩) ?_;intro g' SP hff hkp;have hrow:(((V.lines.take k).filter λy=>decide (y.name∈W)).map gN.name).map aq++[aq y.name]=(((V.lines.take (k+1)).filter λy=>decide (y.name∈W)).map gN.name).map aq:=by
     exact NZ
    rw[hrow]at hff;rw[hrow];refine Rs (A5 t2 t6 t7 t10 e5) ?_;exact HC
  ·have e3:=eF hlt;have e4:k=V.lines.length:=Om
   refine Rs (A8 t2 t6 t7 t10 @lr @eJ o.i0.aH e3) ?_;rw[e4,aaI]at Vv;exact⟨(Tj.trans he).trans SU,Vv.aY⟩
end
def vF{s c}:iY (s++[c])=(339*iY s+(c.toNat:Int)).tmod 9999749:=by simp[iY]
theorem y5:∀(s:By) (a:Int),0<=a/\a<9999749->0<=s.foldl (λx c=>(339*x+(c.toNat:Int)).tmod 9999749) a/\s.foldl (λx c=>(339*x+(c.toNat:Int)).tmod 9999749) a<9999749
 |[],_,h=>h
 |c::s,a,h=>by
  rw[ab5];exact y5 s _ ⟨Int.tmod_nonneg _ Om,Int.tmod_lt_of_pos _ Om⟩
def nW(s:By):0<=iY s/\iY s<9999749:=y5 s 1 Om
def ur(s:By):(j6 (iY s)).length<=7:=by
 have:=nW s;rw[k5];exact mI (k:=6) Om
def vE(s:By):(nV s).length=7:=by
 have:=ur s;unfold nV;rw[Z1,abd];omega
theorem sd{c}:∀{xs},Lib.join xs [c]=jN c xs
 |[]=>rfl
 |[x]=>Lib.join_one x [c]
 |x::y::r=>by
  rw[nL Si,<-sd (xs:=y::r),Lib.join_cons,Lib.join_cons];simp[Lib.joinTail]
def C4:∀{xs},Lib.join xs []=xs.flatten
 |[]=>rfl
 |x::r=>by rw[Lib.join_cons];simp[Lib.joinTail]
section
variable {P:Program}(T:fq P) (Z:qQ P) {h:ah}
include T Z
set_option maxRecDepth 10000 in
def r187(s:By)(hs:s.length<=2^40)(w:Pw h):ay P 187 [.str s] h (λv _=>v=.str (nV s)):=by
 refine .kM 28 T.mix T.c187 ?_;intro ts hlen t0;unfold fn187 gA;refine Rs t0 ?_;refine WL.inv T.mix (λn ts' h'=>∃k:Nat,k<=s.length/\n=s.length-k/\h' =h/\ts'.length=28/\slot ts' 0=.str s/\slot ts' 3=.i (iY (s.take k))/\slot ts' 7=.i s.length/\slot ts' 8=.i k) s.length
  ⟨0,Om,rfl,rfl,(Sq t0),(Sq t0),ga,(Sq t0),ga⟩ ?_
 rintro _ ts' _ ⟨k,hk,rfl,rfl,T7,u0,u3,u7,u8⟩;clear hlen t0;have hlen:=T7;by_cases hlt:k<s.length
 ·have e3:=dN hlt;have hb:=nW (s.take k);have hcn:=UInt8.toNat_lt s[k];have w1:IntKind.i64.wrap (339*iY (s.take k))=339*iY (s.take k):=bD Om Om;have w2:IntKind.i64.wrap (s[k].toNat:Int)=(s[k].toNat:Int):=bD Om Om;have w3:IntKind.i64.wrap (339*iY (s.take k)+(s[k].toNat:Int))=339*iY (s.take k)+(s[k].toNat:Int):=bD Om Om;have er:=pf (k:=.i64) (a:=339*iY (s.take k)+(s[k].toNat:Int)) (b:=9999749) De;rw[<-vF,<-nB hlt]at er
  repeat (first|simp (config:={maxSteps:=1000000}) only[aO,aT,aZ,a8,reduceAdd,reduceMul,reduceLeDiff,reduceEqDiff,bd,hlen,aal,aan,u0,u3,u7,u8,e3,ke hlt,w1,w2,w3,er,wrapN (show k+1<2^63 by omega)]|simp (config:={maxSteps:=1000000}) (disch:=first|(simp only[Z1,Z5,Z9]<;>omega)|rfl|omega|fail) only[dX,aO,aT,aZ,a8,reduceAdd,reduceMul,reduceLeDiff,reduceEqDiff,bd,hlen,aal,aan,u0,u3,u7,u8,e3,ke hlt,w1,w2,w3,er,wrapN (show k+1<2^63 by omega)])
  exact z182
 ·have e3:=eF hlt;have ek:k=s.length:=Om
  rw[ek,aaI]at u3;have hb:=nW s;have hl:=ur s;refine Rs (A5 @u0 @u3 @u7 @u8 e3) ?_;refine WF.ce T.c113 (Z.itoa Om Om w) λg=>?_
  rw[gY hb.1];have w1:IntKind.i64.wrap (7-((j6 (iY s)).length:Int))=((7-(j6 (iY s)).length:Nat):Int):=by rw[bD Om Om];omega
  refine Rs (A2 @u0 @w1) ?_;refine WF.ce T.c252 (Z.rep Om) λg2=>?_
  refine Rs (A2 @u0 (j7 (show(List.replicate (7-(j6 (iY s)).length) (48:UInt8)).length+(j6 (iY s)).length<2^62 by rw[abd];omega))) ?_;rfl
def yY{x}(h0:0<=x)(h1:x<2^62)(w:Pw h):bH P (.func (.func 113) [] []) [.i x] h (λv _=>v=.str (j6 x)):=by
 rw[<-gY h0];exact bH.of (a:=[]) (c:=[]) T.c113 (Z.itoa Om Om w)
end
structure Q4(e:cY):Prop where
 num:0<=e.num/\e.num<2^62
 cw:∀x∈e.cw,0<=x/\x<2^62
 nl:e.names.length<=2^30
 vl:e.cw.length<=2^30
 bl:(ji e).length<=2^38
section
variable {P:Program}(T:fq P) (Z:qQ P) {h:ah}
include T Z
set_option maxRecDepth 10000 in
def r186{x}(ox:bh h x)(en:Q4 x.ev)(w:Pw h):ay P 186 [.agg x.row] h (λv _=>v=.str (ji x.ev)):=by
 refine .kM 19 T.mix T.c186 ?_;intro ts hlen t0;unfold fn186 gA;have SG:=@bh.box _ _ ox;have hnl:=en.nl;have Ty:=en.vl;refine Rs (A5 t0 @SG @mh @bB @aS) ?_;refine WF.ce T.c113 (Z.itoa (by have:=en.num;omega) (by have:=en.num;omega) (w.ext Xx)) λg1=>?_
 rw[gY en.num.1];refine Rs (A4 t0 @mh @bB @aS) ?_;have hF:=Fr.push (N:=h.length) (h:=h++[ak.b x.row]++g1) (es:=1) (by simp only[Z1];omega) (([j6 x.ev.num,x.ev.kind] :List (By)).map aq) (by simp[aq]);refine WR.F4 (h0:=h) (cs:=([j6 x.ev.num,x.ev.kind] :List (By)).map aq) (ys:=x.ev.names.map aq) hF (ox.n.ext Xx) De (by simp;omega) Xx ?_;intro s' g hfr hkp hle;rw[<-aae]at hfr;have Tm:(h++g)[h.length]? =some (.b x.row):=by
  rw[hkp _ (by simp only[Z1,aau];omega) (λe=>by have e2:(h++[ak.b x.row]++g1).length=h.length:=aa0 e;simp only[Z1,aau]at e2;omega)];simp
 have lb:∀{k:ah}{n':Option Nat}{a:Nat},Ext (h++g) k->ao n' (.ptr h.length a) (λz=>k[z]?)=dG n' a (.b x.row):=λe=>aA (e.some Tm)
 refine Rs (A3 t0 @lb @bg) ?_;refine WF.res T.c199 (r199 T (ox.v.ext Xx) Om j6 (λy hy k ek=>yY T Z (en.cw y hy).1 (en.cw y hy).2 (w.ext (Ext.trans Xx ek)))) ?_;intro v g2 hv;refine Rs t0 ?_;refine WR.F4 (h0:=h) (hfr.app g2) hv.aY De (by simp;omega) Xx ?_;intro s2 g3 Vv hkp2 Vu;rw[<-aae]at Vv;refine Rs t0 ?_;have hbl:=en.bl;refine WF.ce T.c114 (Z.join Vv.aY ⟨by rw[sd];show(ji x.ev).length<=_;omega,by simp;omega⟩) λg4=>?_
 refine Rs t0 ?_;rw[sd];rfl
set_option maxRecDepth 10000 in
def r97{x}(ox:bh h x)(en:Q4 x.ev)(w:Pw h):ay P 97 [.agg x.row] h (λv _=>v=.str (vV x.ev)):=by
 refine .kM 12 T.mix T.c97 ?_;intro ts hlen t0;unfold fn97 gA;have SG:=@bh.box _ _ ox;have hbl:=en.bl;refine Rs (A3 t0 @SG @bR) ?_;refine WF.ce T.c186 (r186 T Z (ox.ext Xx) en (w.ext Xx)) λg=>?_
 refine Rs (A2 t0 (j7 (show(ji x.ev).length+([35] :By).length<2^62 by simp;omega))) ?_;refine WF.ce T.c187 (r187 T Z _ Om (w.ext Xx)) λg2=>?_
 have h7:=vE (ji x.ev);refine Rs (A3 t0 (j7 (show(ji x.ev++[35]).length+(nV (ji x.ev)).length<2^62 by simp;omega)) (j7 (show(ji x.ev++[35]++nV (ji x.ev)).length+([10] :By).length<2^62 by simp;omega))) ?_;rfl
theorem CD{e}:(vV e).length=(ji e).length+9:=by
 have:=vE (ji e);unfold vV;simp;omega
end
def Ext.iJ{h W b X}(e:Ext h W)(hb:h.length<=b):Ext h (W.set b X):=by
 obtain⟨g,rfl⟩:=e;exact⟨g.set (b-h.length) X,aa1 _ _ hb⟩
structure fw(B W0:ah)(b:Nat)(K:Nat->Prop)(W:ah)(U:RV):Prop where
 bk:b9 B.length W b U
 ex:Ext B W
 ln:W0.length<=W.length
 kp:∀i,K i->W[i]? =W0[i]?
 kl:∀i,K i->i<W0.length/\i≠b/\some i∉U.bl
section
variable {B W0 W W2:ah}{b:Nat}{K:Nat->Prop}{U:RV}(s:fw B W0 b K W U)
include s
def fw.grow(e:Ext W W2):fw B W0 b K W2 U:=by
 obtain⟨g,rfl⟩:=e;refine⟨s.bk.app g,s.ex.trans ⟨g,rfl⟩,aaT s.ln Si,λi hi=>?_,s.kl⟩;rw[Z7 (aaY (s.kl i hi).1 s.ln)];exact s.kp i hi
omit s in
theorem QK{L s' i}(h:some i∈{U with lines:=L,s0:=s'}.bl):some i∈U.bl\/sB s' =some i:=by
 exact JS
def fw.p0{L s'}(hff:Fr B.length W2 s' 3 (L.map bw))(hn:∀i,sB s' =some i->sB U.s0=some i\/W.length<=i)(hk:∀i,i<W.length->sB U.s0≠some i->W2[i]? =W[i]?)(hx:Ext B W2)(hl:W.length<=W2.length):
  fw B W0 b K (W2.set b (.b (U.row.set 1 s'))) {U with lines:=L,s0:=s'}:=by
 have hbl:=s.bk.lt;have SY:sB U.s0≠some b:=λz=>s.bk.ne (by rw[<-z];simp[RV.bl])
 have hsb:∀i,sB s' =some i->i≠b:=λi hi z=>by
  exact JP
 obtain⟨X,hX⟩:∃X,X=ak.b (U.row.set 1 s'):=⟨_,rfl⟩;rw[<-hX];have g2:∀i,i≠b->(W2.set b X)[i]? =W2[i]? :=λi hi=>aaj (abo hi)
 have gb:(W2.set b X)[b]? =some X:=aak Om;refine⟨s.bk.NJ (hff.aD λi hi=>g2 i (hsb i hi)) hn (by rw[hX]at gb ⊢;exact gb) (λi hi h1 h2=>(g2 i h2).trans (hk i hi h1)),hx.iJ s.bk.hN,by rw[aaL];exact aaT s.ln hl,λi hi=>?_,λi hi=>?_⟩
 ·exact JT
 ·obtain⟨h1,h2,h3⟩:=s.kl i hi;refine⟨h1,h2,λhm=>?_⟩;rcases QK hm with z|z
  ·exact h3 z
  ·exact z93
def fw.q0{L}(hff:Fr B.length W2 U.s0 3 (L.map bw))(hk:∀i,i<W.length->sB U.s0≠some i->W2[i]? =W[i]?)(hx:Ext B W2)(hl:W.length<=W2.length):fw B W0 b K W2 {U with lines:=L}:=by
 have hbl:=s.bk.lt;have SY:sB U.s0≠some b:=λz=>s.bk.ne (by rw[<-z];simp[RV.bl])
 refine⟨s.bk.NJ (s:=U.s0) hff (λi hi=>.inl hi) ((hk b hbl SY).trans s.bk.m) (λi hi h1 _=>hk i hi h1),hx,aaT s.ln hl,λi hi=>?_,s.kl⟩;exact z116
omit s in
theorem QJ{L s' i}(h:some i∈{U with aE:=L,s1:=s'}.bl):some i∈U.bl\/sB s' =some i:=by
 exact JS
def fw.p1{L s'}(hff:Fr B.length W2 s' 2 (L.map cB))(hn:∀i,sB s' =some i->sB U.s1=some i\/W.length<=i)(hk:∀i,i<W.length->sB U.s1≠some i->W2[i]? =W[i]?)(hx:Ext B W2)(hl:W.length<=W2.length):
  fw B W0 b K (W2.set b (.b (U.row.set 2 s'))) {U with aE:=L,s1:=s'}:=by
 have hbl:=s.bk.lt;have SY:sB U.s1≠some b:=λz=>s.bk.ne (by rw[<-z];simp[RV.bl])
 have hsb:∀i,sB s' =some i->i≠b:=λi hi z=>by
  exact JP
 obtain⟨X,hX⟩:∃X,X=ak.b (U.row.set 2 s'):=⟨_,rfl⟩;rw[<-hX];have g2:∀i,i≠b->(W2.set b X)[i]? =W2[i]? :=λi hi=>aaj (abo hi)
 have gb:(W2.set b X)[b]? =some X:=aak Om;refine⟨s.bk.RN (hff.aD λi hi=>g2 i (hsb i hi)) hn (by rw[hX]at gb ⊢;exact gb) (λi hi h1 h2=>(g2 i h2).trans (hk i hi h1)),hx.iJ s.bk.hN,by rw[aaL];exact aaT s.ln hl,λi hi=>?_,λi hi=>?_⟩
 ·exact JT
 ·obtain⟨h1,h2,h3⟩:=s.kl i hi;refine⟨h1,h2,λhm=>?_⟩;rcases QJ hm with z|z
  ·exact h3 z
  ·exact z93
omit s in
theorem QF{L s' i}(h:some i∈{U with aJ:=L,s5:=s'}.bl):some i∈U.bl\/sB s' =some i:=by
 exact JS
def fw.p5{L s'}(hff:Fr B.length W2 s' 4 (L.map cD))(hn:∀i,sB s' =some i->sB U.s5=some i\/W.length<=i)(hk:∀i,i<W.length->sB U.s5≠some i->W2[i]? =W[i]?)(hx:Ext B W2)(hl:W.length<=W2.length):
  fw B W0 b K (W2.set b (.b (U.row.set 6 s'))) {U with aJ:=L,s5:=s'}:=by
 have hbl:=s.bk.lt;have SY:sB U.s5≠some b:=λz=>s.bk.ne (by rw[<-z];simp[RV.bl])
 have hsb:∀i,sB s' =some i->i≠b:=λi hi z=>by
  exact JP
 obtain⟨X,hX⟩:∃X,X=ak.b (U.row.set 6 s'):=⟨_,rfl⟩;rw[<-hX];have g2:∀i,i≠b->(W2.set b X)[i]? =W2[i]? :=λi hi=>aaj (abo hi)
 have gb:(W2.set b X)[b]? =some X:=aak Om;refine⟨s.bk.NI (hff.aD λi hi=>g2 i (hsb i hi)) hn (by rw[hX]at gb ⊢;exact gb) (λi hi h1 h2=>(g2 i h2).trans (hk i hi h1)),hx.iJ s.bk.hN,by rw[aaL];exact aaT s.ln hl,λi hi=>?_,λi hi=>?_⟩
 ·exact JT
 ·obtain⟨h1,h2,h3⟩:=s.kl i hi;refine⟨h1,h2,λhm=>?_⟩;rcases QF hm with z|z
  ·exact h3 z
  ·exact z93
def fw.q5{L}(hff:Fr B.length W2 U.s5 4 (L.map cD))(hk:∀i,i<W.length->sB U.s5≠some i->W2[i]? =W[i]?)(hx:Ext B W2)(hl:W.length<=W2.length):fw B W0 b K W2 {U with aJ:=L}:=by
 have hbl:=s.bk.lt;have SY:sB U.s5≠some b:=λz=>s.bk.ne (by rw[<-z];simp[RV.bl])
 refine⟨s.bk.NI (s:=U.s5) hff (λi hi=>.inl hi) ((hk b hbl SY).trans s.bk.m) (λi hi h1 _=>hk i hi h1),hx,aaT s.ln hl,λi hi=>?_,s.kl⟩;exact z116
omit s in
theorem QI{y t s' i}(h:some i∈{U with aj:=U.aj++[(y,t)],s2:=s'}.bl):some i∈U.bl\/sB s' =some i\/sB t=some i:=by
 exact JS
def fw.p2{y t s'}(hff:Fr B.length W2 s' 3 ((U.aj++[(y,t)]).map aU))(ht:Fr B.length W2 t 1 (y.aE.map aq))(hn:∀i,sB s' =some i->sB U.s2=some i\/W.length<=i)(hnt:∀i,sB t=some i->W.length<=i/\sB s'≠some i)(hk:∀i,i<W.length->sB U.s2≠some i->W2[i]? =W[i]?)(hx:Ext B W2)(hl:W.length<=W2.length):
  fw B W0 b K (W2.set b (.b (U.row.set 3 s'))) {U with aj:=U.aj++[(y,t)],s2:=s'}:=by
 have hbl:=s.bk.lt;have SY:sB U.s2≠some b:=λz=>s.bk.ne (by rw[<-z];simp[RV.bl])
 have hsb:∀i,sB s' =some i->i≠b:=λi hi z=>by
  exact JP
 have htb:∀i,sB t=some i->i≠b:=λi hi z=>by
  exact Ad
 obtain⟨X,hX⟩:∃X,X=ak.b (U.row.set 3 s'):=⟨_,rfl⟩;rw[<-hX];have g2:∀i,i≠b->(W2.set b X)[i]? =W2[i]? :=λi hi=>aaj (abo hi)
 have gb:(W2.set b X)[b]? =some X:=aak Om;refine⟨s.bk.RM (hff.aD λi hi=>g2 i (hsb i hi)) (ht.aD λi hi=>g2 i (htb i hi)) hn hnt (by rw[hX]at gb ⊢;exact gb) (λi hi h1 h2=>(g2 i h2).trans (hk i hi h1)),hx.iJ s.bk.hN,by rw[aaL];exact aaT s.ln hl,λi hi=>?_,λi hi=>?_⟩
 ·exact JT
 ·obtain⟨h1,h2,h3⟩:=s.kl i hi;have X8:=s.ln;refine⟨h1,h2,λhm=>?_⟩;rcases QI hm with z|z|z
  ·exact h3 z
  ·rcases hn i z with z|z
   ·exact z105
   ·omega
  ·have:=(hnt i z).1;omega
omit s in
theorem QH{y t s' i}(h:some i∈{U with aC:=U.aC++[(y,t)],s3:=s'}.bl):some i∈U.bl\/sB s' =some i\/sB t=some i:=by
 exact JS
def fw.p3{y t s'}(hff:Fr B.length W2 s' 4 ((U.aC++[(y,t)]).map aR))(ht:Fr B.length W2 t 1 (y.bC.map aq))(hn:∀i,sB s' =some i->sB U.s3=some i\/W.length<=i)(hnt:∀i,sB t=some i->W.length<=i/\sB s'≠some i)(hk:∀i,i<W.length->sB U.s3≠some i->W2[i]? =W[i]?)(hx:Ext B W2)(hl:W.length<=W2.length):
  fw B W0 b K (W2.set b (.b (U.row.set 4 s'))) {U with aC:=U.aC++[(y,t)],s3:=s'}:=by
 have hbl:=s.bk.lt;have SY:sB U.s3≠some b:=λz=>s.bk.ne (by rw[<-z];simp[RV.bl])
 have hsb:∀i,sB s' =some i->i≠b:=λi hi z=>by
  exact JP
 have htb:∀i,sB t=some i->i≠b:=λi hi z=>by
  exact Ad
 obtain⟨X,hX⟩:∃X,X=ak.b (U.row.set 4 s'):=⟨_,rfl⟩;rw[<-hX];have g2:∀i,i≠b->(W2.set b X)[i]? =W2[i]? :=λi hi=>aaj (abo hi)
 have gb:(W2.set b X)[b]? =some X:=aak Om;refine⟨s.bk.RL (hff.aD λi hi=>g2 i (hsb i hi)) (ht.aD λi hi=>g2 i (htb i hi)) hn hnt (by rw[hX]at gb ⊢;exact gb) (λi hi h1 h2=>(g2 i h2).trans (hk i hi h1)),hx.iJ s.bk.hN,by rw[aaL];exact aaT s.ln hl,λi hi=>?_,λi hi=>?_⟩
 ·exact JT
 ·obtain⟨h1,h2,h3⟩:=s.kl i hi;have X8:=s.ln;refine⟨h1,h2,λhm=>?_⟩;rcases QH hm with z|z|z
  ·exact h3 z
  ·rcases hn i z with z|z
   ·exact z105
   ·omega
  ·have:=(hnt i z).1;omega
omit s in
theorem QG{y t s' i}(h:some i∈{U with aF:=U.aF++[(y,t)],s4:=s'}.bl):some i∈U.bl\/sB s' =some i\/sB t=some i:=by
 exact JS
def fw.p4{y t s'}(hff:Fr B.length W2 s' 3 ((U.aF++[(y,t)]).map bF))(ht:Fr B.length W2 t 1 (y.bE.map aM))(hn:∀i,sB s' =some i->sB U.s4=some i\/W.length<=i)(hnt:∀i,sB t=some i->W.length<=i/\sB s'≠some i)(hk:∀i,i<W.length->sB U.s4≠some i->W2[i]? =W[i]?)(hx:Ext B W2)(hl:W.length<=W2.length):
  fw B W0 b K (W2.set b (.b (U.row.set 5 s'))) {U with aF:=U.aF++[(y,t)],s4:=s'}:=by
 have hbl:=s.bk.lt;have SY:sB U.s4≠some b:=λz=>s.bk.ne (by rw[<-z];simp[RV.bl])
 have hsb:∀i,sB s' =some i->i≠b:=λi hi z=>by
  exact JP
 have htb:∀i,sB t=some i->i≠b:=λi hi z=>by
  exact Ad
 obtain⟨X,hX⟩:∃X,X=ak.b (U.row.set 5 s'):=⟨_,rfl⟩;rw[<-hX];have g2:∀i,i≠b->(W2.set b X)[i]? =W2[i]? :=λi hi=>aaj (abo hi)
 have gb:(W2.set b X)[b]? =some X:=aak Om;refine⟨s.bk.RK (hff.aD λi hi=>g2 i (hsb i hi)) (ht.aD λi hi=>g2 i (htb i hi)) hn hnt (by rw[hX]at gb ⊢;exact gb) (λi hi h1 h2=>(g2 i h2).trans (hk i hi h1)),hx.iJ s.bk.hN,by rw[aaL];exact aaT s.ln hl,λi hi=>?_,λi hi=>?_⟩
 ·exact JT
 ·obtain⟨h1,h2,h3⟩:=s.kl i hi;have X8:=s.ln;refine⟨h1,h2,λhm=>?_⟩;rcases QG hm with z|z|z
  ·exact h3 z
  ·rcases hn i z with z|z
   ·exact z105
   ·omega
  ·have:=(hnt i z).1;omega
def fw.qJ{i}(hi:i<U.aF.length){y}(hy:y.name=U.aF[i].1.name/\y.mod=U.aF[i].1.mod)(hf:Fr B.length W2 U.aF[i].2 1 (y.bE.map aM))(hk:∀j,j<W.length->sB U.aF[i].2≠some j->W2[j]? =W[j]?)(hx:Ext B W2)(hl:W.length<=W2.length):
  fw B W0 b K W2 {U with aF:=U.aF.set i (y,U.aF[i].2) }:=by
 have Us:sB U.aF[i].2∈U.bl:=by simp only[RV.bl,aac,aaA];exact .inr ⟨_,aad hi,rfl⟩
 have hbl:{U with aF:=U.aF.set i (y,U.aF[i].2) }.bl=U.bl:=by
  simp only[RV.bl,ab9];congr 1;have:sB U.aF[i].2=(U.aF.map λx=>sB x.2)[i]'(by simpa using hi):=Si
  exact D7
 refine⟨s.bk.RJ hi hy hf hk,hx,aaT s.ln hl,λj hj=>?_,λj hj=>by rw[hbl];exact s.kl j hj⟩;obtain⟨h1,h2,h3⟩:=s.kl j hj;rw[hk j (aaY h1 s.ln) (λz=>h3 (by rw[<-z];exact Us))];exact s.kp j hj
omit s in
theorem QE{i j y t}(h:some j∈{U with aj:=U.aj.set i (y,t) }.bl):some j∈U.bl\/sB t=some j:=by
 simp only[RV.bl,aac,aaA]at h ⊢;rcases h with((h|⟨x,hx,h⟩)|h)|h
 ·exact .inl (.inl (.inl (.inl h)))
 ·rcases abO hx with hx|hx
  ·exact .inl (.inl (.inl (.inr ⟨x,hx,h⟩)))
  ·rw[hx]at h;exact .inr h
 ·exact .inl (.inl (.inr h))
 ·exact .inl (.inr h)
def fw.qS{i}(hi:i<U.aj.length){y t}(hs:Fr B.length W2 U.s2 3 ((U.aj.set i (y,t)).map aU))(ht:Fr B.length W2 t 1 (y.aE.map aq))(hnt:∀j,sB t=some j->W.length<=j)
  (hk:∀j,j<W.length->sB U.s2≠some j->sB U.aj[i].2≠some j->W2[j]? =W[j]?) (hx:Ext B W2) (hl:W.length<=W2.length):fw B W0 b K W2 {U with aj:=U.aj.set i (y,t) }:=by
 have m1:sB U.s2∈U.bl:=by simp[RV.bl]
 have m2:sB U.aj[i].2∈U.bl:=by simp only[RV.bl,aac,aaA];exact .inl (.inl (.inr ⟨_,aad hi,rfl⟩))
 refine⟨s.bk.RI hi hs ht hnt hk,hx,aaT s.ln hl,λj hj=>?_,λj hj=>?_⟩
 ·obtain⟨h1,h2,h3⟩:=s.kl j hj;rw[hk j (aaY h1 s.ln) (λz=>h3 (by rw[<-z];exact m1)) (λz=>h3 (by rw[<-z];exact m2))];exact s.kp j hj
 ·obtain⟨h1,h2,h3⟩:=s.kl j hj;refine⟨h1,h2,λhm=>?_⟩;rcases QE hm with z|z
  ·exact h3 z
  ·have:=hnt j z;have:=s.ln;omega
end
def ow(k:Nat):ai:=((fn224).body.dr k).hd
def qU(k:Nat):ai:=(fn224).body.dr k
def O8:qU 9=.seq (ow 9) .ret:=rfl
def O9:qU 8=.seq (ow 8) (qU 9):=rfl
def Pa:qU 7=.seq (ow 7) (qU 8):=rfl
def Pb:qU 6=.seq (ow 6) (qU 7):=rfl
def Pc:qU 5=.seq (ow 5) (qU 6):=rfl
def Pd:qU 4=.seq (ow 4) (qU 5):=rfl
def Pe:qU 3=.seq (ow 3) (qU 4):=rfl
def Pf:qU 2=.seq (ow 2) (qU 3):=rfl
def Pg:qU 1=.seq (ow 1) (qU 2):=rfl
def Ph:fn224=⟨100,1,[(2,some (some 7))],.seq (ow 0) (qU 1)⟩:=rfl
def ki:List AV:=[.i 0,.af,.af,.af,.af,.af,.af]
def SC(h:ah)(i:Nat):Prop:=i<h.length\/i=h.length+1
def xU(h:ah)(r:ak)(W:ah)(U:RV):Prop:=fw h (h++[r]++[.b ki]) h.length (SC h) W U
def xU.rb{h W r U}(s:xU h r W U):W[h.length+1]? =some (.b ki):=by
 rw[fw.kp s _ (.inr rfl)];simp
def J3(h:ah)(V:RV):AV->ah->Prop:=λv h'=>Ext h h'/\∃V':RV,V'.an=V.an/\v=.agg V'.row/\cK h.length h' V'
section
variable {P:Program}(T:fq P) {h W:ah}{ts:TS}{V U:RV}{r:ak}
include T
def Sl(s:xU h r W U)(hr:U.an=V.an)(hlen:ts.length=100)(t1:slot ts 1=.ptr h.length 0)(t2:slot ts 2=.ptr (h.length+1) 0):
  WC P bJ (qU 9) [] ts W (FQ [(2,some (some 7))] (J3 h V)):=by
 have:=T.mix;rw[O8];unfold ow fn224 gA;simp only[ai.j,ai.s,ai.r,ai.dr,ai.tl,ai.hd];have lb:=@dB _ _ _ s.bk.m;have sb:=@aK 7 (h.length+1) 0 (.agg U.row) (λz=>W[z]?) _ s.rb;have st:=@aB.st _ _ s.bk.o.ok;unfold ki at sb;rw[st]at sb;have hl:=(Z2.1 s.rb).1;have gm:(W.set (h.length+1) (.b U.row))[h.length+1]? =some (.b U.row):=aak hl
 repeat (first|simp (config:={maxSteps:=1000000}) only[aO,aT,aZ,a8,reduceAdd,reduceMul,reduceLeDiff,reduceEqDiff,bd,hlen,aal,aan,t1,t2,lb,sb,aG,aA gm]|simp (config:={maxSteps:=1000000}) (disch:=first|(simp only[Z1,Z5,Z9]<;>omega)|rfl|omega|fail) only[dX,aO,aT,aZ,a8,reduceAdd,reduceMul,reduceLeDiff,reduceEqDiff,bd,hlen,aal,aan,t1,t2,lb,sb,aG,aA gm])
 refine⟨s.ex.iJ Om,U,hr,rfl,s.bk.o.ar λi hi=>?_⟩;have:i≠h.length+1:=λe=>(s.kl _ (.inr rfl)).2.2 (e▸hi)
 rw[aaj (abo this)]
def Pj(o:aB h V)(w:eS V.an)(hj:∀x∈V.aF,x.1.bE.length<=2^30)(s:xU h r W U)(hr:U.an={V.an with aF:=V.an.aF.take 0})(hlen:ts.length=100)(t1:slot ts 1=.ptr h.length 0)(t2:slot ts 2=.ptr (h.length+1) 0)(t5:slot ts 5=V.s4):
  WC P bJ (qU 8) [] ts W (FQ [(2,some (some 7))] (J3 h V)):=by
 have hL:V.aF.length<=16:=by have:=w.l4;simpa [RV.an]using this
 have hRl:V.an.aF.length=V.aF.length:=by simp[RV.an]
 rw[O9];unfold ow fn224 gA;simp only[ai.j,ai.s,ai.r,ai.dr,ai.tl,ai.hd];refine Rs (A3 t1 t2 t5) ?_;refine WL.inv T.mix (λm ts h'=>∃(k:Nat) (U:RV),k<=V.aF.length/\m=V.aF.length-k/\xU h r h' U/\U.an={V.an with aF:=V.an.aF.take k}/\ts.length=100/\slot ts 1=.ptr h.length 0/\slot ts 2=.ptr (h.length+1) 0/\slot ts 5=V.s4/\slot ts 10=.i k) V.aF.length
  ⟨0,U,Om,rfl,s,hr,Sn,(Sq t1),(Sq t2),(Sq t5),ga⟩ ?_
 clear t1 t2 t5 hlen s hr;rintro _ ts W ⟨k,U,hk,rfl,s,hr,hlen,t1,t2,t5,t10⟩;have oW:=o.ext s.ex;by_cases hlt:k<V.aF.length
 ·have e3:=dN hlt;have e5:=wrapN (n:=k) Om;have ix:=oW.i4.c6 (kk:=.i64) hlt;obtain⟨y,hy⟩:∃y,y=V.aF[k]:=⟨_,rfl⟩;have UE:y∈V.aF:=by rw[hy];exact aad _
  have ld:∀{k':ah},Ext W k'->ao (some 3) (cI V.s4 3 k) (λb=>k'[b]?)=some (.agg (bF y),.ar):=λ{k'} e=>by rw[hy];exact oW.i4.gP hlt e
  have oy:=oW.e4 y UE;have UA:=oy.one;unfold bF at ld;obtain⟨n,hn⟩:∃n,n=W.length:=⟨_,rfl⟩;refine Rs (A9 t1 t2 t5 t10 oW.i4.aH e3 ix @ld @UA) ?_;refine WR.pk (N:=n+1) ba (by rw[hn];simp) (oy.ext Xx) (by have:=hj y UE;simp only[aaa];omega) λt g f=>?_
  have p1:=f.aY.one;rw[<-hn];obtain⟨W3,S4⟩:∃W3,W3=W++[ak.b [AV.str y.1.name,AV.str y.1.mod,y.2]]++[.b []]++g:=⟨_,rfl⟩;rw[<-S4]at f ⊢;have YX:Ext W W3:=by rw[S4];exact Xx
  have l3:n+2<=W3.length:=by rw[S4,hn];simp only[Z1,Z5,Z9];omega
  have m3:W3[n]? =some (.b [AV.str y.1.name,AV.str y.1.mod,y.2]):=by rw[S4,hn];exact(show Ext (W++[ak.b [AV.str y.1.name,AV.str y.1.mod,y.2]]) _ from Xx).some ba
  have Wr:aX 1 (.ptr n 2) t (λz=>W3[z]?)=some (az,.set n (.b [AV.str y.1.name,AV.str y.1.mod,t])):=(aK m3).trans (bP p1 (by show 2+1<=3;omega));refine Rs (A6 t1 t2 t5 t10 @Wr @p1) ?_;obtain⟨W4,TF⟩:∃W4,W4=W3.set n (.b [AV.str y.1.name,AV.str y.1.mod,t]):=⟨_,rfl⟩;rw[<-TF];have l4:W4.length=W3.length:=by rw[TF,aaL]
  have k4:∀i,i≠n->W4[i]? =W3[i]? :=λi hi=>by rw[TF,aaj (abo hi)]
  have m4:W4[n]? =some (.b [AV.str y.1.name,AV.str y.1.mod,t]):=by rw[TF,aak Om]
  have e4:Ext W W4:=by rw[TF];exact YX.iJ Om
  have s4:xU h r W4 U:=s.grow e4;have f4:Fr (n+1) W4 t 1 (y.1.bE.map aM):=f.aD λi hi=>k4 i (by have:=(f.bQ hi).1;omega)
  have lr:=@dB _ _ _ s4.bk.m;have ln4:=@dB _ _ _ m4;clear YX m3 Wr f TF S4;refine Rs (A8 t1 t2 t5 t10 @lr @ln4 @fc @p1) ?_;have UY:U.aF.length<=16:=by
   have h1:U.an.aF.length=U.aF.length:=by simp[RV.an]
   exact HH
  obtain⟨z,hz⟩:∃z:List AV,z=bF (y.1,t):=⟨_,rfl⟩;have TH:[AV.str y.1.name,AV.str y.1.mod,t]=z:=by rw[hz];rfl
  rw[TH];have UM:aI (W4++[ak.cells z true true]) (AV.slice W4.length 0 1 3) 3 [z]:=by
   exact K4
  refine WR.fg (h0:=h) (cs:=U.aF.map bF) (ys:=[z]) ((s4.bk.o.i4).app _) UM De Si (by simp only[aaa,Z5,Z9];omega) (s4.ex.trans Xx) ?_;intro g' SP hff hkp;have hrow:U.aF.map bF++[z]=(U.aF++[(y.1,t)]).map bF:=by rw[aae,hz];rfl
  rw[hrow]at hff;rw[hrow];obtain⟨s',SI⟩:∃s',s' =AV.slice (W4++[ak.cells z true true]).length 0 ((U.aF++[(y.1,t)]).map bF).length 3:=⟨_,rfl⟩;rw[<-SI]at hff;rw[<-SI];have UN:sB s' =some (W4.length+1):=by rw[SI];simp[sB]
  have q1:s'.one=true:=by rw[SI];rfl
  obtain⟨W5,T3⟩:∃W5,W5=h++g':=⟨_,rfl⟩;rw[<-T3]at SP hff hkp ⊢;have hk1:∀i,i<W4.length->sB U.s4≠some i->W5[i]? =W4[i]? :=λi hi hne=>by
   exact NF
  have hl5:W4.length<=W5.length:=by rw[SP];simp only[Z1];omega
  have htb:∀i,sB t=some i->W.length<=i/\i<W4.length:=λi hi=>by have:=f4.bQ hi;omega
  have bY:∀i,sB t=some i->sB U.s4≠some i:=λi hi e=>by
   exact z87
  have f5:Fr h.length W5 t 1 (y.1.bE.map aM):=(f4.aD λi hi=>hk1 i (htb i hi).2 (bY i hi)).low (by have:=s.bk.lt;omega);have YW:W.length<=W4.length:=e4.len;have s5:xU h r (W5.set h.length (.b (U.row.set 5 s'))) {U with aF:=U.aF++[(y.1,t)],s4:=s'}:=
   s.p4 hff f5 (λi hi=>.inr (by rw[UN]at hi;cases hi;omega)) (λi hi=>⟨(htb i hi).1,λe=>by rw[UN]at e;cases e;have:=(htb _ hi).2;omega⟩) (λi hi hne=>(hk1 i Om hne).trans (e4.get hi)) (by rw[T3];exact⟨_,rfl⟩) Om
  have mB:W5[h.length]? =some (.b U.row):=(hk1 _ s4.bk.lt (λz=>s4.bk.ne (by rw[<-z];simp[RV.bl]))).trans s4.bk.m;have Tp:aX 1 (.ptr h.length 5) s' (λz=>W5[z]?)=some (az,.set h.length (.b (U.row.set 5 s'))):=(aK mB).trans (bP q1 (by show 5+1<=7;omega));refine Rs (A7 t1 t2 t5 t10 @Tp q1 e5) ?_;refine⟨_,Om,k+1,_,Om,rfl,s5,?_,rfl⟩;have:V.an.aF.take (k+1)=V.an.aF.take k++[y.1]:=by
   exact z85
  rw[this];have hf:(U.aF++[(y.1,t)]).map Prod.fst=V.an.aF.take k++[y.1]:=by
   have h1:U.an.aF=V.an.aF.take k:=by rw[hr]
   rw[aae,<-h1];rfl
  have e:({U with aF:=U.aF++[(y.1,t)],s4:=s'}:RV).an={U.an with aF:=(U.aF++[(y.1,t)]).map Prod.fst}:=rfl;rw[e,hf,hr]
 ·have e3:decide ((k:Int)<V.aF.length)=false:=Z3 Om;have e4:k=V.aF.length:=Om
  rw[e4,<-hRl,aaI]at hr;refine Rs (A6 t1 t2 t5 t10 oW.i4.aH e3) ?_;refine Sl T s hr Sn (Sq t1) (Sq t2)
def Pk(o:aB h V)(w:eS V.an)(hm:∀x∈V.aC,x.1.bC.length<=2^30)(hj:∀x∈V.aF,x.1.bE.length<=2^30)(s:xU h r W U)(hr:U.an={V.an with aC:=V.an.aC.take 0,aF:=[] })(hlen:ts.length=100)(t1:slot ts 1=.ptr h.length 0)(t2:slot ts 2=.ptr (h.length+1) 0)(t4:slot ts 4=V.s3)(t5:slot ts 5=V.s4):
  WC P bJ (qU 7) [] ts W (FQ [(2,some (some 7))] (J3 h V)):=by
 have hL:V.aC.length<=32:=by have:=w.l3;simpa [RV.an]using this
 have hRl:V.an.aC.length=V.aC.length:=by simp[RV.an]
 rw[Pa];unfold ow fn224 gA;simp only[ai.j,ai.s,ai.r,ai.dr,ai.tl,ai.hd];refine Rs (A3 t1 t2 t4) ?_;refine WL.inv T.mix (λm ts h'=>∃(k:Nat) (U:RV),k<=V.aC.length/\m=V.aC.length-k/\xU h r h' U/\U.an={V.an with aC:=V.an.aC.take k,aF:=[] }/\ts.length=100/\slot ts 1=.ptr h.length 0/\slot ts 2=.ptr (h.length+1) 0/\slot ts 4=V.s3/\slot ts 5=V.s4/\slot ts 8=.i k) V.aC.length
  ⟨0,U,Om,rfl,s,hr,Sn,(Sq t1),(Sq t2),(Sq t4),(Sq t5),ga⟩ ?_
 clear t1 t2 t4 t5 hlen s hr;rintro _ ts W ⟨k,U,hk,rfl,s,hr,hlen,t1,t2,t4,t5,t8⟩;have oW:=o.ext s.ex;by_cases hlt:k<V.aC.length
 ·have e3:=dN hlt;have e5:=wrapN (n:=k) Om;have ix:=oW.i3.c6 (kk:=.i64) hlt;obtain⟨y,hy⟩:∃y,y=V.aC[k]:=⟨_,rfl⟩;have UE:y∈V.aC:=by rw[hy];exact aad _
  have ld:∀{k':ah},Ext W k'->ao (some 4) (cI V.s3 4 k) (λb=>k'[b]?)=some (.agg (aR y),.ar):=λ{k'} e=>by rw[hy];exact oW.i3.gP hlt e
  have oy:=oW.e3 y UE;have UA:=oy.one;unfold aR at ld;obtain⟨n,hn⟩:∃n,n=W.length:=⟨_,rfl⟩;refine Rs (mU t1 t2 t4 t5 t8 oW.i3.aH e3 ix @ld @UA) ?_;refine WR.pk (N:=n+1) ba (by rw[hn];simp) (oy.ext Xx) (by have:=hm y UE;simp only[aaa];omega) λt g f=>?_
  have p1:=f.aY.one;rw[<-hn];obtain⟨W3,S4⟩:∃W3,W3=W++[ak.b [AV.str y.1.name,AV.str y.1.gives,AV.str y.1.line,y.2]]++[.b []]++g:=⟨_,rfl⟩;rw[<-S4]at f ⊢;have YX:Ext W W3:=by rw[S4];exact Xx
  have l3:n+2<=W3.length:=by rw[S4,hn];simp only[Z1,Z5,Z9];omega
  have m3:W3[n]? =some (.b [AV.str y.1.name,AV.str y.1.gives,AV.str y.1.line,y.2]):=by rw[S4,hn];exact(show Ext (W++[ak.b [AV.str y.1.name,AV.str y.1.gives,AV.str y.1.line,y.2]]) _ from Xx).some ba
  have Wr:aX 1 (.ptr n 3) t (λz=>W3[z]?)=some (az,.set n (.b [AV.str y.1.name,AV.str y.1.gives,AV.str y.1.line,t])):=(aK m3).trans (bP p1 (by show 3+1<=4;omega));refine Rs (A7 t1 t2 t4 t5 t8 @Wr @p1) ?_;obtain⟨W4,TF⟩:∃W4,W4=W3.set n (.b [AV.str y.1.name,AV.str y.1.gives,AV.str y.1.line,t]):=⟨_,rfl⟩;rw[<-TF];have l4:W4.length=W3.length:=by rw[TF,aaL]
  have k4:∀i,i≠n->W4[i]? =W3[i]? :=λi hi=>by rw[TF,aaj (abo hi)]
  have m4:W4[n]? =some (.b [AV.str y.1.name,AV.str y.1.gives,AV.str y.1.line,t]):=by rw[TF,aak Om]
  have e4:Ext W W4:=by rw[TF];exact YX.iJ Om
  have s4:xU h r W4 U:=s.grow e4;have f4:Fr (n+1) W4 t 1 (y.1.bC.map aq):=f.aD λi hi=>k4 i (by have:=(f.bQ hi).1;omega)
  have lr:=@dB _ _ _ s4.bk.m;have ln4:=@dB _ _ _ m4;clear YX m3 Wr f TF S4;refine Rs (A9 t1 t2 t4 t5 t8 @lr @ln4 @eU @p1) ?_;have UY:U.aC.length<=32:=by
   have h1:U.an.aC.length=U.aC.length:=by simp[RV.an]
   exact HH
  obtain⟨z,hz⟩:∃z:List AV,z=aR (y.1,t):=⟨_,rfl⟩;have TH:[AV.str y.1.name,AV.str y.1.gives,AV.str y.1.line,t]=z:=by rw[hz];rfl
  rw[TH];have UM:aI (W4++[ak.cells z true true]) (AV.slice W4.length 0 1 4) 4 [z]:=by
   have:=(Fr.push (N:=0) (es:=4) (h:=W4) (aaC _) [z] (λx hx=>by rw[aam]at hx;rw[hx,hz];rfl)).aY
   simpa using this
  refine WR.fg (h0:=h) (cs:=U.aC.map aR) (ys:=[z]) ((s4.bk.o.i3).app _) UM De Si (by simp only[aaa,Z5,Z9];omega) (s4.ex.trans Xx) ?_;intro g' SP hff hkp;have hrow:U.aC.map aR++[z]=(U.aC++[(y.1,t)]).map aR:=by rw[aae,hz];rfl
  rw[hrow]at hff;rw[hrow];obtain⟨s',SI⟩:∃s',s' =AV.slice (W4++[ak.cells z true true]).length 0 ((U.aC++[(y.1,t)]).map aR).length 4:=⟨_,rfl⟩;rw[<-SI]at hff;rw[<-SI];have UN:sB s' =some (W4.length+1):=by rw[SI];simp[sB]
  have q1:s'.one=true:=by rw[SI];rfl
  obtain⟨W5,T3⟩:∃W5,W5=h++g':=⟨_,rfl⟩;rw[<-T3]at SP hff hkp ⊢;have hk1:∀i,i<W4.length->sB U.s3≠some i->W5[i]? =W4[i]? :=λi hi hne=>by
   exact NF
  have hl5:W4.length<=W5.length:=by rw[SP];simp only[Z1];omega
  have htb:∀i,sB t=some i->W.length<=i/\i<W4.length:=λi hi=>by have:=f4.bQ hi;omega
  have bY:∀i,sB t=some i->sB U.s3≠some i:=λi hi e=>by
   exact z87
  have f5:Fr h.length W5 t 1 (y.1.bC.map aq):=(f4.aD λi hi=>hk1 i (htb i hi).2 (bY i hi)).low (by have:=s.bk.lt;omega);have YW:W.length<=W4.length:=e4.len;have s5:xU h r (W5.set h.length (.b (U.row.set 4 s'))) {U with aC:=U.aC++[(y.1,t)],s3:=s'}:=
   s.p3 hff f5 (λi hi=>.inr (by rw[UN]at hi;cases hi;omega)) (λi hi=>⟨(htb i hi).1,λe=>by rw[UN]at e;cases e;have:=(htb _ hi).2;omega⟩) (λi hi hne=>(hk1 i Om hne).trans (e4.get hi)) (by rw[T3];exact⟨_,rfl⟩) Om
  have mB:W5[h.length]? =some (.b U.row):=(hk1 _ s4.bk.lt (λz=>s4.bk.ne (by rw[<-z];simp[RV.bl]))).trans s4.bk.m;have Tp:aX 1 (.ptr h.length 4) s' (λz=>W5[z]?)=some (az,.set h.length (.b (U.row.set 4 s'))):=(aK mB).trans (bP q1 (by show 4+1<=7;omega));refine Rs (A8 t1 t2 t4 t5 t8 @Tp q1 e5) ?_;refine⟨_,Om,k+1,_,Om,rfl,s5,?_,rfl⟩;have:V.an.aC.take (k+1)=V.an.aC.take k++[y.1]:=by
   exact z85
  rw[this];have hf:(U.aC++[(y.1,t)]).map Prod.fst=V.an.aC.take k++[y.1]:=by
   have h1:U.an.aC=V.an.aC.take k:=by rw[hr]
   rw[aae,<-h1];rfl
  have e:({U with aC:=U.aC++[(y.1,t)],s3:=s'}:RV).an={U.an with aC:=(U.aC++[(y.1,t)]).map Prod.fst}:=rfl;rw[e,hf,hr]
 ·have e3:decide ((k:Int)<V.aC.length)=false:=Z3 Om;have e4:k=V.aC.length:=Om
  rw[e4,<-hRl,aaI]at hr;refine Rs (A7 t1 t2 t4 t5 t8 oW.i3.aH e3) ?_;refine Pj T o w hj s hr Sn (Sq t1) (Sq t2) (Sq t5)
def Pm(o:aB h V)(w:eS V.an)(hs:∀x∈V.aj,x.1.aE.length<=2^30)(hm:∀x∈V.aC,x.1.bC.length<=2^30)(hj:∀x∈V.aF,x.1.bE.length<=2^30)(s:xU h r W U)(hr:U.an={V.an with aj:=V.an.aj.take 0,aC:=[],aF:=[] })(hlen:ts.length=100)(t1:slot ts 1=.ptr h.length 0)(t2:slot ts 2=.ptr (h.length+1) 0)(t3:slot ts 3=V.s2)(t4:slot ts 4=V.s3)(t5:slot ts 5=V.s4):
  WC P bJ (qU 6) [] ts W (FQ [(2,some (some 7))] (J3 h V)):=by
 have hL:V.aj.length<=64:=by have:=w.l2;simpa [RV.an]using this
 have hRl:V.an.aj.length=V.aj.length:=by simp[RV.an]
 rw[Pb];unfold ow fn224 gA;simp only[ai.j,ai.s,ai.r,ai.dr,ai.tl,ai.hd];refine Rs (A3 t1 t2 t3) ?_;refine WL.inv T.mix (λm ts h'=>∃(k:Nat) (U:RV),k<=V.aj.length/\m=V.aj.length-k/\xU h r h' U/\U.an={V.an with aj:=V.an.aj.take k,aC:=[],aF:=[] }/\ts.length=100/\slot ts 1=.ptr h.length 0/\slot ts 2=.ptr (h.length+1) 0/\slot ts 3=V.s2/\slot ts 4=V.s3/\slot ts 5=V.s4/\slot ts 6=.i k) V.aj.length
  ⟨0,U,Om,rfl,s,hr,Sn,(Sq t1),(Sq t2),(Sq t3),(Sq t4),(Sq t5),ga⟩ ?_
 clear t1 t2 t3 t4 t5 hlen s hr;rintro _ ts W ⟨k,U,hk,rfl,s,hr,hlen,t1,t2,t3,t4,t5,t6⟩;have oW:=o.ext s.ex;by_cases hlt:k<V.aj.length
 ·have e3:=dN hlt;have e5:=wrapN (n:=k) Om;have ix:=oW.i2.c6 (kk:=.i64) hlt;obtain⟨y,hy⟩:∃y,y=V.aj[k]:=⟨_,rfl⟩;have UE:y∈V.aj:=by rw[hy];exact aad _
  have ld:∀{k':ah},Ext W k'->ao (some 3) (cI V.s2 3 k) (λb=>k'[b]?)=some (.agg (aU y),.ar):=λ{k'} e=>by rw[hy];exact oW.i2.gP hlt e
  have oy:=oW.e2 y UE;have UA:=oy.one;unfold aU at ld;obtain⟨n,hn⟩:∃n,n=W.length:=⟨_,rfl⟩;refine Rs (lI t1 t2 t3 t4 t5 t6 oW.i2.aH e3 ix @ld @UA) ?_;refine WR.pk (N:=n+1) ba (by rw[hn];simp) (oy.ext Xx) (by have:=hs y UE;simp only[aaa];omega) λt g f=>?_
  have p1:=f.aY.one;rw[<-hn];obtain⟨W3,S4⟩:∃W3,W3=W++[ak.b [AV.str y.1.name,AV.str y.1.line,y.2]]++[.b []]++g:=⟨_,rfl⟩;rw[<-S4]at f ⊢;have YX:Ext W W3:=by rw[S4];exact Xx
  have l3:n+2<=W3.length:=by rw[S4,hn];simp only[Z1,Z5,Z9];omega
  have m3:W3[n]? =some (.b [AV.str y.1.name,AV.str y.1.line,y.2]):=by rw[S4,hn];exact(show Ext (W++[ak.b [AV.str y.1.name,AV.str y.1.line,y.2]]) _ from Xx).some ba
  have Wr:aX 1 (.ptr n 2) t (λz=>W3[z]?)=some (az,.set n (.b [AV.str y.1.name,AV.str y.1.line,t])):=(aK m3).trans (bP p1 (by show 2+1<=3;omega));refine Rs (A8 t1 t2 t3 t4 t5 t6 @Wr @p1) ?_;obtain⟨W4,TF⟩:∃W4,W4=W3.set n (.b [AV.str y.1.name,AV.str y.1.line,t]):=⟨_,rfl⟩;rw[<-TF];have l4:W4.length=W3.length:=by rw[TF,aaL]
  have k4:∀i,i≠n->W4[i]? =W3[i]? :=λi hi=>by rw[TF,aaj (abo hi)]
  have m4:W4[n]? =some (.b [AV.str y.1.name,AV.str y.1.line,t]):=by rw[TF,aak Om]
  have e4:Ext W W4:=by rw[TF];exact YX.iJ Om
  have s4:xU h r W4 U:=s.grow e4;have f4:Fr (n+1) W4 t 1 (y.1.aE.map aq):=f.aD λi hi=>k4 i (by have:=(f.bQ hi).1;omega)
  have lr:=@dB _ _ _ s4.bk.m;have ln4:=@dB _ _ _ m4;clear YX m3 Wr f TF S4;refine Rs (mU t1 t2 t3 t4 t5 t6 @lr @ln4 @dC @p1) ?_;have UY:U.aj.length<=64:=by
   have h1:U.an.aj.length=U.aj.length:=by simp[RV.an]
   exact HH
  obtain⟨z,hz⟩:∃z:List AV,z=aU (y.1,t):=⟨_,rfl⟩;have TH:[AV.str y.1.name,AV.str y.1.line,t]=z:=by rw[hz];rfl
  rw[TH];have UM:aI (W4++[ak.cells z true true]) (AV.slice W4.length 0 1 3) 3 [z]:=by
   exact K4
  refine WR.fg (h0:=h) (cs:=U.aj.map aU) (ys:=[z]) ((s4.bk.o.i2).app _) UM De Si (by simp only[aaa,Z5,Z9];omega) (s4.ex.trans Xx) ?_;intro g' SP hff hkp;have hrow:U.aj.map aU++[z]=(U.aj++[(y.1,t)]).map aU:=by rw[aae,hz];rfl
  rw[hrow]at hff;rw[hrow];obtain⟨s',SI⟩:∃s',s' =AV.slice (W4++[ak.cells z true true]).length 0 ((U.aj++[(y.1,t)]).map aU).length 3:=⟨_,rfl⟩;rw[<-SI]at hff;rw[<-SI];have UN:sB s' =some (W4.length+1):=by rw[SI];simp[sB]
  have q1:s'.one=true:=by rw[SI];rfl
  obtain⟨W5,T3⟩:∃W5,W5=h++g':=⟨_,rfl⟩;rw[<-T3]at SP hff hkp ⊢;have hk1:∀i,i<W4.length->sB U.s2≠some i->W5[i]? =W4[i]? :=λi hi hne=>by
   exact NF
  have hl5:W4.length<=W5.length:=by rw[SP];simp only[Z1];omega
  have htb:∀i,sB t=some i->W.length<=i/\i<W4.length:=λi hi=>by have:=f4.bQ hi;omega
  have bY:∀i,sB t=some i->sB U.s2≠some i:=λi hi e=>by
   exact z87
  have f5:Fr h.length W5 t 1 (y.1.aE.map aq):=(f4.aD λi hi=>hk1 i (htb i hi).2 (bY i hi)).low (by have:=s.bk.lt;omega);have YW:W.length<=W4.length:=e4.len;have s5:xU h r (W5.set h.length (.b (U.row.set 3 s'))) {U with aj:=U.aj++[(y.1,t)],s2:=s'}:=
   s.p2 hff f5 (λi hi=>.inr (by rw[UN]at hi;cases hi;omega)) (λi hi=>⟨(htb i hi).1,λe=>by rw[UN]at e;cases e;have:=(htb _ hi).2;omega⟩) (λi hi hne=>(hk1 i Om hne).trans (e4.get hi)) (by rw[T3];exact⟨_,rfl⟩) Om
  have mB:W5[h.length]? =some (.b U.row):=(hk1 _ s4.bk.lt (λz=>s4.bk.ne (by rw[<-z];simp[RV.bl]))).trans s4.bk.m;have Tp:aX 1 (.ptr h.length 3) s' (λz=>W5[z]?)=some (az,.set h.length (.b (U.row.set 3 s'))):=(aK mB).trans (bP q1 (by show 3+1<=7;omega));refine Rs (A9 t1 t2 t3 t4 t5 t6 @Tp q1 e5) ?_;refine⟨_,Om,k+1,_,Om,rfl,s5,?_,rfl⟩;have:V.an.aj.take (k+1)=V.an.aj.take k++[y.1]:=by
   exact z85
  rw[this];have hf:(U.aj++[(y.1,t)]).map Prod.fst=V.an.aj.take k++[y.1]:=by
   have h1:U.an.aj=V.an.aj.take k:=by rw[hr]
   rw[aae,<-h1];rfl
  have e:({U with aj:=U.aj++[(y.1,t)],s2:=s'}:RV).an={U.an with aj:=(U.aj++[(y.1,t)]).map Prod.fst}:=rfl;rw[e,hf,hr]
 ·have e3:decide ((k:Int)<V.aj.length)=false:=Z3 Om;have e4:k=V.aj.length:=Om
  rw[e4,<-hRl,aaI]at hr;refine Rs (A8 t1 t2 t3 t4 t5 t6 oW.i2.aH e3) ?_;refine Pk T o w hm hj s hr Sn (Sq t1) (Sq t2) (Sq t4) (Sq t5)
def Pn(o:aB h V)(w:eS V.an)(hs:∀x∈V.aj,x.1.aE.length<=2^30)(hm:∀x∈V.aC,x.1.bC.length<=2^30)(hj:∀x∈V.aF,x.1.bE.length<=2^30)
  {W0}(hW0:W0=h++[.b V.row]++[.b ki]) (hlen:ts.length=100) (t1:slot ts 1=.ptr h.length 0) (t2:slot ts 2=.ptr (h.length+1) 0):
  WC P bJ (qU 1) [] ts W0 (FQ [(2,some (some 7))] (J3 h V)):=by
 have nb0:V.lines.length<=16:=w.l0;have nb5:V.aJ.length<=16:=w.l5;have nb1:V.aE.length<=16:=w.l1;have o0:=o.i0.one;have o1:=o.i1.one;have o2:=o.i2.one;have o3:=o.i3.one;have o4:=o.i4.one;have o5:=o.i5.one;have m0:W0[h.length]? =some (.b [AV.i V.tick,V.s0,V.s1,V.s2,V.s3,V.s4,V.s5]):=by rw[hW0];simp;rfl
 have z0:W0[h.length+1]? =some (.b ki):=by rw[hW0];simp
 have e0:Ext h W0:=by rw[hW0];exact Xx
 rw[Pg,Pf,Pe,Pd,Pc];unfold ow fn224 gA;simp only[ai.j,ai.s,ai.r,ai.dr,ai.tl,ai.hd];obtain⟨n0,XH⟩:∃n,n=W0.length:=⟨_,rfl⟩;have lr0:=@dB _ _ _ m0;refine Rs (A4 t1 t2 @lr0 @o0) ?_;refine WR.pk (N:=n0) (w:=32) ba (Nat.le_of_eq XH) ((o.i0.ext e0).ext Xx) (by simp only[aaa];omega) λa0 g0 f0=>?_
 have p0:=f0.aY.one;obtain⟨Y0,hY0⟩:∃Y,Y=W0++[ak.b []]++g0:=⟨_,rfl⟩;rw[<-hY0]at f0 ⊢;have eY0:Ext W0 Y0:=by rw[hY0];exact Xx
 have sb0:aX 1 (.ptr h.length 1) a0 (λz=>Y0[z]?)=some (az,.set h.length (.b [AV.i V.tick,a0,V.s1,V.s2,V.s3,V.s4,V.s5])):=(aK (eY0.some m0)).trans (bP p0 (by show 1+1<=7;omega));refine Rs (A4 t1 t2 @sb0 @p0) ?_;obtain⟨W1,Ux⟩:∃W,W=Y0.set h.length (.b [AV.i V.tick,a0,V.s1,V.s2,V.s3,V.s4,V.s5]):=⟨_,rfl⟩;rw[<-Ux];have l1:W0.length<=W1.length:=by rw[Ux,aaL];exact eY0.len
 have k1:∀i,i<W0.length->i≠h.length->W1[i]? =W0[i]? :=λi hi hne=>by rw[Ux,aaj (abo hne),eY0.get hi]
 have m1:W1[h.length]? =some (.b [AV.i V.tick,a0,V.s1,V.s2,V.s3,V.s4,V.s5]):=by rw[Ux,aak (by have:=eY0.len;have:=(Z2.1 m0).1;omega)]
 have e1:Ext h W1:=by rw[Ux];exact(e0.trans eY0).iJ (aah _)
 have z1:W1[h.length+1]? =some (.b ki):=(k1 _ (Z2.1 z0).1 Om).trans z0;have c0:Fr n0 W1 a0 3 (V.lines.map bw):=f0.aD λi hi=>by
  have:=(f0.bQ hi).1;have:=(Z2.1 z0).1;rw[Ux,aaj Om]
 clear f0 sb0 lr0;obtain⟨n1,hn1⟩:∃n,n=W1.length:=⟨_,rfl⟩;have lr1:=@dB _ _ _ m1;refine Rs (A4 t1 t2 @lr1 @o1) ?_;refine WR.pk (N:=n1) (w:=24) ba (Nat.le_of_eq hn1) ((o.i1.ext e1).ext Xx) (by simp only[aaa];omega) λa1 g1 f1=>?_
 have p1:=f1.aY.one;obtain⟨Y1,Xo⟩:∃Y,Y=W1++[ak.b []]++g1:=⟨_,rfl⟩;rw[<-Xo]at f1 ⊢;have eY1:Ext W1 Y1:=by rw[Xo];exact Xx
 have sb1:aX 1 (.ptr h.length 2) a1 (λz=>Y1[z]?)=some (az,.set h.length (.b [AV.i V.tick,a0,a1,V.s2,V.s3,V.s4,V.s5])):=(aK (eY1.some m1)).trans (bP p1 (by show 2+1<=7;omega));refine Rs (A4 t1 t2 @sb1 @p1) ?_;obtain⟨W2,Te⟩:∃W,W=Y1.set h.length (.b [AV.i V.tick,a0,a1,V.s2,V.s3,V.s4,V.s5]):=⟨_,rfl⟩;rw[<-Te];have l2:W1.length<=W2.length:=by rw[Te,aaL];exact eY1.len
 have k2:∀i,i<W1.length->i≠h.length->W2[i]? =W1[i]? :=λi hi hne=>by rw[Te,aaj (abo hne),eY1.get hi]
 have m2:W2[h.length]? =some (.b [AV.i V.tick,a0,a1,V.s2,V.s3,V.s4,V.s5]):=by rw[Te,aak (by have:=eY1.len;have:=(Z2.1 m1).1;omega)]
 have e2:Ext h W2:=by rw[Te];exact(e1.trans eY1).iJ (aah _)
 have z2:W2[h.length+1]? =some (.b ki):=(k2 _ (Z2.1 z1).1 Om).trans z1;have c1:Fr n1 W2 a1 2 (V.aE.map cB):=f1.aD λi hi=>by
  have:=(f1.bQ hi).1;have:=(Z2.1 z1).1;rw[Te,aaj Om]
 clear f1 sb1 lr1;obtain⟨n2,hn2⟩:∃n,n=W2.length:=⟨_,rfl⟩;have lr2:=@dB _ _ _ m2;refine Rs (A4 t1 t2 @lr2 @o5) ?_;refine WR.pk (N:=n2) (w:=48) ba (Nat.le_of_eq hn2) ((o.i5.ext e2).ext Xx) (by simp only[aaa];omega) λa5 g2 f5=>?_
 have p5:=f5.aY.one;obtain⟨Y2,Vi⟩:∃Y,Y=W2++[ak.b []]++g2:=⟨_,rfl⟩;rw[<-Vi]at f5 ⊢;have VF:Ext W2 Y2:=by rw[Vi];exact Xx
 have sb2:aX 1 (.ptr h.length 6) a5 (λz=>Y2[z]?)=some (az,.set h.length (.b [AV.i V.tick,a0,a1,V.s2,V.s3,V.s4,a5])):=(aK (VF.some m2)).trans (bP p5 (by show 6+1<=7;omega));refine Rs (A4 t1 t2 @sb2 @p5) ?_;obtain⟨W3,S4⟩:∃W,W=Y2.set h.length (.b [AV.i V.tick,a0,a1,V.s2,V.s3,V.s4,a5]):=⟨_,rfl⟩;rw[<-S4];have l3:W2.length<=W3.length:=by rw[S4,aaL];exact VF.len
 have k3:∀i,i<W2.length->i≠h.length->W3[i]? =W2[i]? :=λi hi hne=>by rw[S4,aaj (abo hne),VF.get hi]
 have m3:W3[h.length]? =some (.b [AV.i V.tick,a0,a1,V.s2,V.s3,V.s4,a5]):=by rw[S4,aak (by have:=VF.len;have:=(Z2.1 m2).1;omega)]
 have e3:Ext h W3:=by rw[S4];exact(e2.trans VF).iJ (aah _)
 have z3:W3[h.length+1]? =some (.b ki):=(k3 _ (Z2.1 z2).1 Om).trans z2;have c5:Fr n2 W3 a5 4 (V.aJ.map cD):=f5.aD λi hi=>by
  have:=(f5.bQ hi).1;have:=(Z2.1 z2).1;rw[S4,aaj Om]
 clear f5 sb2 lr2;have lr3:=@dB _ _ _ m3;have Vh:=(Z2.1 m3).1;have s3:aX 1 (.ptr h.length 3) .af (λz=>W3[z]?)=some (az,.set h.length (.b [AV.i V.tick,a0,a1,.af,V.s3,V.s4,a5])):=(aK m3).trans (bP rfl (by show 3+1<=7;omega));have m4:(W3.set h.length (.b [AV.i V.tick,a0,a1,.af,V.s3,V.s4,a5]))[h.length]? =some (.b [AV.i V.tick,a0,a1,.af,V.s3,V.s4,a5]):=aak Vh;have s4:aX 1 (.ptr h.length 4) .af (λz=>(W3.set h.length (.b [AV.i V.tick,a0,a1,.af,V.s3,V.s4,a5]))[z]?)=some (az,.set h.length (.b [AV.i V.tick,a0,a1,.af,.af,V.s4,a5])):=(aK m4).trans (bP rfl (by show 4+1<=7;omega));have m5:((W3.set h.length (.b [AV.i V.tick,a0,a1,.af,V.s3,V.s4,a5])).set h.length (.b [AV.i V.tick,a0,a1,.af,.af,V.s4,a5]))[h.length]? =some (.b [AV.i V.tick,a0,a1,.af,.af,V.s4,a5]):=aak (by rw[aaL];exact Vh)
 have s5:aX 1 (.ptr h.length 5) .af (λz=>((W3.set h.length (.b [AV.i V.tick,a0,a1,.af,V.s3,V.s4,a5])).set h.length (.b [AV.i V.tick,a0,a1,.af,.af,V.s4,a5]))[z]?)=some (az,.set h.length (.b [AV.i V.tick,a0,a1,.af,.af,.af,a5])):=(aK m5).trans (bP rfl (by show 5+1<=7;omega));obtain⟨W6,UH⟩:∃W,W=W3.set h.length (.b [AV.i V.tick,a0,a1,.af,.af,.af,a5]):=⟨_,rfl⟩;have k6:∀i,i≠h.length->W6[i]? =W3[i]? :=λi hi=>by rw[UH,aaj (abo hi)]
 have m6:W6[h.length]? =some (.b [AV.i V.tick,a0,a1,.af,.af,.af,a5]):=by rw[UH,aak Vh]
 have l0:n0=h.length+2:=by rw[XH,hW0];simp
 have r0:∀i,sB a0=some i->n0<=i/\i<W1.length:=λi hi=>c0.bQ hi
 have r1:∀i,sB a1=some i->n1<=i/\i<W2.length:=λi hi=>c1.bQ hi
 have r5:∀i,sB a5=some i->n2<=i/\i<W3.length:=λi hi=>c5.bQ hi
 have fa0:Fr h.length W6 a0 3 (V.lines.map bw):=(c0.aD λi hi=>by
  have:=r0 i hi;rw[k6 i Om,k3 i Om Om,k2 i Om Om]).low Om
 have fa1:Fr h.length W6 a1 2 (V.aE.map cB):=(c1.aD λi hi=>by
  have:=r1 i hi;rw[k6 i Om,k3 i Om Om]).low Om
 have fa5:Fr h.length W6 a5 4 (V.aJ.map cD):=(c5.aD λi hi=>by
  have:=r5 i hi;rw[k6 i Om]).low Om
 obtain⟨U,hU⟩:∃U:RV,U=⟨V.tick,V.lines,V.aE,[],[],[],V.aJ,a0,a1,.af,.af,.af,a5⟩:=⟨_,rfl⟩;have hbl:U.bl=[sB a0,sB a1,none,none,none,sB a5]:=by rw[hU];rfl
 have hlo:∀i,some i∈U.bl->h.length+2<=i:=λi hi=>by
  rw[hbl]at hi;simp only[aaJ,aa3,abH,reduceCtorEq,false_or]at hi;rcases hi with hi|hi|hi
  ·have:=r0 i hi.symm;omega
  ·have:=r1 i hi.symm;omega
  ·have:=r5 i hi.symm;omega
 have TD:lL U.bl:=by
  rw[hbl];refine aa8.2 ⟨λy hy b hb e=>?_,aa8.2 ⟨λy hy b hb e=>?_,aa8.2 ⟨(λy hy b hb e=>by cases hb),aa8.2 ⟨(λy hy b hb e=>by cases hb),aa8.2 ⟨(λy hy b hb e=>by cases hb),abG _ _⟩⟩⟩⟩⟩
  ·have h1:=r0 b hb;subst e;simp only[aaJ,aa3,abH,reduceCtorEq,false_or]at hy;rcases hy with hy|hy
   ·have:=r1 b hy.symm;omega
   ·have:=r5 b hy.symm;omega
  ·have h1:=r1 b hb;subst e;simp only[aaJ,aa3,abH,reduceCtorEq,false_or]at hy;have:=r5 b hy.symm;omega
 have own:cK h.length W6 U:=by
  rw[hU]at TD ⊢;exact⟨fa0,fa1,.nil,.nil,.nil,fa5,(λx hx=>by cases hx),(λx hx=>by cases hx),(λx hx=>by cases hx),TD⟩
 have s:xU h (.b V.row) W6 U:=by
  refine⟨⟨own,aah _,by rw[hU];exact m6,λhi=>by have:=hlo _ hi;omega⟩,by rw[UH];exact e3.iJ (aah _),by rw[<-hW0,UH,aaL];omega,λi hi=>?_,λi hi=>⟨?_,?_,λhm=>?_⟩⟩
  ·have:i≠h.length/\i<W0.length:=by rcases hi with hi|hi<;>omega
   rw[<-hW0,k6 i this.1,k3 i Om this.1,k2 i Om this.1,k1 i Om this.1]
  ·simp only[Z1,Z5,Z9];rcases hi with hi|hi<;>omega
  ·rcases hi with hi|hi<;>omega
  ·have:=hlo _ hm;rcases hi with hi|hi<;>omega
 clear c0 c1 c5 fa0 fa1 fa5 own TD;refine Rs (A9 t1 t2 @lr3 @o2 @o3 @o4 @s3 @s4 @s5) ?_;have aT:((W3.set h.length (.b [AV.i V.tick,a0,a1,.af,V.s3,V.s4,a5])).set h.length (.b [AV.i V.tick,a0,a1,.af,.af,V.s4,a5])).set h.length (.b [AV.i V.tick,a0,a1,.af,.af,.af,a5])=W6:=by rw[UH,List.set_set,List.set_set]
 rw[aT];exact Pm T o w hs hm hj s (by rw[hU];rfl) Sn (Sq t1) (Sq t2) Sw Sw Sw
def r224(o:aB h V)(w:eS V.an):ay P 224 [.agg V.row] h (λv h'=>∃V':RV,V'.an=V.an/\v=.agg V'.row/\cK h.length h' V'):=by
 have i:=w.vj;have hs:∀x∈V.aj,x.1.aE.length<=2^30:=λx hx=>by have:=(i.sh x hx).2;omega
 have hm:∀x∈V.aC,x.1.bC.length<=2^30:=λx hx=>by have:=(w.md x.1 (aao hx)).2.1;omega
 have hj:∀x∈V.aF,x.1.bE.length<=2^30:=λx hx=>by have:=(w.jb x.1 (aao hx)).2.2.1;omega
 refine .of T.mix (acv T.c224 (aax some Ph)) ?_;obtain⟨ts,SH⟩:∃ts,ts=aW 100 [.agg V.row]:=⟨_,rfl⟩;have hlen:ts.length=100:=by rw[SH];rfl
 have t0:slot ts 0=.agg V.row:=by rw[SH];rfl
 show WC P bJ (.seq (ow 0) (qU 1)) [] (aW 100 [.agg V.row]) h (FQ [(2,some (some 7))] (J3 h V));rw[<-SH];clear SH;have SG:=@aB.box _ _ o;unfold ow fn224 gA;simp only[ai.j,ai.s,ai.r,ai.dr,ai.tl,ai.hd];refine Rs (A2 t0 @SG) ?_;refine Pn T o w hs hm hj rfl Sn Sw (by simp only[aO,aT,aZ,a8,reduceAdd,reduceMul,reduceLeDiff,reduceEqDiff,bd,hlen,aal,aan];simp)
end
end Go.Abs
namespace Go.Abs
def SB(X:ah)(V:RV)(i:Nat):Prop:=(i<X.length/\some i∉V.bl)\/i=X.length+1\/i=X.length+2
def cH(B X:ah)(x:EV)(V:RV)(W:ah)(U:RV):Prop:=
 fw B (X++[.b V.row]++[.b x.row]++[.b ki]) X.length (SB X V) W U
def sS(B X:ah)(V:RV)(c:Int)(R':dM):AV->ah->Prop:=λv k=>
 Ext B k/\X.length<=k.length/\(∀i,i<X.length->some i∉V.bl->k[i]? =X[i]?)/\∃V':RV,v=.dW [.agg V'.row,.i c]/\cK B.length k V'/\(c=0->V'.an=R')/\∀i,some i∈V'.bl->some i∈V.bl\/X.length<=i
section
variable {B X W:ah}{x:EV}{V U:RV}(s:cH B X x V W U)
include s
def cH.lr{k n a}(e:Ext W k):ao n (.ptr X.length a) (λz=>k[z]?)=dG n a (.b U.row):=aA (e.some s.bk.m)
def cH.MO:W[X.length+1]? =some (.b x.row):=by rw[fw.kp s _ (.inr (.inl rfl))];simp
def cH.MN:W[X.length+2]? =some (.b ki):=by rw[fw.kp s _ (.inr (.inr rfl))];simp
def cH.le{k n a}(e:Ext W k):ao n (.ptr (X.length+1) a) (λz=>k[z]?)=dG n a (.b x.row):=aA (e.some s.MO)
def cH.sb{k}(e:Ext W k):aX 7 (.ptr (X.length+2) 0) (.agg U.row) (λz=>k[z]?)=some (az,.set (X.length+2) (.b U.row)):=by
 have h1:=@aK 7 (X.length+2) 0 (.agg U.row) (λz=>k[z]?) _ (e.some s.MN);have st:=@aB.st _ _ s.bk.o.ok;unfold ki at h1;rw[st]at h1;exact h1
def cH.gm{k}(e:Ext W k):ao (some 7) (.ptr (X.length+2) 0) (λz=>(k.set (X.length+2) (.b U.row))[z]?)=some (.agg U.row,.ar):=by
 have hl:=(Z2.1 (e.some s.MN)).1;rw[aA (aak hl)];rfl
def cH.fa:=A4 (@cH.lr _ _ _ _ _ _ s) (@cH.le _ _ _ _ _ _ s) (@cH.sb _ _ _ _ _ _ s) (@cH.gm _ _ _ _ _ _ s)
def cH.fin{c R'}(hc:c=0->U.an=R'):sS B X V c R' (.dW [.agg U.row,.i c]) (W.set (X.length+2) (.b U.row)):=by
 have hN:B.length<=X.length:=s.bk.hN;have X8:X.length+3<=W.length:=by have:=fw.ln s;simpa using this
 refine⟨s.ex.iJ Om,by rw[aaL];omega,λi hi hv=>?_,U,rfl,s.bk.o.ar λi hi=>?_,hc,λi hi=>?_⟩
 ·rw[aaj Om,fw.kp s i (.inl ⟨hi,hv⟩)];simp only[Z4];exact Z7 hi
 ·have:i≠X.length+2:=λe=>(fw.kl s _ (.inr (.inr rfl))).2.2 (e▸hi)
  rw[aaj (abo this)]
 ·by_cases h1:some i∈V.bl
  ·exact .inl h1
  ·by_cases h2:i<X.length
   ·exact absurd hi (fw.kl s i (.inl ⟨h2,h1⟩)).2.2
   ·exact .inr Om
end
def xz{h x d}(o:bh h x)(we:j8 x.ev d){i:Nat}(hi:i<(bN d).length):bf 1 x.sn (.i (i:Int))=some (cI x.sn 1 i,.ar)/\∀{k},Ext h k->ao none (cI x.sn 1 i) (λb=>k[b]?)=some (.str (aL x.ev i),.ar):=by
 have hi':i<x.ev.names.length:=by rw[we.nl];exact hi
 refine⟨o.n.c6 hi',λ{k} e=>?_⟩;have:aL x.ev i=x.ev.names[i]:=by rw[aL,aaN,Z6 hi'];rfl
 rw[this];exact o.n.lC hi' rfl e
def bO{h x d}(o:bh h x)(we:j8 x.ev d)(i:Nat)(z:Int)(hz:(i:Int)=z)(hi:i<(bN d).length):bf 1 x.sn (.i z)=some (cI x.sn 1 i,.ar)/\∀{k},Ext h k->ao none (cI x.sn 1 i) (λb=>k[b]?)=some (.str (aL x.ev i),.ar):=hz▸xz o we hi
def MY{h x d}(o:bh h x)(we:j8 x.ev d){i:Nat}(hi:i<cF d):bf 1 x.sv (.i (i:Int))=some (cI x.sv 1 i,.ar)/\(∀{k},Ext h k->ao none (cI x.sv 1 i) (λb=>k[b]?)=some (.i (bI x.ev i),.ar))/\0<=bI x.ev i/\bI x.ev i<=999999999:=by
 have hi':i<x.ev.cw.length:=by rw[we.vl];exact hi
 have:bI x.ev i=x.ev.cw[i]:=by rw[bI,aaN,Z6 hi'];rfl
 refine⟨o.v.c6 hi',λ{k} e=>?_,we.vr _ (qR hi')⟩;rw[this];exact o.v.lC hi' rfl e
def cW{h x d}(o:bh h x)(we:j8 x.ev d)(i:Nat)(z:Int)(hz:(i:Int)=z)(hi:i<cF d):bf 1 x.sv (.i z)=some (cI x.sv 1 i,.ar)/\(∀{k},Ext h k->ao none (cI x.sv 1 i) (λb=>k[b]?)=some (.i (bI x.ev i),.ar))/\0<=bI x.ev i/\bI x.ev i<=999999999:=hz▸MY o we hi
def WR.pn{P ro ks ts Q B Y s es w cs z d l}
  (hs:Fr B.length Y s es cs) (hz:z.length=es) (he:Ext B Y) (hes:0<es) (eQ:(cs.length+1)*w<=2^46)
  (K:∀(W5:ah) (s':AV),Ext B W5->Fr B.length W5 s' es (cs++[z])->(∀i,sB s' =some i->Y.length<i)->s'.one=true->Y.length<=W5.length->(∀i,i<Y.length->sB s≠some i->W5[i]? =Y[i]?)->WP P ro l ks (put ts d s') W5 Q):
  WR P ro (qb es w s (.slice Y.length 0 1 es) (λb=>(Y++[ak.cells z true true])[b]?) (Y++[ak.cells z true true]).length) false d l ks ts (Y++[ak.cells z true true]) Q:=by
 have UM:aI (Y++[ak.cells z true true]) (AV.slice Y.length 0 1 es) es [z]:=by
  have:=(Fr.push (N:=0) (es:=es) (h:=Y) (aaC _) [z] (λx hx=>by rw[aam]at hx;rw[hx,hz])).aY
  simpa using this
 refine WR.fg (h0:=B) (cs:=cs) (ys:=[z]) (hs.app _) UM hes Si (by simpa using eQ) (he.trans (Ext.app _ (Ext.refl _))) ?_;intro g' SP hff hkp;refine K _ _ ⟨_,rfl⟩ hff (λi hi=>by cases hi;simp) rfl (by rw[SP];simp only[Z1,aau];omega) (λi hi hne=>?_);exact NF
def Au:ai:=(fn225).body.tl
def O4:fn225=⟨250,2,[(4,some (some 7)),(5,none)],.seq ((fn225).body.hd) Au⟩:=rfl
set_option maxRecDepth 10000
attribute [local irreducible] WP WC WE WB WR WF WL WG fX WM
section
variable {P:Program}(T:fq P) {B X W:ah}{ts:TS}{V:RV}{x:EV}
include T
def EI(w:eS V.an)(ox:bh B x)(we:j8 x.ev .line)(nk:sU V.an x.ev .line)(s:cH B X x V W V)(hlen:ts.length=250)(t2:slot ts 2=.ptr X.length 0)(t3:slot ts 3=.ptr (X.length+1) 0)(t4:slot ts 4=.ptr (X.length+2) 0):
  WC P bJ Au [] ts W (FQ [(4,some (some 7)),(5,none)] (sS B X V (bz V.an x.ev .line) (dF V.an x.ev .line))):=by
 have ow:=ox.ext s.ex;have oV:=s.bk.o.ok;have SN:x.ev.kind=bu .line:=cA we.kd;obtain⟨lr,le,sb,gm⟩:=cH.fa s;obtain⟨i0,d0⟩:=bO ow we 0 0 rfl De;obtain⟨j0,f0,q0⟩:=cW ow we 0 0 rfl De;obtain⟨j1,f1,q1⟩:=cW ow we 1 1 rfl De;unfold Au fn225;simp only[ai.tl];refine Rs (J7 t2 t3 t4 @le @lr @bB @aS @bg @eJ @aG @SN @gZ @j0 @f0 @j1 @f1 @aaq) ?_;refine WF.ce T.c20 (r20 T _ _ _) λg1=>?_
 obtain⟨W2,Te⟩:∃Z,Z=W++g1:=⟨_,rfl⟩;rw[<-Te];have Tb:cH B X x V W2 V:=by rw[Te];exact fw.grow s ⟨g1,rfl⟩
 have ow:=ox.ext Tb.ex;have oV:=Tb.bk.o.ok;obtain⟨lr,le,sb,gm⟩:=cH.fa Tb;by_cases h1:bj (bI x.ev 1) 1 64=0
 case neg=>
  have e1:decide (bj (bI x.ev 1) 1 64≠0)=true:=Z8 h1;refine Rs (A8 t2 t3 t4 e1 @lr @aG @sb @gm) ?_;rw[bz,aai h1];exact J9
 have e1:decide (bj (bI x.ev 1) 1 64≠0)=false:=Z3 (λz=>z h1);by_cases h2:16<=V.lines.length
 case pos=>
  have e2:decide ((16:Int)<=(V.lines.length:Int))=true:=Z8 Om;refine Rs (lI t2 t3 t4 e1 @eJ oV.i0.aH e2 @lr @aG @sb @gm) ?_;rw[bz,aab (λz=>z h1),aai (show 16<=V.an.lines.length from h2)];exact J9
 have e2:decide ((16:Int)<=(V.lines.length:Int))=false:=Z3 Om;obtain⟨i0,d0⟩:=bO ow we 0 0 rfl De;obtain⟨j1,f1,q1⟩:=cW ow we 1 1 rfl De;refine Rs (Bn t2 t3 t4 e1 @le @lr @eJ oV.i0.aH e2 @aS @bg @i0 @d0 @j1 @f1) ?_;have Ud:bz V.an x.ev .line=0:=by rw[bz,aab (λz=>z h1),aab (show ¬16<=V.an.lines.length from h2)]
 obtain⟨y,hy⟩:∃y:gN,y=⟨aL x.ev 0,bI x.ev 1,false⟩:=⟨_,rfl⟩;obtain⟨z,hz⟩:∃z:List AV,z=bw y:=⟨_,rfl⟩;have TH:[AV.str (aL x.ev 0),.i (bI x.ev 1),.bool false]=z:=by rw[hz,hy];rfl
 rw[TH];refine WR.pn (B:=B) (cs:=V.lines.map bw) (Tb.bk.o.i0) (by rw[hz];rfl) Tb.ex De (by have:=w.len.l0;rw[aaa];omega) ?_;intro W5 s' x5 hff hn5 q5 l5 hk5;have hrow:V.lines.map bw++[z]=(V.lines++[y]).map bw:=by rw[aae,hz];rfl
 rw[hrow]at hff;have s5:cH B X x V (W5.set X.length (.b (V.row.set 1 s'))) {V with lines:=V.lines++[y],s0:=s'}:=fw.p0 Tb hff (λi hi=>.inr (acp (hn5 i hi))) hk5 x5 l5;have mB:W5[X.length]? =some (.b V.row):=(hk5 _ Tb.bk.lt (λz=>Tb.bk.ne (by rw[<-z];simp[RV.bl]))).trans Tb.bk.m;have Tp:aX 1 (.ptr X.length 1) s' (λz=>W5[z]?)=some (az,.set X.length (.b (V.row.set 1 s'))):=(aK mB).trans (bP q5 (by show 1+1<=7;omega));refine Rs (A5 t2 t3 t4 @Tp q5) ?_;obtain⟨W6,UH⟩:∃Z,Z=W5.set X.length (.b (V.row.set 1 s')):=⟨_,rfl⟩;rw[<-UH]at s5 ⊢;obtain⟨lr,le,sb,gm⟩:=cH.fa s5;refine Rs (A7 t2 t3 t4 @lr @aG @sb @gm) ?_
 rw[Ud];exact cH.fin s5 (λ_=>by rw[hy];rfl)
theorem EG(w:eS V.an)(ox:bh B x)(we:j8 x.ev .tape)(nk:sU V.an x.ev .tape)(s:cH B X x V W V)(hlen:ts.length=250)(t2:slot ts 2=.ptr X.length 0)(t3:slot ts 3=.ptr (X.length+1) 0)(t4:slot ts 4=.ptr (X.length+2) 0):
  WC P bJ Au [] ts W (FQ [(4,some (some 7)),(5,none)] (sS B X V (bz V.an x.ev .tape) (dF V.an x.ev .tape))):=by
 have ow:=ox.ext s.ex;have oV:=s.bk.o.ok;have SN:x.ev.kind=bu .tape:=cA we.kd;obtain⟨lr,le,sb,gm⟩:=cH.fa s;obtain⟨i0,d0⟩:=bO ow we 0 0 rfl De;obtain⟨j0,f0,q0⟩:=cW ow we 0 0 rfl De;obtain⟨j1,f1,q1⟩:=cW ow we 1 1 rfl De;unfold Au fn225;simp only[ai.tl];by_cases h1:999999999<bI x.ev 0+bI x.ev 1
 case pos=>
  have e1:decide ((999999999:Int)<bI x.ev 0+bI x.ev 1)=true:=Z8 h1;have hw:IntKind.i64.wrap (bI x.ev 0+bI x.ev 1)=bI x.ev 0+bI x.ev 1:=bD Om Om;refine pL (NT @t2 @t3 @t4 @le @lr @bB @aS @bg @aG @SN @gZ @iV @aaz @j0 @f0 @j1 @f1 @aaq @hw @e1 @sb @gm) ?_;rw[bz,aai h1];exact z156
 have e1:decide ((999999999:Int)<bI x.ev 0+bI x.ev 1)=false:=Z3 h1;have hw:IntKind.i64.wrap (bI x.ev 0+bI x.ev 1)=bI x.ev 0+bI x.ev 1:=bD Om Om;by_cases h2:16<=V.aE.length
 case pos=>
  have e2:decide ((16:Int)<=(V.aE.length:Int))=true:=Z8 Om
  repeat (first|simp (config:={maxSteps:=1000000}) only[aO,aT,aZ,a8,reduceAdd,reduceMul,reduceLeDiff,reduceEqDiff,bd,hlen,aal,aan,t2,t3,t4,le,lr,bB,aS,bg,aG,gR,SN,gZ,iV,reduceCtorEq,aaz,j0,f0,j1,f1,aaq,hw,e1,oV.i1.aH,e2,sb,gm]|simp (config:={maxSteps:=1000000}) (disch:=first|(simp only[Z1,Z5,Z9]<;>omega)|rfl|omega|fail) only[dX,aO,aT,aZ,a8,reduceAdd,reduceMul,reduceLeDiff,reduceEqDiff,bd,hlen,aal,aan,t2,t3,t4,le,lr,bB,aS,bg,aG,gR,SN,gZ,iV,reduceCtorEq,aaz,j0,f0,j1,f1,aaq,hw,e1,oV.i1.aH,e2,sb,gm])
  rw[bz,aab h1,aai (show 16<=V.an.aE.length from h2)];exact z156
 have e2:decide ((16:Int)<=(V.aE.length:Int))=false:=Z3 Om
 repeat (first|simp (config:={maxSteps:=1000000}) only[aO,aT,aZ,a8,reduceAdd,reduceMul,reduceLeDiff,reduceEqDiff,bd,hlen,aal,aan,t2,t3,t4,le,lr,bB,aS,bg,aG,gR,SN,gZ,iV,reduceCtorEq,aaz,j0,f0,j1,f1,aaq,hw,e1,oV.i1.aH,e2,i0,d0]|simp (config:={maxSteps:=1000000}) (disch:=first|(simp only[Z1,Z5,Z9]<;>omega)|rfl|omega|fail) only[dX,aO,aT,aZ,a8,reduceAdd,reduceMul,reduceLeDiff,reduceEqDiff,bd,hlen,aal,aan,t2,t3,t4,le,lr,bB,aS,bg,aG,gR,SN,gZ,iV,reduceCtorEq,aaz,j0,f0,j1,f1,aaq,hw,e1,oV.i1.aH,e2,i0,d0])
 have Ud:bz V.an x.ev .tape=0:=by rw[bz,aab h1,aab (show ¬16<=V.an.aE.length from h2)]
 obtain⟨y,hy⟩:∃y:sR,y=⟨aL x.ev 0,bI x.ev 0+bI x.ev 1⟩:=⟨_,rfl⟩;obtain⟨z,hz⟩:∃z:List AV,z=cB y:=⟨_,rfl⟩;have TH:[AV.str (aL x.ev 0),.i (bI x.ev 0+bI x.ev 1)]=z:=by rw[hz,hy];rfl
 rw[TH];refine WR.pn (B:=B) (cs:=V.aE.map cB) (s.bk.o.i1) (by rw[hz];rfl) s.ex De (by have:=w.len.l1;rw[aaa];omega) ?_;intro W5 s' x5 hff hn5 q5 l5 hk5;have hrow:V.aE.map cB++[z]=(V.aE++[y]).map cB:=by rw[aae,hz];rfl
 rw[hrow]at hff;have s5:cH B X x V (W5.set X.length (.b (V.row.set 2 s'))) {V with aE:=V.aE++[y],s1:=s'}:=fw.p1 s hff (λi hi=>.inr (acp (hn5 i hi))) hk5 x5 l5;have mB:W5[X.length]? =some (.b V.row):=(hk5 _ s.bk.lt (λz=>s.bk.ne (by rw[<-z];simp[RV.bl]))).trans s.bk.m;have Tp:aX 1 (.ptr X.length 2) s' (λz=>W5[z]?)=some (az,.set X.length (.b (V.row.set 2 s'))):=(aK mB).trans (bP q5 (by show 2+1<=7;omega));refine Rs (A5 t2 t3 t4 @Tp q5) ?_;obtain⟨W6,UH⟩:∃Z,Z=W5.set X.length (.b (V.row.set 2 s')):=⟨_,rfl⟩;rw[<-UH]at s5 ⊢;obtain⟨lr,le,sb,gm⟩:=cH.fa s5;refine Rs (A7 t2 t3 t4 @lr @aG @sb @gm) ?_
 rw[Ud];exact cH.fin s5 (λ_=>by rw[hy];rfl)
def EH(w:eS V.an)(ox:bh B x)(we:j8 x.ev .gK)(nk:sU V.an x.ev .gK)(s:cH B X x V W V)(hlen:ts.length=250)(t2:slot ts 2=.ptr X.length 0)(t3:slot ts 3=.ptr (X.length+1) 0)(t4:slot ts 4=.ptr (X.length+2) 0):
  WC P bJ Au [] ts W (FQ [(4,some (some 7)),(5,none)] (sS B X V (bz V.an x.ev .gK) (dF V.an x.ev .gK))):=by
 have ow:=ox.ext s.ex;have oV:=s.bk.o.ok;have SN:x.ev.kind=bu .gK:=cA we.kd;obtain⟨lr,le,sb,gm⟩:=cH.fa s;obtain⟨i0,d0⟩:=bO ow we 0 0 rfl De;obtain⟨i1,d1⟩:=bO ow we 1 1 rfl De;obtain⟨i2,d2⟩:=bO ow we 2 2 rfl De;obtain⟨j0,f0,q0⟩:=cW ow we 0 0 rfl De;unfold Au fn225;simp only[ai.tl];have k1:aL x.ev 1∈eP V.an:=nk.kn 1 0 rfl;have k2:aL x.ev 2∈iQ V.an:=nk.kn 2 1 rfl;have hlt:bn (eP V.an) (aL x.ev 1)<V.lines.length:=by have:=cN k1;simpa [eP,RV.an]using this
 have ei:cV (λy:gN=>decide (y.name=aL x.ev 1)) V.lines=(bn (eP V.an) (aL x.ev 1):Int):=fp (f:=gN.name) k1;have sp:cC V.an (aL x.ev 1)=V.lines[bn (eP V.an) (aL x.ev 1)]:=de k1;refine pL (Q8 @t2 @t3 @t4 @le @lr @bB @aS @bg @aG @eJ @SN @gZ @iV @si @aaz @j0 @f0 @i1 @d1 @aaq) ?_;refine WF.ce T.c28 (r28 T (oV.ext Xx) w.len _) λg1=>?_
 rw[ei];obtain⟨W2,Te⟩:∃Z,Z=W++g1:=⟨_,rfl⟩;rw[<-Te];have Tb:cH B X x V W2 V:=by rw[Te];exact fw.grow s ⟨g1,rfl⟩
 have ow:=ox.ext Tb.ex;have oV:=Tb.bk.o.ok;obtain⟨lr,le,sb,gm⟩:=cH.fa Tb;obtain⟨i0,d0⟩:=bO ow we 0 0 rfl De;obtain⟨i1,d1⟩:=bO ow we 1 1 rfl De;obtain⟨i2,d2⟩:=bO ow we 2 2 rfl De;obtain⟨j0,f0,q0⟩:=cW ow we 0 0 rfl De;have ix:bf 3 V.s0 (.i (bn (eP V.an) (aL x.ev 1):Int))=some (cI V.s0 3 (bn (eP V.an) (aL x.ev 1)),.ar):=oV.i0.c6 hlt;have l2:∀{k:ah},Ext W2 k->ao none (jF V.s0 3 (bn (eP V.an) (aL x.ev 1)) 2) (λb=>k[b]?)=some (.bool (cC V.an (aL x.ev 1)).acc,.ar):=λ{k} e=>by rw[sp];exact oV.i0.kT hlt rfl e
 cases h1:(cC V.an (aL x.ev 1)).acc with
 |true=>
  rw[h1]at l2;refine Rs (A9 t2 t3 t4 ix @l2 @lr @aG @sb @gm) ?_;rw[bz,aai h1];exact J9
 |false=>
 rw[h1]at l2;refine Rs (lI t2 t3 t4 ix @l2 @le @lr @aG @aS @i2 @d2) ?_;refine WF.ce T.c84 (r84 T (oV.ext Xx) w.len k2 _) λg2=>?_
 obtain⟨W3,S4⟩:∃Z,Z=W2++g2:=⟨_,rfl⟩;rw[<-S4];have Ti:cH B X x V W3 V:=by rw[S4];exact fw.grow Tb ⟨g2,rfl⟩
 have ow:=ox.ext Ti.ex;have oV:=Ti.bk.o.ok;obtain⟨lr,le,sb,gm⟩:=cH.fa Ti;obtain⟨i0,d0⟩:=bO ow we 0 0 rfl De;obtain⟨i1,d1⟩:=bO ow we 1 1 rfl De;obtain⟨i2,d2⟩:=bO ow we 2 2 rfl De;obtain⟨j0,f0,q0⟩:=cW ow we 0 0 rfl De;cases h2:gT V.an (bI x.ev 0) (aL x.ev 2)with
 |false=>
  refine Rs (A8 t2 t3 t4 @aay @lr @aG @sb @gm) ?_;rw[bz,aab (by rw[h1];decide),aai (by rw[h2];rfl)];exact D4
 |true=>
 by_cases h3:64<=V.aj.length
 case pos=>
  have e3:decide ((64:Int)<=(V.aj.length:Int))=true:=Z8 Om;refine Rs (lI t2 t3 t4 @aar @dC oV.i2.aH e3 @lr @aG @sb @gm) ?_;rw[bz,aab (by rw[h1];decide),aab (by rw[h2];decide),aai (show 64<=V.an.aj.length by simpa [RV.an]using h3)];exact D4
 have e3:decide ((64:Int)<=(V.aj.length:Int))=false:=Z3 Om;have Ud:bz V.an x.ev .gK=0:=by rw[bz,aab (by rw[h1];decide),aab (by rw[h2];decide),aab (show ¬64<=V.an.aj.length by simpa [RV.an]using h3)]
 obtain⟨t,ht⟩:∃t,t=AV.slice W3.length 0 1 1:=⟨_,rfl⟩;have ot:t.one=true:=by rw[ht];rfl
 refine Rs (GD t2 t3 t4 @aar @le @lr @dC oV.i2.aH e3 @aS @i0 @d0 @i1 @d1 @i2 @d2) ?_;rw[<-ht];refine Rs (A4 t2 t3 t4 @ot) ?_;obtain⟨y,hy⟩:∃y:jc,y=⟨aL x.ev 0,aL x.ev 1,[aL x.ev 2]⟩:=⟨_,rfl⟩;obtain⟨z,hz⟩:∃z:List AV,z=aU (y,t):=⟨_,rfl⟩;have TH:[AV.str (aL x.ev 0),.str (aL x.ev 1),t]=z:=by rw[hz,hy];rfl
 rw[TH];obtain⟨Y,hY⟩:∃Z,Z=W3++[ak.cells [.str (aL x.ev 2)] true true]:=⟨_,rfl⟩;rw[<-hY];have TN:Fr W3.length Y t 1 (y.aE.map aq):=by
  rw[ht,hy,hY];exact(Fr.push (h:=W3) (N:=W3.length) (aah _) [aq (aL x.ev 2)] (by simp[aq]))
 have sY:cH B X x V Y V:=by rw[hY];exact fw.grow Ti ⟨_,rfl⟩
 have lY:W3.length<Y.length:=by rw[hY];simp
 have eY:Ext W3 Y:=by rw[hY];exact⟨_,rfl⟩
 refine WR.pn (B:=B) (cs:=V.aj.map aU) (sY.bk.o.i2) (by rw[hz];rfl) sY.ex De (by have:=w.len.l2;rw[aaa];omega) ?_;intro W5 s' x5 hff hn5 q5 l5 hk5;have hrow:V.aj.map aU++[z]=(V.aj++[(y,t)]).map aU:=by rw[aae,hz];rfl
 rw[hrow]at hff;have bY:∀i,sB t=some i->sB V.s2≠some i:=λi hi e=>by
  have h1:=(TN.bQ hi).1;have h2:=(Ti.bk.o.ep (b:=i) (by rw[<-e];simp[RV.bl])).2;omega
 have f5:Fr B.length W5 t 1 (y.aE.map aq):=(TN.aD λi hi=>hk5 i (TN.bQ hi).2 (bY i hi)).low Ti.ex.len;have s5:cH B X x V (W5.set X.length (.b (V.row.set 3 s'))) {V with aj:=V.aj++[(y,t)],s2:=s'}:=fw.p2 Ti hff f5 (λi hi=>.inr (by have:=hn5 i hi;omega)) (λi hi=>⟨(TN.bQ hi).1,λe=>by have:=hn5 i e;have:=(TN.bQ hi).2;omega⟩) (λi hi hne=>(hk5 i Om hne).trans (eY.get hi)) x5 Om;have mB:W5[X.length]? =some (.b V.row):=(hk5 _ sY.bk.lt (λz=>sY.bk.ne (by rw[<-z];simp[RV.bl]))).trans sY.bk.m;have Tp:aX 1 (.ptr X.length 3) s' (λz=>W5[z]?)=some (az,.set X.length (.b (V.row.set 3 s'))):=(aK mB).trans (bP q5 (by show 3+1<=7;omega))
 refine Rs (A5 t2 t3 t4 @Tp q5) ?_;obtain⟨W6,UH⟩:∃Z,Z=W5.set X.length (.b (V.row.set 3 s')):=⟨_,rfl⟩;rw[<-UH]at s5 ⊢;obtain⟨lr,le,sb,gm⟩:=cH.fa s5;refine Rs (A7 t2 t3 t4 @lr @aG @sb @gm) ?_;rw[Ud];exact cH.fin s5 (λ_=>by simp only[RV.an,aae,dF,aaX,abF,hy])
end
def gU:List AV:=[.int .i64 0,.str [],.af,.af,.str []]
def Dg(kd:By)(sn sv:AV):ak:=.cells [.int .i64 0,.str kd,sn,sv,.str []] true false
structure vq(A:ah)(kd:By)(b8:Nat)(kb:ak)(sw:AV)(wr:Bool)(ws:List (By))(sn sv:AV)(ns:List (By))(vs:List Int)(B:ah):Prop where
 m7:(A++[iD sw wr]++B)[A.length+1]? =some (Dg kd sn sv)
 m8:(A++[iD sw wr]++B)[b8]? =some kb
 l8:A.length+1<b8
 s:aI A sw 1 (ws.map aq)
 wl:∀x∈ws,x.length<=2^40
 n:Fr (A.length+1) (A++[iD sw wr]++B) sn 1 (ns.map aq)
 v:Fr (A.length+1) (A++[iD sw wr]++B) sv 1 (vs.map aM)
 dn:∀i,sB sn=some i->A.length+1<i/\i≠b8
 dv:∀i,sB sv=some i->A.length+1<i/\i≠b8
 dd:∀i,sB sn=some i->sB sv≠some i
section
variable {A B:ah}{kd:By}{b8:Nat}{kb:ak}{sw:AV}{wr:Bool}{ws:List (By)}{sn sv:AV}{ns:List (By)}{vs:List Int}
def wB{x}:(A++[x]).length=A.length+1:=Si
def vq.tk(o:vq A kd b8 kb sw wr ws sn sv ns vs B){sw' wr' ws'}(hs:aI A sw' 1 (ws'.map aq))(hw:∀x∈ws',x.length<=2^40):vq A kd b8 kb sw' wr' ws' sn sv ns vs B:=
 ⟨by rw[qZ (K':=iD sw wr) Om];exact o.m7,by rw[qZ (K':=iD sw wr) (by have:=o.l8;omega)];exact o.m8,o.l8,hs,hw,o.n.swap' wB wB,o.v.swap' wB wB,o.dn,o.dv,o.dd⟩
theorem vq.app(o:vq A kd b8 kb sw wr ws sn sv ns vs B)(g:ah):vq A kd b8 kb sw wr ws sn sv ns vs (B++g):=by
 have e:A++[iD sw wr]++(B++g)=A++[iD sw wr]++B++g:=(Z4 _ _ _).symm;exact⟨by rw[e];exact(Ext.app g (Ext.refl _)).some o.m7,by rw[e];exact(Ext.app g (Ext.refl _)).some o.m8,o.l8,o.s,o.wl,by rw[e];exact o.n.app g,by rw[e];exact o.v.app g,o.dn,o.dv,o.dd⟩
def om{K X g}:(A++[K]++g).set (A.length+1) X=A++[K]++g.set 0 X:=by
 rw[aa1 _ _ Si];simp
def vq.O7(o:vq A kd b8 kb sw wr ws sn sv ns vs B){Xz ns' g}(hF:Fr (A.length+1) (A++[iD sw wr]++g) Xz 1 (ns'.map aq))(hlo:∀i,sB Xz=some i->(A++[iD sw wr]++B).length<i)
  (hle:(A++[iD sw wr]++B).length<=(A++[iD sw wr]++g).length) (hk:∀i,i<(A++[iD sw wr]++B).length->sB sn≠some i->(A++[iD sw wr]++g)[i]? =(A++[iD sw wr]++B)[i]?):
  vq A kd b8 kb sw wr ws Xz sv ns' vs (g.set 0 (Dg kd Xz sv)):=by
 have l7:=(Z2.1 o.m7).1;have l8:=(Z2.1 o.m8).1;have h8:=o.l8;have ne:∀i,i≠A.length+1->((A++[iD sw wr]++g).set (A.length+1) (Dg kd Xz sv))[i]? =(A++[iD sw wr]++g)[i]? :=λi hi=>aaj (λe=>hi e.symm)
 refine⟨?_,?_,h8,o.s,o.wl,?_,?_,λi hi=>?_,o.dv,λi hi e=>?_⟩
 ·rw[<-om,aak Om]
 ·rw[<-om,ne _ Om,hk _ l8 (λe=>(o.dn _ e).2 rfl)];exact o.m8
 ·exact z173
 ·rw[<-om];exact o.v.aD λj hj=>by rw[ne j (by have:=(o.dv j hj).1;omega),hk j (o.v.bQ hj).2 (λe=>o.dd j e hj)]
 ·have:=hlo i hi;exact⟨Om,Om⟩
 ·have h1:=hlo i hi;have h2:=(o.v.bQ e).2;omega
def vq.O6(o:vq A kd b8 kb sw wr ws sn sv ns vs B){Xw vs' g}(hF:Fr (A.length+1) (A++[iD sw wr]++g) Xw 1 (vs'.map aM))(hlo:∀i,sB Xw=some i->(A++[iD sw wr]++B).length<i)
  (hle:(A++[iD sw wr]++B).length<=(A++[iD sw wr]++g).length) (hk:∀i,i<(A++[iD sw wr]++B).length->sB sv≠some i->(A++[iD sw wr]++g)[i]? =(A++[iD sw wr]++B)[i]?):
  vq A kd b8 kb sw wr ws sn Xw ns vs' (g.set 0 (Dg kd sn Xw)):=by
 have l7:=(Z2.1 o.m7).1;have l8:=(Z2.1 o.m8).1;have h8:=o.l8;have ne:∀i,i≠A.length+1->((A++[iD sw wr]++g).set (A.length+1) (Dg kd sn Xw))[i]? =(A++[iD sw wr]++g)[i]? :=λi hi=>aaj (λe=>hi e.symm)
 refine⟨?_,?_,h8,o.s,o.wl,?_,?_,o.dn,λi hi=>?_,λi hi e=>?_⟩
 ·rw[<-om,aak Om]
 ·rw[<-om,ne _ Om,hk _ l8 (λe=>(o.dv _ e).2 rfl)];exact o.m8
 ·rw[<-om];exact o.n.aD λj hj=>by rw[ne j (by have:=(o.dn j hj).1;omega),hk j (o.n.bQ hj).2 (λe=>o.dd j hj e)]
 ·exact z173
 ·have:=hlo i hi;exact⟨Om,Om⟩
 ·have h1:=hlo i e;have h2:=(o.n.bQ hi).2;omega
end
def rm{ws wr}:∀x∈(bU ws wr).2.1,x∈ws:=by
 intro x hx;cases ws with
 |nil=>simp[bU]at hx
 |cons w r=>
  by_cases hw:w=[]
  ·rw[bU,aai hw]at hx;simp at hx
  ·rw[bU,aab hw]at hx;exact aaH _ hx
def Nx(h:ah)(ws:List (By))(v:AV)(k:ah):Prop:=Ext h k/\∃x:EV,x.ev=(fe ws).1/\v=.dW [.agg x.row,.bool (fe ws).2]/\Fr h.length k x.sn 1 (x.ev.names.map aq)/\Fr h.length k x.sv 1 (x.ev.cw.map aM)
def vS{h k}(e:Ext (h++[ak.cells [.int .i64 0,.str [],.af,.af,.str []] true false]) k):k[h.length]? =some (.cells [.int .i64 0,.str [],.af,.af,.str []] true false):=e.some (by rw[aaf (aah _)];simp)
def LM{h k}(e:Ext (h++[ak.cells [.int .i64 0,.str [],.af,.af,.str []] true false]) k):aX 5 (.ptr h.length 0) (.agg [.int .i64 0,.str [],.af,.af,.str []]) (λz=>k[z]?)=some (az,.set h.length (.cells [.int .i64 0,.str [],.af,.af,.str []] true false)):=by rw[aK (vS e)];rfl
def LO{h k}(e:Ext (h++[ak.cells [.int .i64 0,.str [],.af,.af,.str []] true false]) k):ao (some 5) (.ptr h.length 0) (λz=>k[z]?)=some (.agg [.int .i64 0,.str [],.af,.af,.str []],.ar):=by rw[aA (vS e)];rfl
def LN{h k}(e:Ext (h++[ak.cells [.int .i64 0,.str [],.af,.af,.str []] true false]) k):k.set h.length (.cells [.int .i64 0,.str [],.af,.af,.str []] true false)=k:=by
 have:=vS e;exact K3
def LL{h k x}(ox:bh k x)(e:Ext (h++[ak.cells [.int .i64 0,.str [],.af,.af,.str []] true false]) k):aX 5 (.ptr h.length 0) (.agg x.row) (λz=>k[z]?)=some (az,.set h.length (.cells x.row true false)):=by rw[aK (vS e)];exact ox.st
def LJ{h k:ah}{x:EV}(e:Ext (h++[ak.cells [.int .i64 0,.str [],.af,.af,.str []] true false]) k):ao (some 5) (.ptr h.length 0) (λz=>(k.set h.length (.cells x.row true false))[z]?)=some (.agg x.row,.ar):=by
 rw[aA (aak (Z2.1 (vS e)).1)];rfl
theorem tt:∀{n}{ws}{wr},(dw n ws wr).1.length=n
 | 0,_,_=>rfl
 |n+1,ws,wr=>by rw[dw,Z5,tt]
theorem wb:∀{n}{ws}{wr},(fR n ws wr).1.length=n
 | 0,_,_=>rfl
 |n+1,ws,wr=>by rw[fR,Z5,wb]
def vW(ws:List (By)):(fe ws).1.names.length<=3/\(fe ws).1.cw.length<=3:=by
 unfold fe;cases iH (bU ws false).1 with
 |none=>exact⟨aaC _,aaC _⟩
 |some d=>
  have h3:(bN d).length<=3/\cF d<=3:=by cases d<;>decide
  exact⟨by show(dw _ _ _).1.length<=3;rw[tt];exact h3.1,by show(fR _ _ _).1.length<=3;rw[wb];exact h3.2⟩
def xR(k:Nat):ai:=(fn111).body.dr k
def CE(k:Nat):ai:=(xR k).hd
def O3:fn111=⟨73,1,[(2,some (some 5)),(3,none)],.seq (CE 0) (.seq (CE 1) (.seq (CE 2) (.seq (CE 3) (.seq (CE 4) (.seq (CE 5) (xR 6))))))⟩:=rfl
def O2:xR 6=.seq (CE 6) (xR 7):=rfl
def O1:xR 7=.seq (CE 7) (xR 8):=rfl
attribute [local irreducible] WQ
section
variable {P:Program}(T:fq P) {h A B:ah}{kd:By}{b8:Nat}{kb:ak}{sw:AV}{wr:Bool}{ws Y8:List (By)}{sn sv:AV}{ns:List (By)}{vs:List Int}{ts:TS}
include T
theorem Ig(hA:A=h++[.cells gU true false])(o:vq A kd b8 kb sw wr ws sn sv ns vs B)(hlen:ts.length=73)(t2:slot ts 2=.ptr h.length 0)(t4:slot ts 4=.ptr A.length 0)(t7:slot ts 7=.ptr (A.length+1) 0)
  (hw:fe Y8=(⟨0,kd,ns,vs,[]⟩,!wr&&decide (ws.length=0))):WC P bJ (xR 8) [] ts (A++[iD sw wr]++B) (FQ [(2,some (some 5)),(3,none)] (Nx h Y8)):=by
 have hAl:A.length=h.length+1:=by rw[hA];simp
 obtain⟨Y,hY⟩:∃Y,Y=A++[iD sw wr]++B:=⟨_,rfl⟩;have Vi:Y=h++([ak.cells gU true false]++[iD sw wr]++B):=by rw[hY,hA];simp
 have m2:Y[h.length]? =some (.cells gU true false):=by rw[Vi,aaf (aah _)];simp
 have m4:Y[A.length]? =some (.cells [sw,.bool wr] true false):=by rw[hY];exact Js
 have m7:Y[A.length+1]? =some (.cells [.int .i64 0,.str kd,sn,sv,.str []] true false):=by rw[hY];exact o.m7
 have ln:=o.n;have lv:=o.v;rw[<-hY]at ln lv ⊢;have x:∃x:EV,x=⟨⟨0,kd,ns,vs,[]⟩,sn,sv⟩:=⟨_,rfl⟩;obtain⟨x,hx⟩:=x;have hrow:x.row=[.int .i64 0,.str kd,sn,sv,.str []]:=by rw[hx];rfl
 have ox:Fr h.length (Y.set h.length (.cells x.row true false)) x.sn 1 (x.ev.names.map aq)/\Fr h.length (Y.set h.length (.cells x.row true false)) x.sv 1 (x.ev.cw.map aM):=by
  rw[hx];exact⟨(ln.aD λj hj=>aaj (by have:=(o.dn j hj).1;omega)).low Om,(lv.aD λj hj=>aaj (by have:=(o.dv j hj).1;omega)).low Om⟩
 have oy:bh Y x:=by rw[hx];exact⟨ln.aY,lv.aY⟩
 have l4:∀{n:Option Nat}{a:Nat},ao n (.ptr A.length a) (λz=>Y[z]?)=dG n a (.cells [sw,.bool wr] true false):=aA m4;have l7:ao (some 5) (.ptr (A.length+1) 0) (λz=>Y[z]?)=some (.agg x.row,.ar):=by rw[aA m7,hrow];rfl
 have s2:aX 5 (.ptr h.length 0) (.agg x.row) (λz=>Y[z]?)=some (az,.set h.length (.cells x.row true false)):=by rw[aK m2];exact oy.st
 have l2:ao (some 5) (.ptr h.length 0) (λz=>(Y.set h.length (.cells x.row true false))[z]?)=some (.agg x.row,.ar):=by rw[aA (aak (Z2.1 m2).1)];rfl
 have hlw:=(o.s.aH (row:=aq));have fin:∀b,b=(!wr&&decide (ws.length=0))->Nx h Y8 (.dW [.agg x.row,.bool b]) (Y.set h.length (.cells x.row true false)):=λb hb=>by
  refine⟨⟨([ak.cells gU true false]++[iD sw wr]++B).set 0 (.cells x.row true false),by rw[Vi,aa1 _ _ (aah _),abb]⟩,x,by rw[hw,hx],by rw[hw,hb],ox⟩
 unfold xR fn111;simp only[ai.j,ai.s,ai.r,ai.dr,ai.tl,ai.hd];cases wr with
 |true=>
  repeat (first|simp (config:={maxSteps:=1000000}) only[aO,aT,aZ,a8,reduceAdd,reduceMul,reduceLeDiff,reduceEqDiff,bd,hlen,aal,aan,t2,t4,t7,l4,l7,s2,aar,aay,rl,pC,pE,pD,ri,pA,uX,zT,uY,rj,mO,zU,uZ,vc,rh,pB,uV,uU]|simp (config:={maxSteps:=1000000}) (disch:=first|(simp only[Z1,Z5,Z9]<;>omega)|rfl|omega|fail) only[dX,aO,aT,aZ,a8,reduceAdd,reduceMul,reduceLeDiff,reduceEqDiff,bd,hlen,aal,aan,t2,t4,t7,l4,l7,s2,aar,aay,rl,pC,pE,pD,ri,pA,uX,zT,uY,rj,mO,zU,uZ,vc,rh,pB,uV,uU])
  rw[DP];refine⟨?_,?_⟩
  ·exact Rc
  ·repeat (first|simp (config:={maxSteps:=1000000}) only[aO,aT,aZ,a8,reduceAdd,reduceMul,reduceLeDiff,reduceEqDiff,bd,hlen,aal,aan,t2,l2,pt,pv,pz,abI,abe]|simp (config:={maxSteps:=1000000}) (disch:=first|(simp only[Z1,Z5,Z9]<;>omega)|rfl|omega|fail) only[dX,aO,aT,aZ,a8,reduceAdd,reduceMul,reduceLeDiff,reduceEqDiff,bd,hlen,aal,aan,t2,l2,pt,pv,pz,abI,abe])
   exact fin _ rfl
 |false=>
  repeat (first|simp (config:={maxSteps:=1000000}) only[aO,aT,aZ,a8,reduceAdd,reduceMul,reduceLeDiff,reduceEqDiff,bd,hlen,aal,aan,t2,t4,t7,l4,l7,s2,hlw,aar,aay,rl,pC,pE,pD,ri,pA,uX,zT,uY,rj,mO,zU,uZ,vc,rh,pB,uV,uU]|simp (config:={maxSteps:=1000000}) (disch:=first|(simp only[Z1,Z5,Z9]<;>omega)|rfl|omega|fail) only[dX,aO,aT,aZ,a8,reduceAdd,reduceMul,reduceLeDiff,reduceEqDiff,bd,hlen,aal,aan,t2,t4,t7,l4,l7,s2,hlw,aar,aay,rl,pC,pE,pD,ri,pA,uX,zT,uY,rj,mO,zU,uZ,vc,rh,pB,uV,uU])
  rw[DP];refine⟨?_,?_⟩
  ·exact Rc
  ·repeat (first|simp (config:={maxSteps:=1000000}) only[aO,aT,aZ,a8,reduceAdd,reduceMul,reduceLeDiff,reduceEqDiff,bd,hlen,aal,aan,t2,l2,pt,pv,pz,abI,abe]|simp (config:={maxSteps:=1000000}) (disch:=first|(simp only[Z1,Z5,Z9]<;>omega)|rfl|omega|fail) only[dX,aO,aT,aZ,a8,reduceAdd,reduceMul,reduceLeDiff,reduceEqDiff,bd,hlen,aal,aan,t2,l2,pt,pv,pz,abI,abe])
   refine fin _ ?_;cases ws<;>simp
   try omega
def OZ(Z:qQ P){vN rs c2 c3 a4}(hA:A=h++[.cells gU true false])(hkb:kb=.cells [rs,.int .i64 (vN:Nat),c2,c3,a4] true false)(hvN:vN<=100)(o:vq A kd b8 kb sw wr ws sn sv ns [] B)(hlen:ts.length=73)(t2:slot ts 2=.ptr h.length 0)(t4:slot ts 4=.ptr A.length 0)(t6:slot ts 6=.func (.func 208) [.ptr A.length 0] [])(t7:slot ts 7=.ptr (A.length+1) 0)(t8:slot ts 8=.ptr b8 0)
  (hw:fe Y8=(⟨0,kd,ns,(fR vN ws wr).1,[]⟩,!(fR vN ws wr).2.2&&decide ((fR vN ws wr).2.1.length=0))):WC P bJ (xR 7) [] ts (A++[iD sw wr]++B) (FQ [(2,some (some 5)),(3,none)] (Nx h Y8)):=by
 have m8:=o.m8;rw[hkb]at m8;have l8:∀{n:Option Nat}{a:Nat},ao n (.ptr b8 a) (λz=>(A++[iD sw wr]++B)[z]?)=dG n a (.cells [rs,.int .i64 (vN:Nat),c2,c3,a4] true false):=aA m8;obtain⟨RR,TK⟩:∃RR,RR=xR 8:=⟨_,rfl⟩;rw[O1,<-TK];unfold CE xR fn111;simp only[ai.j,ai.s,ai.r,ai.dr,ai.tl,ai.hd];refine Rs (A6 t2 t4 t6 t7 t8 @l8) ?_;refine WL.inv T.mix (λn ts' h'=>∃(k:Nat) (sw' Xw:AV) (wr':Bool) (ws':List (By)) (vs':List Int) (B':ah),k<=vN/\n=vN-k/\h' =A++[iD sw' wr']++B'/\vq A kd b8 kb sw' wr' ws' sn Xw ns vs' B'/\vs'.length=k/\fR vN ws wr=(vs'++(fR (vN-k) ws' wr').1,(fR (vN-k) ws' wr').2)/\
   ts'.length=73/\slot ts' 2=.ptr h.length 0/\slot ts' 4=.ptr A.length 0/\slot ts' 6=.func (.func 208) [.ptr A.length 0] []/\slot ts' 7=.ptr (A.length+1) 0/\slot ts' 47=.int .i64 vN/\slot ts' 48=.int .i64 k) vN
  ⟨0,sw,sv,wr,ws,[],B,Om,rfl,rfl,o,rfl,rfl,(Sq t2),(Sq t2),(Sq t4),(Sq t6),(Sq t7),(Sq t2),ga⟩ ?_
 clear hlen t2 t4 t6 t7 t8 l8 m8 o;rintro _ ts' _ ⟨k,sw',Xw,wr',ws',vs',B',hk,rfl,rfl,o,Ty,UC,hlen,u2,u4,u6,u7,u47,u48⟩;by_cases hlt:k<vN
 ·have e3:decide ((k:Int)<vN)=true:=Z8 Om;refine Rs (A7 @u2 @u4 @u6 @u7 @u47 @u48 e3) ?_;refine WF.gen T.c208 (PV T Z o.s o.wl) ?_;rintro _ _ ⟨U0,g,rfl,rfl,To⟩;obtain⟨T2,Wz⟩:∃T2,T2=((bU ws' wr').2.2 || !jh (bU ws' wr').1):=⟨_,rfl⟩;obtain⟨y,hy⟩:∃y,y=lF (bU ws' wr').1:=⟨_,rfl⟩;rw[<-Wz,<-hy];have o2:=(o.tk (wr':=T2) To (λx hx=>o.wl x (rm x hx))).app g;have bY:fR vN ws wr=((vs'++[y])++(fR (vN-(k+1)) (bU ws' wr').2.1 T2).1,(fR (vN-(k+1)) (bU ws' wr').2.1 T2).2):=by
   rw[UC,show vN-k=(vN-(k+1))+1 by omega,fR,hy,Wz];simp
  have l7:∀{kk:ah}{n:Option Nat}{a:Nat},Ext (A++[iD U0 T2]++(B'++g)) kk->ao n (.ptr (A.length+1) a) (λz=>kk[z]?)=dG n a (.cells [.int .i64 0,.str kd,sn,Xw,.str []] true false):=λe=>aA (e.some o2.m7)
  refine Rs (A7 @u2 @u4 @u6 @u7 @u47 @u48 @l7) ?_;refine WR.pn (B:=A++[iD U0 T2]) (cs:=vs'.map aM) (z:=aM y) (by rw[wB];exact o2.v) rfl ⟨_,rfl⟩ De (by simp;omega) ?_;rintro _ s' ⟨g2,rfl⟩ hF hlo hone hle hkp;rw[wB]at hF;have er:vs'.map aM++[aM y]=(vs'++[y]).map aM:=by rw[aae];rfl
  rw[er]at hF;have q7:=(Z2.1 o2.m7).1;have m7':(A++[iD U0 T2]++g2)[A.length+1]? =some (.cells [.int .i64 0,.str kd,sn,Xw,.str []] true false):=by
   rw[hkp _ q7 (λe=>by have:=(o2.dv _ e).1;omega)];exact o2.m7
  have s7:aX 1 (.ptr (A.length+1) 3) s' (λz=>(A++[iD U0 T2]++g2)[z]?)=some (az,.set (A.length+1) (.cells [.int .i64 0,.str kd,sn,s',.str []] true false)):=by
   rw[aK m7'];exact bP hone Si
  have o3:=o2.O6 hF hlo hle hkp;refine Rs (A8 @u2 @u4 @u6 @u7 @u47 @u48 @s7 (wrapN (show k+1<2^63 by omega))) ?_;exact⟨vN-(k+1),Om,k+1,U0,s',T2,_,vs'++[y],_,Om,rfl,om,o3,by simp[Ty],bY,rfl⟩
 ·have e3:decide ((k:Int)<vN)=false:=Z3 Om;have ek:k=vN:=Om
  subst ek;rw[abb,fR,aaw]at UC;rw[UC]at hw;refine Rs (A7 @u2 @u4 @u6 @u7 @u47 @u48 e3) ?_;rw[TK];exact Ig T hA o (Sq @u2) (Sq @u2) (Sq @u4) (Sq @u7) hw
def O0(Z:qQ P){nN vN rs c2 c3 a4}(hA:A=h++[.cells gU true false])(hkb:kb=.cells [rs,.int .i64 (vN:Nat),c2,c3,a4] true false)(hnN:nN<=100)(hrs:∀G,ja .sl G rs=some nN)(hvN:vN<=100)(o:vq A kd b8 kb sw wr ws sn sv [] [] B)(hlen:ts.length=73)(t2:slot ts 2=.ptr h.length 0)(t4:slot ts 4=.ptr A.length 0)
  (t5:slot ts 5=.func (.func 207) [.ptr A.length 0] []) (t6:slot ts 6=.func (.func 208) [.ptr A.length 0] []) (t7:slot ts 7=.ptr (A.length+1) 0) (t8:slot ts 8=.ptr b8 0)
  (hw:fe Y8=(⟨0,kd,(dw nN ws wr).1,(fR vN (dw nN ws wr).2.1 (dw nN ws wr).2.2).1,[]⟩,!(fR vN (dw nN ws wr).2.1 (dw nN ws wr).2.2).2.2&&decide ((fR vN (dw nN ws wr).2.1 (dw nN ws wr).2.2).2.1.length=0))):WC P bJ (xR 6) [] ts (A++[iD sw wr]++B) (FQ [(2,some (some 5)),(3,none)] (Nx h Y8)):=by
 have m8:=o.m8;rw[hkb]at m8;have l8:∀{n:Option Nat}{a:Nat},ao n (.ptr b8 a) (λz=>(A++[iD sw wr]++B)[z]?)=dG n a (.cells [rs,.int .i64 (vN:Nat),c2,c3,a4] true false):=aA m8;obtain⟨RR,TK⟩:∃RR,RR=xR 7:=⟨_,rfl⟩;rw[O2,<-TK];unfold CE xR fn111;simp only[ai.j,ai.s,ai.r,ai.dr,ai.tl,ai.hd];refine Rs (A8 t2 t4 t5 t6 t7 t8 @l8 @hrs) ?_;refine WL.inv T.mix (λn ts' h'=>∃(k:Nat) (sw' Xz:AV) (wr':Bool) (ws' ns':List (By)) (B':ah),k<=nN/\n=nN-k/\h' =A++[iD sw' wr']++B'/\vq A kd b8 kb sw' wr' ws' Xz sv ns' [] B'/\ns'.length=k/\dw nN ws wr=(ns'++(dw (nN-k) ws' wr').1,(dw (nN-k) ws' wr').2)/\
   ts'.length=73/\slot ts' 2=.ptr h.length 0/\slot ts' 4=.ptr A.length 0/\slot ts' 5=.func (.func 207) [.ptr A.length 0] []/\slot ts' 6=.func (.func 208) [.ptr A.length 0] []/\slot ts' 7=.ptr (A.length+1) 0/\slot ts' 8=.ptr b8 0/\slot ts' 34=.int .i64 nN/\slot ts' 35=.int .i64 k) nN
  ⟨0,sw,sn,wr,ws,[],B,Om,rfl,rfl,o,rfl,rfl,(Sq t2),(Sq t2),(Sq t4),(Sq t5),(Sq t6),(Sq t7),(Sq t8),(Sq t2),ga⟩ ?_
 clear hlen t2 t4 t5 t6 t7 t8 l8 m8 o;rintro _ ts' _ ⟨k,sw',Xz,wr',ws',ns',B',hk,rfl,rfl,o,Ty,UC,hlen,u2,u4,u5,u6,u7,u8,u34,u35⟩;by_cases hlt:k<nN
 ·have e3:decide ((k:Int)<nN)=true:=Z8 Om;refine Rs (A9 @u2 @u4 @u5 @u6 @u7 @u8 @u34 @u35 e3) ?_;refine WF.gen T.c207 (IU T o.s) ?_;rintro _ _ ⟨U0,rfl,rfl,To⟩;obtain⟨T2,Wz⟩:∃T2,T2=(bU ws' wr').2.2:=⟨_,rfl⟩;obtain⟨y,hy⟩:∃y,y=(bU ws' wr').1:=⟨_,rfl⟩;rw[<-Wz,<-hy];have o2:=o.tk (wr':=T2) To (λx hx=>o.wl x (rm x hx));have bY:dw nN ws wr=((ns'++[y])++(dw (nN-(k+1)) (bU ws' wr').2.1 T2).1,(dw (nN-(k+1)) (bU ws' wr').2.1 T2).2):=by
   rw[UC,show nN-k=(nN-(k+1))+1 by omega,dw,hy,Wz];simp
  have l7:∀{kk:ah}{n:Option Nat}{a:Nat},Ext (A++[iD U0 T2]++B') kk->ao n (.ptr (A.length+1) a) (λz=>kk[z]?)=dG n a (.cells [.int .i64 0,.str kd,Xz,sv,.str []] true false):=λe=>aA (e.some o2.m7)
  refine Rs (A9 @u2 @u4 @u5 @u6 @u7 @u8 @u34 @u35 @l7) ?_;refine WR.pn (B:=A++[iD U0 T2]) (cs:=ns'.map aq) (z:=aq y) (by rw[wB];exact o2.n) rfl ⟨_,rfl⟩ De (by simp;omega) ?_;rintro _ s' ⟨g2,rfl⟩ hF hlo hone hle hkp;rw[wB]at hF;have er:ns'.map aq++[aq y]=(ns'++[y]).map aq:=by rw[aae];rfl
  rw[er]at hF;have q7:=(Z2.1 o2.m7).1;have m7':(A++[iD U0 T2]++g2)[A.length+1]? =some (.cells [.int .i64 0,.str kd,Xz,sv,.str []] true false):=by
   rw[hkp _ q7 (λe=>by have:=(o2.dn _ e).1;omega)];exact o2.m7
  have s7:aX 1 (.ptr (A.length+1) 2) s' (λz=>(A++[iD U0 T2]++g2)[z]?)=some (az,.set (A.length+1) (.cells [.int .i64 0,.str kd,s',sv,.str []] true false)):=by
   rw[aK m7'];exact bP hone Si
  have o3:=o2.O7 hF hlo hle hkp;refine Rs (mU @u2 @u4 @u5 @u6 @u7 @u8 @u34 @u35 @s7 (wrapN (show k+1<2^63 by omega))) ?_;exact⟨nN-(k+1),Om,k+1,U0,s',T2,_,ns'++[y],_,Om,rfl,om,o3,by simp[Ty],bY,rfl⟩
 ·have e3:decide ((k:Int)<nN)=false:=Z3 Om;have ek:k=nN:=Om
  subst ek;rw[abb,dw,aaw]at UC;rw[UC]at hw;refine Rs (A9 @u2 @u4 @u5 @u6 @u7 @u8 @u34 @u35 e3) ?_;rw[TK];exact OZ T Z hA hkb hvN o (Sq @u2) (Sq @u2) (Sq @u4) (Sq @u6) (Sq @u7) (Sq @u8) hw
def r111(Z:qQ P){s ws}(hs:aI h s 1 (ws.map aq))(hwl:∀x∈ws,x.length<=2^40):ay P 111 [s] h (λv k=>∃x:EV,x.ev=(fe ws).1/\v=.dW [.agg x.row,.bool (fe ws).2]/\Fr h.length k x.sn 1 (x.ev.names.map aq)/\Fr h.length k x.sv 1 (x.ev.cw.map aM)):=by
 refine .of T.mix (acv T.c111 (aax some O3)) ?_;obtain⟨ts,SH⟩:∃ts,ts=aW 73 [s]:=⟨_,rfl⟩;have hlen:ts.length=73:=by rw[SH];rfl
 have t0:slot ts 0=s:=by rw[SH];rfl
 obtain⟨RR,TK⟩:∃RR,RR=xR 6:=⟨_,rfl⟩;show WC P bJ _ [] (aW 73 [s]) h (FQ _ (Nx h ws));rw[<-SH,<-TK];clear SH;have hso:=hs.one;unfold CE xR fn111;simp only[ai.j,ai.s,ai.r,ai.dr,ai.tl,ai.hd];refine Rs (A2 t0 @hso) ?_;obtain⟨A,hA⟩:∃A,A=h++[ak.cells gU true false]:=⟨_,rfl⟩;have hAl:A.length=h.length+1:=by rw[hA];simp
 have gw:=IU T (A:=A) (B:=[]) (wr:=false) (hs.ext (k:=A) ⟨_,hA⟩);rw[aaw,hA]at gw;refine WF.gen T.c207 gw ?_;rintro _ _ ⟨U0,rfl,rfl,To⟩;rw[aaw];rw[<-hA]at To;have hwl2:∀x∈(bU ws false).2.1,x.length<=2^40:=λx hx=>hwl x (rm x hx)
 have Ub:fe ws=match iH (bU ws false).1 with
  |none=>(lV,false)
  |some d=>(⟨0,bu d,(dw (bN d).length (bU ws false).2.1 (bU ws false).2.2).1,(fR (cF d) (dw (bN d).length (bU ws false).2.1 (bU ws false).2.2).2.1 (dw (bN d).length (bU ws false).2.1 (bU ws false).2.2).2.2).1,[]⟩,!(fR (cF d) (dw (bN d).length (bU ws false).2.1 (bU ws false).2.2).2.1 (dw (bN d).length (bU ws false).2.1 (bU ws false).2.2).2.2).2.2&&decide ((fR (cF d) (dw (bN d).length (bU ws false).2.1 (bU ws false).2.2).2.1 (dw (bN d).length (bU ws false).2.1 (bU ws false).2.2).2.2).2.1.length=0)):=by
  unfold fe;cases iH (bU ws false).1<;>rfl
 generalize (bU ws false).1=kd at *;generalize (bU ws false).2.1=ws2 at *;generalize (bU ws false).2.2=T2 at *;refine Rs t0 ?_;refine WF.res T.c90 (r90 T) ?_;rintro _ g2 ⟨vf,rfl,hk⟩;have lk:∀{z:AV},iU .s z true (.map (h++[ak.cells gU true false]++[iD U0 T2]++[Dg kd .af .af]).length) (.str kd) (λb=>(h++[ak.cells gU true false]++[iD U0 T2]++[Dg kd .af .af]++g2)[b]?)=lX z true ((iH kd).map vf):=hk.look;unfold Dg at lk;cases hd:iH kd with
 |none=>
  rw[hd]at lk Ub;have Tr:∀{z:AV},_=some (AV.dW [z,.bool false],jd.ar):=@lk;have z2:∀{k:ah},Ext (h++[ak.cells gU true false]) k->k[h.length]? =some (.cells gU true false):=λe=>e.some (by rw[aaf (aah _)];simp)
  have s2:∀{k:ah},Ext (h++[ak.cells gU true false]) k->aX 5 (.ptr h.length 0) (.agg [.int .i64 0,.str [],.af,.af,.str []]) (λz=>k[z]?)=some (az,.set h.length (.cells gU true false)):=λe=>by rw[aK (z2 e)];rfl
  have l2:∀{k:ah},Ext (h++[ak.cells gU true false]) k->ao (some 5) (.ptr h.length 0) (λz=>k[z]?)=some (.agg gU,.ar):=λe=>by rw[aA (z2 e)];rfl
  have sq:∀{k:ah},Ext (h++[ak.cells gU true false]) k->k.set h.length (.cells gU true false)=k:=λ{k} e=>by
   have:=z2 e;exact K3
  refine Rs (A8 t0 @bZ @Tr @iZ @aay @s2 @sq @l2) ?_;exact⟨Xx,⟨lV,.af,.af⟩,by rw[Ub],by rw[Ub];rfl,.nil,.nil⟩
 |some d=>
  rw[hd]at lk Ub;have Tr:∀{z:AV},_=some (AV.dW [vf d,.bool true],jd.ar):=@lk;obtain⟨rs,a,hv,hr,ha,hab⟩:=(hk.k d).ex;rw[hv]at Tr;have hlr:=hr.aH;have c1:=mG d;have c2:=l9 d;have c3:=hr.one;have h3:(bN d).length<=3/\cF d<=3:=by cases d<;>decide
  refine Rs (A8 t0 @bZ @Tr @aar @c1 @c2 @c3 @ha) ?_;rw[TK];obtain⟨kb,hkb⟩:∃kb,kb=ak.cells [rs,.int .i64 (cF d:Nat),kE d,pX d,a] true false:=⟨_,rfl⟩;obtain⟨b8,hb8⟩:∃b8,b8=(h++[ak.cells gU true false]++[iD U0 T2]++[ak.cells [.int .i64 0,.str kd,.af,.af,.str []] true false]++g2).length:=⟨_,rfl⟩;rw[<-hkb,<-hb8];have eh:h++[ak.cells gU true false]++[iD U0 T2]++[ak.cells [.int .i64 0,.str kd,.af,.af,.str []] true false]++g2++[kb]=A++[iD U0 T2]++([Dg kd .af .af]++g2++[kb]):=by rw[hA];unfold Dg;simp
  rw[eh];have o:vq A kd b8 kb U0 T2 ws2 .af .af [] [] ([Dg kd .af .af]++g2++[kb]):=by
   refine⟨?_,?_,?_,To,hwl2,.nil,.nil,λi hi=>(by cases hi),λi hi=>(by cases hi),λi hi=>(by cases hi)⟩
   ·rw[aaf Si];simp
   ·rw[<-eh,hb8,aaf (aah _),abb];rfl
   ·rw[hb8,hAl];simp only[Z1,aau];omega
  refine O0 T Z (nN:=(bN d).length) (vN:=cF d) hA hkb Om hlr Om o (Sq t0) (Sq t0) ?_ ?_ ?_ ?_ (Sq t0) ?_
  all_goals first|(rw[Ub,cA hd];done)|skip
  ·refine Zs t0 ?_;rw[hA];rfl
  ·refine Zs t0 ?_;rw[hA];rfl
  ·refine Zs t0 ?_;rw[hA];rfl
  ·refine Zs t0 ?_;rw[hA];simp
end
def tz{c s n}(hs:s.length<=n):∀x∈bM c s,x.length<=n:=λx hx=>aaT (tB x hx) hs
theorem sI{c}:∀{s},(fF c s).1.length<=s.length/\(fF c s).2.1.length<=s.length
 |[]=>⟨aah _,aah _⟩
 |x::r=>by
  have ih:=sI (c:=c) (s:=r);rw[fF];split
  ·simp
  ·simp only[Z5];omega
def GJ{h G:ah}{X Y:ak}{j:Nat}(hj:j≠h.length):(h++([X]++G))[j]? =(h++([Y]++G))[j]? :=by
 rw[<-Z4,<-Z4];exact qZ hj
section
variable {P:Program}(T:fq P) {h:ah}
include T
def r99(X:DO P)(Z:qQ P)(w:Pw h)(s:By)(hsl:s.length<=2^38)(n:Int):ay P 99 [.str s,.i n] h (λv k=>∃x:EV,x.ev=(gk s n).1/\v=.dW [.agg x.row,.i (gk s n).2]/\Fr h.length k x.sn 1 (x.ev.names.map aq)/\Fr h.length k x.sv 1 (x.ev.cw.map aM)):=by
 refine .eX 83 T.mix T.c99 ?_;intro ts hlen t0 t1;unfold fn99 gA;have w1:IntKind.i64.wrap ((s.length:Int)-7)=(s.length:Int)-7:=bD Om Om;have w2:IntKind.i64.wrap ((s.length:Int)-7-1)=(s.length:Int)-8:=by rw[bD Om Om];omega
 have s2:=@LM h;have l2:=@LO h;have sq:=@LN h;have bad:∀{c:Int}{k:ah},gk s n=(lV,c)->Ext h k->(Ext h k/\∃x:EV,x.ev=(gk s n).1/\AV.dW [.agg [.i 0,.str [],.af,.af,.str []],.i c]=.dW [.agg x.row,.i (gk s n).2]/\Fr h.length k x.sn 1 (x.ev.names.map aq)/\Fr h.length k x.sv 1 (x.ev.cw.map aM)):=
  λhe e=>⟨e,⟨lV,.af,.af⟩,by rw[he],by rw[he];rfl,.nil,.nil⟩
 by_cases h8:s.length<8
 ·have d1:decide ((s.length:Int)-8<0)=true:=Z8 Om;refine Rs (A8 t0 t1 @w1 @w2 @d1 @s2 @l2 @sq) ?_;exact(bad (by rw[gk,aai h8]) Xx).2
 have d1:decide ((s.length:Int)-8<0)=false:=Z3 Om;have ea:(s.length:Int)-8=((s.length-8:Nat):Int):=Om
 rw[ea]at w2 d1;have hlt:s.length-8<s.length:=Om
 have w3:IntKind.i64.wrap (((s.length-8:Nat):Int)+1)=((s.length-7:Nat):Int):=by rw[bD Om Om];omega
 have gd:s.getD (s.length-8) 0=s[s.length-8]:=by rw[aaN,Z6 hlt];rfl
 by_cases hh:s[s.length-8]=35
 case neg=>
  have d2:decide ((s[s.length-8].toNat:Int)≠35)=true:=Z8 λe=>hh (UInt8.toNat_inj.1 (by simpa using (by omega:s[s.length-8].toNat=35)))
  repeat (first|simp (config:={maxSteps:=1000000}) only[aO,aT,aZ,a8,reduceAdd,reduceMul,reduceLeDiff,reduceEqDiff,bd,hlen,aal,aan,t0,t1,w1,w2,d1,ke hlt,d2,s2,l2,sq]|simp (config:={maxSteps:=1000000}) (disch:=first|(simp only[Z1,Z5,Z9]<;>omega)|rfl|omega|fail) only[dX,aO,aT,aZ,a8,reduceAdd,reduceMul,reduceLeDiff,reduceEqDiff,bd,hlen,aal,aan,t0,t1,w1,w2,d1,ke hlt,d2,s2,l2,sq])
  exact(bad (by rw[gk,aab h8,aai (.inl (by rw[gd];exact hh))]) Xx).2
 have d2:decide ((s[s.length-8].toNat:Int)≠35)=false:=Z3 (by rw[hh];decide)
 repeat (first|simp (config:={maxSteps:=1000000}) only[aO,aT,aZ,a8,reduceAdd,reduceMul,reduceLeDiff,reduceEqDiff,bd,hlen,aal,aan,t0,t1,w1,w2,d1,ke hlt,d2,w3,kP (show s.length-7<=s.length by omega)]|simp (config:={maxSteps:=1000000}) (disch:=first|(simp only[Z1,Z5,Z9]<;>omega)|rfl|omega|fail) only[dX,aO,aT,aZ,a8,reduceAdd,reduceMul,reduceLeDiff,reduceEqDiff,bd,hlen,aal,aan,t0,t1,w1,w2,d1,ke hlt,d2,w3,kP (show s.length-7<=s.length by omega)])
 refine WF.ce T.c189 (r189 T _ (by rw[ach];omega)) λg1=>?_
 cases hd:sH (s.drop (s.length-7))with
 |false=>
  refine Rs (A7 t0 t1 @hd @aay @s2 @l2 @sq) ?_;exact(bad (by rw[gk,aab h8,aai (.inr (by rw[hd];simp))]) Xx).2
 |true=>
 repeat (first|simp (config:={maxSteps:=1000000}) only[aO,aT,aZ,a8,reduceAdd,reduceMul,reduceLeDiff,reduceEqDiff,bd,hlen,aal,aan,t0,t1,hd,aar,ry (show s.length-8<=s.length by omega)]|simp (config:={maxSteps:=1000000}) (disch:=first|(simp only[Z1,Z5,Z9]<;>omega)|rfl|omega|fail) only[dX,aO,aT,aZ,a8,reduceAdd,reduceMul,reduceLeDiff,reduceEqDiff,bd,hlen,aal,aan,t0,t1,hd,aar,ry (show s.length-8<=s.length by omega)])
 have VZ:∀{α:Type}{a b:α},(if s.getD (s.length-8) 0≠35\/¬sH (s.drop (s.length-7))=true then a else b)=b:=λ{_ _ _}=>aab (by rw[gd,hd];simp[hh])
 refine WF.ce T.c187 (r187 T Z _ (by rw[aaQ];omega) (w.ext Xx)) λg2=>?_
 by_cases hc:nV (s.take (s.length-8))=s.drop (s.length-7)
 case neg=>
  have d3:decide (nV (s.take (s.length-8))≠s.drop (s.length-7))=true:=Z8 hc
  repeat (first|simp (config:={maxSteps:=1000000}) only[aO,aT,aZ,a8,reduceAdd,reduceMul,reduceLeDiff,reduceEqDiff,bd,hlen,aal,aan,t0,t1,w3,kP (show s.length-7<=s.length by omega),d3,s2,l2,sq]|simp (config:={maxSteps:=1000000}) (disch:=first|(simp only[Z1,Z5,Z9]<;>omega)|rfl|omega|fail) only[dX,aO,aT,aZ,a8,reduceAdd,reduceMul,reduceLeDiff,reduceEqDiff,bd,hlen,aal,aan,t0,t1,w3,kP (show s.length-7<=s.length by omega),d3,s2,l2,sq])
  exact(bad (by rw[gk,aab h8,VZ,aai hc]) Xx).2
 have d3:decide (nV (s.take (s.length-8))≠s.drop (s.length-7))=false:=Z3 (λz=>z hc);have hes:gk s n=if !jh (fF 32 (s.take (s.length-8))).1 || !(fe (bM 32 (fF 32 (s.take (s.length-8))).2.1)).2||decide (eA { (fe (bM 32 (fF 32 (s.take (s.length-8))).2.1)).1 with num:=lF (fF 32 (s.take (s.length-8))).1}≠0)then(lV,25)else({ (fe (bM 32 (fF 32 (s.take (s.length-8))).2.1)).1 with num:=lF (fF 32 (s.take (s.length-8))).1},bW (decide (lF (fF 32 (s.take (s.length-8))).1≠n)) 11):=(aab h8).trans (VZ.trans (aab (λz=>z hc)))
 have htl:(s.take (s.length-8)).length<=2^38:=by rw[aaQ];omega
 have hcl:=sI (c:=32) (s:=s.take (s.length-8))
 repeat (first|simp (config:={maxSteps:=1000000}) only[aO,aT,aZ,a8,reduceAdd,reduceMul,reduceLeDiff,reduceEqDiff,bd,hlen,aal,aan,t0,t1,w3,kP (show s.length-7<=s.length by omega),d3,ry (show s.length-8<=s.length by omega)]|simp (config:={maxSteps:=1000000}) (disch:=first|(simp only[Z1,Z5,Z9]<;>omega)|rfl|omega|fail) only[dX,aO,aT,aZ,a8,reduceAdd,reduceMul,reduceLeDiff,reduceEqDiff,bd,hlen,aal,aan,t0,t1,w3,kP (show s.length-7<=s.length by omega),d3,ry (show s.length-8<=s.length by omega)])
 refine WF.ce T.c98 (r98 T X _ 32 Om) λg3=>?_
 generalize hq1:(fF 32 (s.take (s.length-8))).1=a1 at hes hcl ⊢;generalize hq2:(fF 32 (s.take (s.length-8))).2.1=a2 at hes hcl ⊢;refine Rs (A2 t0 t1) ?_;refine WF.ce T.c190 (r190 T Z a1 Om) λg4=>?_
 refine Rs (A2 t0 t1) ?_;refine WF.res T.c64 (r64 T X a2 32 Om) ?_;intro v g5 hv;refine Rs (A2 t0 t1) ?_;have Un:=vW (bM 32 a2);refine WF.res T.c111 (r111 T Z hv (tz Om)) ?_;rintro _ g6 ⟨x,hx,rfl,fn,fv⟩;have ox:bh _ x:=⟨fn.aY,fv.aY⟩;rw[<-hx]at hes Un;generalize (fe (bM 32 a2)).2=fm at hes ⊢;obtain⟨x',SO⟩:∃x':EV,x' =⟨{x.ev with num:=lF a1},x.sn,x.sv⟩:=⟨_,rfl⟩;have Tz:x'.sn=x.sn:=by rw[SO]
 have hsv:x'.sv=x.sv:=by rw[SO]
 have Vr:x'.ev.names=x.ev.names:=by rw[SO]
 have Ty:x'.ev.cw=x.ev.cw:=by rw[SO]
 have hrow:x'.row=x.row.set 0 (.i (lF a1)):=by rw[SO];rfl
 have hev:({x.ev with num:=lF a1}:cY)=x'.ev:=by rw[SO]
 rw[hev]at hes;have T5:gk s n=if !jh a1 || !fm||decide (eA x'.ev≠0)then(lV,25)else(x'.ev,bW (decide (lF a1≠n)) 11):=hes
 rw[<-Tz,<-Vr]at fn;rw[<-hsv,<-Ty]at fv;have Ys:bh _ x':=⟨fn.aY,fv.aY⟩;have st:∀{b':Nat}{a0 a1 a2 a3 a4:AV},kN 5 0 (.agg x.row) b' (.b [a0,a1,a2,a3,a4])=some (az,.set b' (.b x.row)):=λ{_ _ _ _ _ _}=>ox.st
 have kM:∀{b':Nat},kN 1 0 (.i (lF a1)) b' (.b x.row)=some (az,.set b' (.b x'.row)):=λ{b'}=>by
  rw[hrow];exact bP rfl (by show 0+1<=5;omega)
 cases hdg:jh a1 with
 |false=>
  rw[hdg]at T5;refine Rs (A9 t0 t1 @st @kM @bR @aay @s2 @l2 @sq) ?_;exact HD
 |true=>
 cases fm with
 |false=>
  rw[hdg]at T5;refine Rs (mU t0 t1 @st @kM @bR @aay @aar @s2 @l2 @sq) ?_;exact HD
 |true=>
 rw[hdg]at T5;refine Rs (A7 t0 t1 @st @kM @bR @aay @aar) ?_;refine WF.ce T.c67 (r67 T (Ys.ext Xx) ⟨by rw[Vr];omega,by rw[Ty];omega⟩) λg7=>?_
 by_cases Ud:eA x'.ev=0
 case neg=>
  have d4:decide (eA x'.ev≠0)=true:=Z8 Ud;rw[d4]at T5;refine Rs (A6 t0 t1 @d4 @s2 @l2 @sq) ?_;exact HD
 have d4:decide (eA x'.ev≠0)=false:=Z3 (λz=>z Ud);rw[d4]at T5;have key:∀{k:ah}{W:ah},bh W x'->Ext (h++[ak.b [.i 0,.str [],.af,.af,.str []]]) W->Ext W k->aX 5 (.ptr h.length 0) (.agg x'.row) (λz=>k[z]?)=some (az,.set h.length (.b x'.row)):=λo e1 e2=>LL (o.ext e2) (e1.trans e2)
 have sx:=λ{k:ah}=>@key k _ Ys Xx
 have ly:=@LJ h;refine Rs (A4 t0 t1 @d4 @bR) ?_;refine WF.ce T.c85 (r85 T _ _) λg8=>?_
 have fn3:=((fn.app [ak.b x'.row]).app g7).app g8;have fv3:=((fv.app [ak.b x'.row]).app g7).app g8;refine Rs (A4 t0 t1 @sx @ly) ?_;refine⟨Xx,x',by rw[T5];rfl,by rw[T5];rfl,(fn3.aD λj hj=>?_).low ?_,(fv3.aD λj hj=>?_).low ?_⟩
 ·simp only[Z4];refine GJ λe=>?_
  have:=(fn3.bQ hj).1;simp only[Z1,aau]at this;omega
 ·exact Kc
 ·simp only[Z4];refine GJ λe=>?_
  have:=(fv3.bQ hj).1;simp only[Z1,aau]at this;omega
 ·exact Kc
end
end Go.Abs
