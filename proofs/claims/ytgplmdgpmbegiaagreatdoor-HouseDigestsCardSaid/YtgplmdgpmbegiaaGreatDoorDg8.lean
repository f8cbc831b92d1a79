/- A part of the proof that HouseDigests holds. No condition. -/
import Derived.Test.YtgplmdgpmbegiaaGreatDoorDg7
import Derived.Lib.Bytealg
import Derived.Test.YtgplmdgpmbegiaaGreatDoorDg6
import Derived.Lib.ItoaNum
import Derived.Lib.ItoaLen
import Derived.Lib.ItoaMem
import Derived.Lib.Join
import Derived.Test.YtgplmdgpmbegiaaGreatDoorDg0
set_option maxHeartbeats 4000000
set_option linter.all false
open Nat (reduceAdd reduceMul reduceLeDiff reduceEqDiff)
namespace Go.Abs
theorem sL:∀(l m:List db) (H:gM) (i:Nat),fD H (l++m) i=if(fD H l i).2.2≠0 then fD H l i else fD (fD H l i).1 m (i+l.length)
 |[],m,H,i=>by simp[fD]
 |e::l,m,H,i=>by
  rw[Uu,fD,fD];by_cases h:dV H e≠0
  ·simp only[Ty h]
  ·simp only[Tt h];rw[sL l m (jQ H e) (i+1)];have:i+1+l.length=i+(e::l).length:=by simp only[Tl];omega
   rw[this]
def AK(l:List db)(e:db):Int:=
 if(aT l).2.2≠0 then(aT l).2.2 else if eS e≠0 then eS e else if 1000<=l.length then 5 else(aT (l++[e])).2.2
def mN{l:List db}{e:db}(h:(aT l).2.2=0)(hl:l.length<1000):aT (l++[e])=if dV (aT l).1 e≠0 then(gM.zero,(l.length:Int)+1,dV (aT l).1 e)else(jQ (aT l).1 e,0,0):=by
 have e1:aT l=fD gM.zero l 0:=by rw[aT,Tt Om]
 have e2:aT (l++[e])=fD gM.zero (l++[e]) 0:=by rw[aT,Tt (by simp;omega)]
 rw[e2,sL,<-e1,Tt (λz=>z h),fD,TZ];rfl
def AJ(l:List db)(e:db):AK l e=pL l e:=by
 unfold AK pL;by_cases h1:(aT l).2.2=0
 case neg=>
  have hf:aG [(aT l).2.2,eS e,bz (decide (1000<=l.length)) 5]=(aT l).2.2:=by rw[aG,Tt h1]
  rw[Ty h1,hf,Ty h1]
 rw[Tt (λz=>z h1)];by_cases h2:eS e=0
 case neg=>
  have hf:aG [(aT l).2.2,eS e,bz (decide (1000<=l.length)) 5]=eS e:=by rw[aG,Ty h1,aG,Tt h2]
  rw[Ty h2,hf,Ty h2]
 rw[Tt (λz=>z h2)];by_cases h3:1000<=l.length
 ·have hf:aG [(aT l).2.2,eS e,bz (decide (1000<=l.length)) 5]=5:=by
   rw[aG,Ty h1,aG,Ty h2,Tq h3];rfl
  rw[Ty h3,hf,Ty De]
 ·have hf:aG [(aT l).2.2,eS e,bz (decide (1000<=l.length)) 5]=0:=by
   rw[aG,Ty h1,aG,Ty h2,Tm h3];rfl
  rw[Tt h3,hf,Tt (λz=>z rfl),mN h1 Om];have hb:dV (aT l).1 e=jw (aT l).1 e:=by rw[dV,Tt (λz=>z h2)]
  by_cases h4:dV (aT l).1 e=0
  ·rw[Tt (λz=>z h4),<-hb,h4]
  ·rw[Ty h4,hb]
def aY(c:UInt8):By->List (By)
 |[]=>[[]]
 |x::r=>
  if x=c then []::aY c r
  else match aY c r with
   |p::ps=>(x::p)::ps
   |[]=>[[x]]
def iz{c:UInt8}:∀{s:By},aY c s≠[]
 |[]=>by simp[aY]
 |x::r=>by
  unfold aY;split
  ·simp
  ·split<;>simp
theorem qj{c:UInt8}:∀{s:By},c∉s->aY c s=[s]
 |[],_=>rfl
 |x::r,h=>by
  unfold aY;rw[Tt (λe=>h (by simp[e])),qj (λhr=>h (TK _ hr))]
theorem oJ{c:UInt8}{q:By}:∀{p:By},c∉p->aY c (p++c::q)=p::aY c q
 |[],_=>by simp[aY]
 |x::r,h=>by
  rw[Uu,aY,Tt (λe=>h (by simp[e])),oJ (λhr=>h (TK _ hr))]
theorem oI{c:UInt8}:∀{s:By},(aY c s).length=s.count c+1
 |[]=>rfl
 |x::r=>by
  have ih:=oI (c:=c) (s:=r);unfold aY;by_cases h:x=c
  ·subst h;rw[Ty rfl,Tl,ih,List.count_cons_self]
  ·rw[Tt h,List.count_cons_of_ne h];cases hs:aY c r with
   |nil=>exact absurd hs iz
   |cons p ps=>rw[hs]at ih;simpa using ih
theorem qk{c:UInt8}:∀{s:By},∀p∈aY c s,p.length<=s.length
 |[]=>by simp[aY]
 |x::r=>by
  have ih:=qk (c:=c) (s:=r);intro p hp;unfold aY at hp;rw[Tl];by_cases h:x=c
  ·rw[Ty h]at hp;rcases TP.1 hp with rfl|hp
   ·simp
   ·have:=ih p hp;omega
  ·rw[Tt h]at hp;cases hs:aY c r with
   |nil=>exact absurd hs iz
   |cons q qs=>
    rw[hs]at hp ih;rcases TP.1 hp with rfl|hp
    ·have:=ih q Si;rw[Tl];omega
    ·have:=ih p (by simp[hp]);omega
def gE(c:UInt8):List (By)->By
 |[]=>[]
 |[p]=>p
 |p::ps=>p++c::gE c ps
def kW{c:UInt8}{p:By}{r:List (By)}(h:r≠[]):gE c (p::r)=p++c::gE c r:=by
 cases r with
 |nil=>exact absurd rfl h
 |cons=>rfl
theorem gV{c:UInt8}:∀{s:By},gE c (aY c s)=s
 |[]=>rfl
 |x::r=>by
  have ih:=gV (c:=c) (s:=r);unfold aY;by_cases h:x=c
  ·subst h;rw[Ty rfl];cases hs:aY x r with
   |nil=>exact absurd hs iz
   |cons p ps=>rw[hs]at ih;rw[gE,ih]<;>simp
  ·rw[Tt h];cases hs:aY c r with
   |nil=>exact absurd hs iz
   |cons p ps=>
    rw[hs]at ih;cases ps with
    |nil=>rw[gE]at ih ⊢;rw[ih]
    |cons q qs=>
     rw[gE]at ih ⊢<;>first|(rw[<-ih];rfl)|simp
theorem DL{c:UInt8}:∀{s:By},c∉s->Lib.indexByte s c= -1
 |[],_=>rfl
 |x::r,h=>by
  unfold Lib.indexByte;have h1:(x==c)=false:=by simp;exactλe=>h (by simp[e])
  rw[h1,DL (λhr=>h (TK _ hr))];rfl
theorem zV{c:UInt8}{q:By}:∀{p:By},c∉p->Lib.indexByte (p++c::q) c=p.length
 |[],_=>by simp[Lib.indexByte]
 |x::r,h=>by
  have ih:=zV (q:=q) (λhr=>h (TK _ hr):c∉r);rw[Uu,Lib.indexByte];have h1:(x==c)=false:=by simp;exactλe=>h (by simp[e])
  rw[h1,ih];have h2:((r.length:Int) == -1)=false:=Si
  rw[h2];simp
def tC(c:UInt8)(s:By):(c∉s/\Lib.indexByte s c= -1)\/∃p q,c∉p/\s=p++c::q/\Lib.indexByte s c=p.length:=by
 by_cases h:c∈s
 ·right
  obtain⟨p,q,rfl,hp⟩:=List.eq_append_cons_of_mem h;exact⟨p,q,hp,rfl,zV hp⟩
 ·exact .inl ⟨h,DL h⟩
def Ak(s:By):Int:=s.foldl (λn c=>10*n+((c.toNat:Int)-48)) 0
def fT(s:By):Bool:=!decide (s.length=0)&&decide (s.length<=9) && !(decide (1<s.length)&&decide (s.head? =some 48))&&s.all fa
def pE(s:By):Bool:=!decide (s=[])&&s.all fa
def ju(s:By):Int:=if fT s then Ak s else 0
def Cc:Nat->Nat->By
 | 0,u=>[UInt8.ofNat (48+u)]
 |f+1,u=>
  match Nat.blt u 10 with
  |true=>[UInt8.ofNat (48+u)]
  |false=>Cc f (u / 10)++[UInt8.ofNat (48+u%10)]
theorem wF:∀(f u:Nat),u<10^(f+1)->Cc f u=Lib.decDigits u
 | 0,u,h=>by rw[Lib.decDigits,dif_pos (by simpa using h)];rfl
 |f+1,u,h=>by
  unfold Cc;cases hb:Nat.blt u 10 with
  |true=>rw[Lib.decDigits,dif_pos (by rw[Nat.blt_eq]at hb;exact hb)]
  |false=>
   have hn:¬u<10:=λx=>by rw[<-Nat.blt_eq,hb]at x;cases x
   rw[Lib.decDigits,dif_neg hn,wF f (u / 10) (by rw[Nat.pow_succ]at h;omega)]
def gW(n:Int):By:=Cc n.toNat n.toNat
def jh(n:Int):gW n=Lib.decDigits n.toNat:=wF _ _ (Nat.lt_trans (Nat.lt_succ_self _) (Nat.lt_pow_self De))
def fO(s:By):Int:=s.foldl (λx c=>(339*x+(c.toNat:Int)).tmod 9999749) 1
def lh(s:By):By:=List.replicate (7-(gW (fO s)).length) 48++gW (fO s)
def tW(e:db):List (By):=[gW e.num,e.kind]++e.names++e.cK.map gW
def fU(e:db):By:=gE 32 (tW e)
def sU(e:db):By:=fU e++[35]++lh (fU e)++[10]
def tt(l:List db):By:=(l.map sU).flatten
def bg:List (By)->Bool->By×List (By)×Bool
 |[],_=>([],[],true)
 |w::r,wr=>if w=[]then([],[],true)else(w,r,wr)
def cG:Nat->List (By)->Bool->List (By)×List (By)×Bool
 | 0,ws,b=>([],ws,b)
 |n+1,ws,b=>((bg ws b).1:: (cG n (bg ws b).2.1 (bg ws b).2.2).1,(cG n (bg ws b).2.1 (bg ws b).2.2).2)
def ef:Nat->List (By)->Bool->List Int×List (By)×Bool
 | 0,ws,b=>([],ws,b)
 |n+1,ws,b=>(ju (bg ws b).1:: (ef n (bg ws b).2.1 ((bg ws b).2.2 || !fT (bg ws b).1)).1,(ef n (bg ws b).2.1 ((bg ws b).2.2 || !fT (bg ws b).1)).2)
def jE:db:=⟨0,[],[],[],[]⟩
def du(ws:List (By)):db×Bool:=
 match gb (bg ws false).1 with
 |none=>(jE,false)
 |some d=>
  let n:=cG (bV d).length (bg ws false).2.1 (bg ws false).2.2
  let v:=ef (cO d) n.2.1 n.2.2
  (⟨0,bJ d,n.1,v.1,[]⟩,!v.2.2&&decide (v.2.1.length=0))
def dN(c:UInt8):By->By×By×Bool
 |[]=>([],[],false)
 |x::r=>if x=c then([],r,true)else(x:: (dN c r).1,(dN c r).2)
def eQ(s:By)(n:Int):db×Int:=
 if s.length<8 then(jE,25)else
 if s.getD (s.length-8) 0≠35\/¬pE (s.drop (s.length-7))=true then(jE,25)else
 if lh (s.take (s.length-8))≠s.drop (s.length-7)then(jE,27)else
 let h:=dN 32 (s.take (s.length-8))
 let e:=du (aY 32 h.2.1)
 if !fT h.1 || !e.2||decide (eS {e.1 with num:=ju h.1}≠0)then(jE,25)else
 ({e.1 with num:=ju h.1},bz (decide (ju h.1≠n)) 11)
def oZ:Nat->By->List db->Nat->List db×Int×Int
 | 0,_,l,a=>(l,(a:Int),0)
 |f+1,s,l,a=>
  if s=[]then(l,(a:Int),0)else
  if !(dN 10 s).2.2 then(l,(a:Int),28)else
  let e:=eQ (dN 10 s).1 ((l.length:Int)+1)
  if e.2≠0 then(l,(a:Int),e.2)else oZ f (dN 10 s).2.1 (l++[e.1]) (a+(dN 10 s).1.length+1)
def jC(s:By):List db×Int×Int:=if 1000000<s.length then([],0,26)else oZ (s.length+1) s [] 0
def jt(w:By):Option (Nat×Bool×Nat):=
 if w=[108,101,102,116]then some (0,true,4)else
 if w=[102,114,111,109]then some (1,true,5)else
 if w=[108,105,110,101,115]then some (2,true,3)else
 if w=[117,110,115,97,102,101]then some (3,false,2)else
 if w=[116,97,112,101,115]then some (4,true,2)else
 if w=[114,101,108,101,97,115,101,100]then some (5,false,5)else
 if w=[119,97,110,116]then some (6,true,0)else none
def pW(l:List mA):List (By):=(l.map λp=>if p.rel then [p.name,gW p.kZ]else []).flatten
def jj(R:fy)(n:By):Nat->List (By)
 | 0=>(bR (fQ R n).bQ 0).map gW
 | 1=>lF R n
 | 2=>(jA R n).map jx.name
 | 3=>iO R R.tick
 | 4=>(sE R n).aJ
 | 5=>pW R.aO
 |_=>[gW (BE R n).length,gW (fk R n).want,if(fk R n).acc then [97,99,99,101,112,116,101,100]else [111,112,101,110]]
def vz(l:List (By)):By:=if l=[]then [110,111,110,101]else gE 32 l
def k8(R:fy)(ws:List (By))(q:Nat×Bool×Nat):By×Int:=
 let n:=if q.2.1=true/\ws.length=2 then ws.getD 1 []else []
 if(q.2.1=true/\¬(ws.length=2/\n≠[]))\/(q.2.1=false/\ws.length≠1)then([],25)else
 if q.2.1=true/\ez R q.2.2 n=false then([],10)else(vz (jj R n q.1),0)
def x6(H:gM)(s:By):gM×By×Int:=
 if 4096<s.length then(H,[],26)else
 if s=[]then(H,[],25)else
 match jt ((aY 32 s).headD [])with
 |some q=>(H,k8 H.now (aY 32 s) q)
 |none=>
  match gb ((aY 32 s).headD [])with
  |none=>(H,[],13)
  |some _=>
   if !(du (aY 32 s)).2 then(H,[],25)else
   if 1000<=H.cI.length then(H,[],5)else
   let e:={ (du (aY 32 s)).1 with num:=(H.cI.length:Int)+1}
   if dV H e≠0 then(H,[],dV H e)else(jQ H e,[100,111,110,101,32]++gW e.num,0)
structure AM(P:Program):Prop where
 ib:∀(args:Array Value) (w:World),(callFunc 288 args).run P w=((Extern.BytealgIndexByte.indexByte args).run P w).andThen λv w'=>.ok (.value v) w'
 ct:∀(args:Array Value) (w:World),(callFunc 262 args).run P w=((Extern.BytealgCount.count args).run P w).andThen λv w'=>.ok (.value v) w'
def yN(c:UInt8):(c.toNat:Int).toNat.toUInt8=c:=Si
def oK{s}{n:Nat}{kk}(hn:n<=s.length):sD (.str s) none (some (.int kk (n:Int)))=some (.str (s.take n)):=by
 simp only[sD,kf hn,UF,Nat.sub_zero]
def iQ{s}{n:Nat}{kk}(hn:n<=s.length):sD (.str s) (some (.int kk (n:Int))) none=some (.str (s.drop n)):=by
 simp only[sD,lY hn];rw[TV Si]
def rj{p r kk}:sD (.str (p++r)) none (some (.int kk (p.length:Int)))=some (.str p):=by
 rw[oK Si];simp
def lz{p r c kk}:sD (.str (p++c::r)) (some (.int kk ((p.length+1:Nat):Int))) none=some (.str r):=by
 rw[iQ Si];simp
def vQ{α:Type}{don:List α}{z q:α}{m k:Nat}(hk:don.length=k)(hm:0<m):(don++List.replicate m z).set k q=(don++[q])++List.replicate (m-1) z:=by
 subst hk;obtain⟨n,rfl⟩:∃n,m=n+1:=⟨m-1,Om⟩;rw[UN,Ub _ _ (Ts _),Uf];simp
section
variable {P:Program}(X:AM P) {h:af}
include X
def Kc(s:By)(c:UInt8):aQ P (.func (.func 288) [] []) [.str s,.int .u8 c.toNat] h (λv h'=>v=.int .i64 (Lib.indexByte s c)/\h' =h):=by
 refine⟨_,[],?_,rfl,Si⟩;rw[TH];intro m w cv vs hr hf hargs;rw[VR]at hf;obtain⟨f',a',c',rfl,hfn,ha,hc⟩:=hf;simp only[yv]at hfn;subst hfn;rw[aP]at ha hc;subst ha;subst hc;obtain⟨v1,vs1,rfl,h1,hargs⟩:=aF.1 hargs;obtain⟨v2,vs2,rfl,h2,hargs⟩:=aF.1 hargs;rw[aP]at hargs;subst hargs;have h1:v1=.string ⟨⟨s⟩⟩:=h1;have h2:v2=.int .u8 (c.toNat:Int):=h2;subst h1;subst h2;refine⟨_,λw=>rfl,?_⟩;simp only[invoke];rw[X.ib];have e:=Lib.run_indexByteString (P:=P) ⟨⟨s⟩⟩ (c.toNat:Int) w;rw[yN]at e;have e':(Extern.BytealgIndexByte.indexByte (#[]++#[.string ⟨⟨s⟩⟩,.int .u8 (c.toNat:Int)]++#[])).run P w=.ok (.int .i64 (Lib.indexByte s c)) w:=by simpa using e
 exact MN
def Ke(s:By)(c:UInt8):aQ P (.func (.func 262) [] []) [.str s,.int .u8 c.toNat] h (λv h'=>v=.int .i64 (s.count c:Nat)/\h' =h):=by
 refine⟨_,[],?_,rfl,Si⟩;rw[TH];intro m w cv vs hr hf hargs;rw[VR]at hf;obtain⟨f',a',c',rfl,hfn,ha,hc⟩:=hf;simp only[yv]at hfn;subst hfn;rw[aP]at ha hc;subst ha;subst hc;obtain⟨v1,vs1,rfl,h1,hargs⟩:=aF.1 hargs;obtain⟨v2,vs2,rfl,h2,hargs⟩:=aF.1 hargs;rw[aP]at hargs;subst hargs;have h1:v1=.string ⟨⟨s⟩⟩:=h1;have h2:v2=.int .u8 (c.toNat:Int):=h2;subst h1;subst h2;refine⟨_,λw=>rfl,?_⟩;simp only[invoke];rw[X.ct];have e:=Lib.run_countString (P:=P) ⟨⟨s⟩⟩ (c.toNat:Int) w;rw[yN]at e;have e':(Extern.BytealgCount.count (#[]++#[.string ⟨⟨s⟩⟩,.int .u8 (c.toNat:Int)]++#[])).run P w=.ok (.int .i64 (s.count c:Nat)) w:=by simpa [Lib.countByte]using e
 exact MN
end
attribute [local irreducible] WP WC WE WB WR WF WL WG eD
section
variable {P:Program}(T:dB P) (X:AM P) {h:af}
include T X
def r272(s:By)(c:UInt8):ao P 272 [.str s,.int .u8 c.toNat] h (λv _=>v=.int .i64 (Lib.indexByte s c)):=by
 refine .of T.mix T.c272 ?_;unfold fn272 Ht;refine Wn ?_;refine WF.val (Kc X s c) ?_;rintro _ g ⟨rfl,hg⟩;exact Wn Tv
def r221(s:By)(c:UInt8):ao P 221 [.str s,.str [c]] h (λv _=>v=.int .i64 (s.count c:Nat)):=by
 refine .of T.mix T.c221 ?_;unfold fn221 gA;simp only[bx,bo,bL,bM,reduceAdd,reduceMul,reduceLeDiff,reduceEqDiff,TC,show decide (((1:Nat):Int)=0)=false from rfl,show decide (((1:Nat):Int)=1)=true from rfl,wu];refine WF.val (Ke X s c) ?_;rintro _ g ⟨rfl,hg⟩;exact Wn Tv
def r253(s:By)(c:UInt8):ao P 253 [.str s,.str [c]] h (λv _=>v=.int .i64 (Lib.indexByte s c)):=by
 refine .of T.mix T.c253 ?_;unfold fn253 gA;by_cases hs:[c]=s
 ·have d1:decide ([c]=s)=true:=Tq hs;have e:Lib.indexByte s c=0:=by rw[<-hs];simp[Lib.indexByte]
  simp only[bx,bo,bL,bM,reduceAdd,reduceMul,reduceLeDiff,reduceEqDiff,TC,show decide (((1:Nat):Int)=0)=false from rfl,d1,e]
 ·have d1:decide ([c]=s)=false:=Tm hs;simp only[bx,bo,bL,bM,reduceAdd,reduceMul,reduceLeDiff,reduceEqDiff,TC,show decide (((1:Nat):Int)=0)=false from rfl,show decide (((1:Nat):Int)=1)=true from rfl,d1,wu];refine WF.ce T.c272 (r272 T X s c) λg=>?_
  exact Wn Tv
def r222(s:By)(c:UInt8):ao P 222 [.str s,.str [c]] h (λv _=>v=.int .i64 (Lib.indexByte s c)):=by
 refine .of T.mix T.c222 ?_;unfold fn222 gA;refine Wn ?_;refine WF.ce T.c253 (r253 T X s c) λg=>?_
 exact Wn Tv
set_option maxRecDepth 10000 in
def r128(s:By)(c:UInt8)(hs:s.length<=2^40):ao P 128 [.str s,.str [c],.int .i64 0,.int .i64 (-1)] h (λv h'=>aA h' v 1 ((aY c s).map an)):=by
 refine .of T.mix T.c128 ?_;obtain⟨ts,NK⟩:∃ts,ts=aM 66 [.str s,.str [c],.int .i64 0,.int .i64 (-1)]:=⟨_,rfl⟩;have hlen:ts.length=66:=by rw[NK];rfl
 have t0:slot ts 0=.str s:=by rw[NK];rfl
 have t1:slot ts 1=.str [c]:=by rw[NK];rfl
 have t2:slot ts 2=.int .i64 0:=by rw[NK];rfl
 have t3:slot ts 3=.int .i64 (-1):=by rw[NK];rfl
 unfold fn128 gA;show WC P bS _ [] (aM 66 [.str s,.str [c],.int .i64 0,.int .i64 (-1)]) h _;rw[<-NK];clear NK;have hcnt:s.count c<=s.length:=List.count_le_length;have w1:IntKind.i64.wrap ((s.count c:Int)+1)=((s.count c+1:Nat):Int):=by rw[aR Om Om];omega
 have w2:IntKind.i64.wrap ((s.length:Int)+1)=((s.length+1:Nat):Int):=by rw[aR Om Om];omega
 have e1:min ((s.count c+1:Nat):Int) ((s.length+1:Nat):Int)=((s.count c+1:Nat):Int):=Om
 have w3:IntKind.i64.wrap (((s.count c+1:Nat):Int)-1)=((s.count c:Nat):Int):=by rw[aR Om Om];omega
 have dn:decide ([c]=([] :By))=false:=Tm Si;have d1:decide ((-1:Int)=0)=false:=rfl;have d2:decide (-1<(0:Int))=true:=rfl;refine Rs (A7 t0 t1 t2 t3 @dn @d1 @d2) ?_;refine WF.ce T.c221 (r221 T X s c) λg1=>?_
 repeat (first|simp (config:={maxSteps:=1000000}) only[bx,bo,bL,bM,reduceAdd,reduceMul,reduceLeDiff,reduceEqDiff,bP,hlen,TT,TQ,t0,t1,t2,t3,w1,w2,e1,w3,lK (es:=1) (w:=16) (N0:=(h++g1).length) (n:=s.count c+1) (z:=[AV.str []]) (k:=.i64) (k':=.i64) Om Om]|simp (config:={maxSteps:=1000000}) (disch:=first|(simp only[Tg,Tl,Tr]<;>omega)|rfl|omega|fail) only[gL,bx,bo,bL,bM,reduceAdd,reduceMul,reduceLeDiff,reduceEqDiff,bP,hlen,TT,TQ,t0,t1,t2,t3,w1,w2,e1,w3,lK (es:=1) (w:=16) (N0:=(h++g1).length) (n:=s.count c+1) (z:=[AV.str []]) (k:=.i64) (k':=.i64) Om Om])
 have hF:=Fr.yG (N:=h.length) (n:=s.count c+1) (h:=h++g1) (z:=[AV.str []]) (es:=1) Si rfl;obtain⟨sv,hsv⟩:∃sv,sv=AV.slice (h++g1).length 0 (s.count c+1) 1:=⟨_,rfl⟩;rw[<-hsv]at hF ⊢;have er:List.replicate (s.count c+1) [AV.str []]=(List.replicate (s.count c+1) ([] :By)).map an:=by simp[an]
 rw[er,Ti]at hF;rw[Ti];refine WL.inv T.mix (λn ts' h'=>∃(k:Nat) (don:List (By)) (q:By) (g':af),don.length=k/\aY c s=don++aY c q/\k+q.count c=s.count c/\n=s.count c-k/\h' =h++g'/\Fr h.length h' sv 1 ((don++List.replicate (s.count c+1-k) ([] :By)).map an)/\ts'.length=66/\slot ts' 0=.str q/\slot ts' 1=.str [c]/\slot ts' 2=.int .i64 0/\slot ts' 3=.int .i64 ((s.count c:Nat):Int)/\slot ts' 9=sv/\slot ts' 10=.int .i64 k) (s.count c)
  ⟨0,[],s,_,rfl,rfl,Om,rfl,rfl,hF,(Sq t0),(Sq t0),(Sq t1),(Sq t2),(Sq t0),(Sq t0),my⟩ ?_
 rintro _ ts' _ ⟨k,don,q,g',hdl,Rc,hkc,rfl,rfl,hF',OK,u0,u1,u2,u3,u9,SA⟩;clear hlen t0 t1 t2 t3;have hlen:=OK;have Rh:k<(don++List.replicate (s.count c+1-k) ([] :By)).length:=by simp;omega
 have hql:q.length<=s.length:=by
  have e1:=gV (c:=c) (s:=s);have:∀(d:List (By)) (z:List (By)),(gE c z).length<=(gE c (d++z)).length:=by
   intro d
   induction d with
   |nil=>intro z;exact Ts _
   |cons x d ih=>
    intro z;by_cases hz:d++z=[]
    ·have:z=[]:=by simp at hz;exact hz.2
     subst this;simp[gE]
    ·rw[Uu,kW hz];have:=ih z;simp;omega
  have:=this don (aY c q);rw[<-Rc,gV,gV]at this;exact this
 rcases tC c q with⟨hno,hix⟩|⟨p,q',hp,hq,hix⟩
 ·have hc0:q.count c=0:=List.count_eq_zero.2 hno;have e3:¬(k:Int)<((s.count c:Nat):Int):=Om
  have ek:s.count c+1-k=1:=Om
  have ixk:=hF'.aN.eX (kk:=.i64) Rh;have w4:IntKind.i64.wrap ((k:Int)+1)=((k+1:Nat):Int):=by rw[aR Om Om];omega
  refine Rs (A9 @u0 @u1 @u2 @u3 @u9 @SA e3 @Uq @ixk) ?_;refine WR.rm (h0:=h) (off:=0) (x':=q) hF' Rh De rfl (by simp[an]) ?_;intro g3 Rg Sp _;rw[vQ hdl Om,ek]at Sp;simp only[Uf,VB,TH]at Sp;have esp:don++[q]=aY c s:=by rw[Rc,qj hno]
  rw[esp]at Sp;have Pv:gj none (some (AV.int .i64 ((k+1:Nat):Int))) (aY c s).length=some (0,k+1):=kf (by rw[<-esp];simp;omega);obtain⟨s',es',NI⟩:=Sp.aN.HC Pv;refine Rs (A8 @u0 @u1 @u2 @u3 @u9 @SA @w4 @es') ?_;have et:List.take (k+1-0) (List.drop 0 (aY c s))=aY c s:=by
   rw[UF,TV (by rw[<-esp];simp;omega)]
  rw[et]at NI;exact NI
 ·have hcq:q.count c=q'.count c+1:=by rw[hq,List.count_append,List.count_eq_zero.2 hp,List.count_cons_self];omega
  have e3:(k:Int)<((s.count c:Nat):Int):=Om
  refine Rs (A8 @u0 @u1 @u2 @u3 @u9 @SA e3 @T5) ?_;refine WF.ce T.c222 (r222 T X q c) λg2=>?_
  have ixk:=(hF'.app g2).aN.eX (kk:=.i64) Rh;have w4:IntKind.i64.wrap ((k:Int)+1)=((k+1:Nat):Int):=by rw[aR Om Om];omega
  have Qg:p.length<q.length:=by rw[hq];simp
  have w5:IntKind.i64.wrap ((p.length:Int)+0)=(p.length:Int):=by rw[aR Om Om];omega
  have w6:IntKind.i64.wrap ((p.length:Int)+((1:Nat):Int))=((p.length+1:Nat):Int):=by rw[aR Om Om];omega
  have dp:decide ((p.length:Int)<0)=false:=Tm Om;have hF2:=hF'.app g2;rw[Ti]at hF2 ⊢;rw[hix];subst hq
  repeat (first|simp (config:={maxSteps:=1000000}) only[bx,bo,bL,bM,reduceAdd,reduceMul,reduceLeDiff,reduceEqDiff,bP,hlen,TT,TQ,u0,u1,u2,u3,u9,SA,dp,w5,ixk,rj,TC,w6,lz]|simp (config:={maxSteps:=1000000}) (disch:=first|(simp only[Tg,Tl,Tr]<;>omega)|rfl|omega|fail) only[gL,bx,bo,bL,bM,reduceAdd,reduceMul,reduceLeDiff,reduceEqDiff,bP,hlen,TT,TQ,u0,u1,u2,u3,u9,SA,dp,w5,ixk,rj,TC,w6,lz])
  refine WR.rm (h0:=h) (off:=0) (x':=p) hF2 Rh De rfl (by simp[an]) ?_;intro g3 Rg Sp _;rw[vQ hdl Om]at Sp
  repeat (first|simp (config:={maxSteps:=1000000}) only[bx,bo,bL,bM,reduceAdd,reduceMul,reduceLeDiff,reduceEqDiff,bP,hlen,TT,TQ,u0,u1,u2,u3,u9,SA,TC,w6,lz,w4]|simp (config:={maxSteps:=1000000}) (disch:=first|(simp only[Tg,Tl,Tr]<;>omega)|rfl|omega|fail) only[gL,bx,bo,bL,bM,reduceAdd,reduceMul,reduceLeDiff,reduceEqDiff,bP,hlen,TT,TQ,u0,u1,u2,u3,u9,SA,TC,w6,lz,w4])
  have em:s.count c+1-k-1=s.count c+1-(k+1):=Om
  rw[em]at Sp;exact⟨s.count c-(k+1),Om,k+1,don++[p],q',g3,by simp[hdl],by rw[Rc,oJ hp];simp,Om,rfl,rfl,Sp,rfl,rfl⟩
def r64(s:By)(c:UInt8)(hs:s.length<=2^40):ao P 64 [.str s,.str [c]] h (λv h'=>aA h' v 1 ((aY c s).map an)):=by
 refine .of T.mix T.c64 ?_;unfold fn64 gA;refine Wn ?_;refine WF.res T.c128 (r128 T X s c hs) ?_;intro v g hv;refine Wn ?_;exact hv
omit T X in
theorem wK{c}:∀{s},c∉s->dN c s=(s,[],false)
 |[],_=>rfl
 |x::r,h=>by
  simp only[TP,not_or]at h;rw[dN,Tt (λe=>h.1 e.symm),wK h.2]
omit T X in
theorem tT{c}:∀{p q},c∉p->dN c (p++c::q)=(p,q,true)
 |[],q,_=>by rw[UP,dN,Ty rfl]
 |x::r,q,h=>by
  simp only[TP,not_or]at h;rw[Uu,dN,Tt (λe=>h.1 e.symm),tT h.2]
def r188(s:By)(c:UInt8)(hs:s.length<=2^40):ao P 188 [.str s,.str [c]] h (λv _=>v=.dh [.str (dN c s).1,.str (dN c s).2.1,.bool (dN c s).2.2]):=by
 refine .of T.mix T.c188 ?_;unfold fn188 gA;refine Wn ?_;refine WF.ce T.c253 (r253 T X s c) λg=>?_
 rcases tC c s with⟨hno,hix⟩|⟨p,q,hp,hq,hix⟩
 ·refine Ws (A2 @hix (show decide ((0:Int)<=-1)=false from rfl)) ?_;rw[wK hno]
 ·have d1:decide ((0:Int)<=(p.length:Int))=true:=Tq Om;have Qg:p.length<s.length:=by rw[hq];simp
  have w6:IntKind.i64.wrap ((p.length:Int)+((1:Nat):Int))=((p.length+1:Nat):Int):=by rw[aR Om Om];omega
  rw[hix];subst hq;simp only[bx,bo,bL,bM,reduceAdd,reduceMul,reduceLeDiff,reduceEqDiff,d1,TC,w6,rj,lz];rw[tT hp]
def r98(s:By)(c:UInt8)(hs:s.length<=2^40):ao P 98 [.str s,.str [c]] h (λv _=>v=.dh [.str (dN c s).1,.str (dN c s).2.1,.bool (dN c s).2.2]):=by
 refine .of T.mix T.c98 ?_;unfold fn98 gA;refine Wn ?_;refine WF.ce T.c188 (r188 T X s c hs) λg=>?_
 exact Wn Tv
end
def Pw(h:af):Prop:=∃mu tl,h[2]? =some (.cells (Lib.pow10Tab.map (AV.int .u64)) mu tl)
def Pw.ext{h k}(o:Pw h)(e:Ext h k):Pw k:=by
 obtain⟨mu,tl,hb⟩:=o;exact⟨mu,tl,e.some hb⟩
structure nY(P:Program):Prop where
 itoa:∀{h:af}{n:Int},-9223372036854775808<=n->n<=9223372036854775807->Pw h->ao P 113 [.i n] h (λv _=>v=.str (Lib.itoa n))
 join:∀{h:af}{s:AV}{sep:By}{xs:List (By)},aA h s 1 (xs.map an)->(Lib.join xs sep).length<=140737488355328/\xs.length<=140737488355328->ao P 114 [s,.str sep] h (λv _=>v=.str (Lib.join xs sep))
 atoi:∀{h:af}{s:By},s.all fa=true->s≠[]->s.length<=9->ao P 254 [.str s] h (λv _=>v=.dh [.i (Ak s),.iU])
 rep:∀{h:af}{n:Nat},n<=7->ao P 252 [.str [48],.i (n:Nat)] h (λv _=>v=.str (List.replicate n 48))
def fo{n}(h:0<=n):Lib.itoa n=gW n:=by rw[jh];unfold Lib.itoa;rw[Tt Om]
theorem j8:∀{k u},u<10^(k+1)->(Lib.decDigits u).length<=k+1
 | 0,u,h=>by rw[Lib.decDigits,dif_pos (by simpa using h)];simp
 |k+1,u,h=>by
  by_cases hu:u<10
  ·rw[Lib.decDigits,dif_pos hu];simp
  ·rw[Lib.decDigits,dif_neg hu,Tg];have:=j8 (k:=k) (u:=u / 10) (by rw[Nat.pow_succ]at h;omega);simp;omega
def jg{c}:fa c=true↔48<=c.toNat/\c.toNat<=57:=by simp[fa]
def kK{α:Type}{s:List α}{k:Nat}(hk:k<s.length):s.take (k+1)=s.take k++[s[k]]:=by
 rw[T9,Tk hk];rfl
def fA(sw:AV)(wr:Bool):ai:=.b [sw,.bool wr]
section
variable {P:Program}(T:dB P) {h A B:af}
include T
set_option maxRecDepth 10000 in
def r189(s:By)(hs:s.length<=2^40):ao P 189 [.str s] h (λv _=>v=.bool (pE s)):=by
 refine .mG 18 T.mix T.c189 ?_;intro ts hlen t0;unfold fn189 gA;refine Rs t0 ?_;refine WL.inv T.mix (λn ts' h'=>∃k:Nat,k<=s.length/\n=s.length-k/\h' =h++[.iter s k]/\(s.take k).all fa=true/\ts'.length=18/\slot ts' 0=.str s/\slot ts' 6=.ptr h.length 0) s.length
  ⟨0,Om,rfl,rfl,rfl,(Sq t0),(Sq t0),(Sq t0)⟩ ?_
 rintro _ ts' _ ⟨k,hk,rfl,rfl,hd,OK,u0,u6⟩;clear hlen t0;have hlen:=OK;by_cases hlt:k<s.length
 ·obtain⟨c,w,PD,hcw⟩:∃c w,Utf8.decode ⟨⟨s⟩⟩ k=(c,w)/\(c=s[k].toNat/\w=1/\s[k].toNat<128\/128<=c/\128<=s[k].toNat):=by
   by_cases hc:s[k].toNat<128
   ·exact⟨_,_,dec_lt hlt hc,.inl ⟨rfl,rfl,hc⟩⟩
   ·exact z156
  have hall:fa s[k]=false->AV.bool false=AV.bool (pE s):=λhx=>by
   have:s.all fa=false:=by rw[List.all_eq_false];exact⟨s[k],TE hlt,by simp[hx]⟩
   simp only[pE,this,Bool.and_false]
  by_cases a5:(48:Int)<=c
  ·by_cases a6:(c:Int)<=57
   ·have hc:c=s[k].toNat/\w=1:=Om
    obtain⟨rfl,rfl⟩:=hc;have hy:fa s[k]=true:=jg.2 Om;have d1:decide ((s[k].toNat:Int)<48)=false:=Tm Om;have d2:decide ((57:Int)<(s[k].toNat:Int))=false:=Tm Om
    repeat (first|simp (config:={maxSteps:=1000000}) only[bx,bo,bL,bM,reduceAdd,reduceMul,reduceLeDiff,reduceEqDiff,bP,hlen,TT,TQ,u0,u6,dc,hlt,TQ,PD,d1,d2]|simp (config:={maxSteps:=1000000}) (disch:=first|(simp only[Tg,Tl,Tr]<;>omega)|rfl|omega|fail) only[gL,bx,bo,bL,bM,reduceAdd,reduceMul,reduceLeDiff,reduceEqDiff,bP,hlen,TT,TQ,u0,u6,dc,hlt,TQ,PD,d1,d2])
    refine⟨s.length-(k+1),Om,k+1,Om,rfl,rfl,?_,trivial⟩;rw[kK hlt,List.all_append,hd];simp[hy]
   ·have d1:decide ((c:Int)<48)=false:=Tm Om;have d2:decide ((57:Int)<(c:Int))=true:=Tq Om
    repeat (first|simp (config:={maxSteps:=1000000}) only[bx,bo,bL,bM,reduceAdd,reduceMul,reduceLeDiff,reduceEqDiff,bP,hlen,TT,TQ,u0,u6,dc,hlt,TQ,PD,d1,d2]|simp (config:={maxSteps:=1000000}) (disch:=first|(simp only[Tg,Tl,Tr]<;>omega)|rfl|omega|fail) only[gL,bx,bo,bL,bM,reduceAdd,reduceMul,reduceLeDiff,reduceEqDiff,bP,hlen,TT,TQ,u0,u6,dc,hlt,TQ,PD,d1,d2])
    exact Hg
  ·have d1:decide ((c:Int)<48)=true:=Tq Om
   repeat (first|simp (config:={maxSteps:=1000000}) only[bx,bo,bL,bM,reduceAdd,reduceMul,reduceLeDiff,reduceEqDiff,bP,hlen,TT,TQ,u0,u6,dc,hlt,TQ,PD,d1]|simp (config:={maxSteps:=1000000}) (disch:=first|(simp only[Tg,Tl,Tr]<;>omega)|rfl|omega|fail) only[gL,bx,bo,bL,bM,reduceAdd,reduceMul,reduceLeDiff,reduceEqDiff,bP,hlen,TT,TQ,u0,u6,dc,hlt,TQ,PD,d1])
   exact Hg
 ·have ek:k=s.length:=Om
  rw[ek,T7]at hd
  repeat (first|simp (config:={maxSteps:=1000000}) only[bx,bo,bL,bM,reduceAdd,reduceMul,reduceLeDiff,reduceEqDiff,bP,hlen,TT,TQ,u0,u6,dc,hlt,TT]|simp (config:={maxSteps:=1000000}) (disch:=first|(simp only[Tg,Tl,Tr]<;>omega)|rfl|omega|fail) only[gL,bx,bo,bL,bM,reduceAdd,reduceMul,reduceLeDiff,reduceEqDiff,bP,hlen,TT,TQ,u0,u6,dc,hlt,TT])
  simp only[pE,hd,Bool.and_true,decide_not]
omit T in
theorem x9{s}:fT s=(pE s&&decide (s.length<=9) && !(decide (1<s.length)&&decide (s.head? =some 48))):=by
 unfold fT pE;cases s with
 |nil=>rfl
 |cons x r=>cases (x::r).all fa<;>cases decide ((x::r).length<=9)<;>simp
set_option maxRecDepth 10000 in
def r190(Z:nY P)(s:By)(hs:s.length<=2^40):ao P 190 [.str s] h (λv _=>v=.dh [.i (ju s),.bool (fT s)]):=by
 refine .mG 30 T.mix T.c190 ?_;intro ts hlen t0;unfold fn190 gA;refine Rs t0 ?_;refine WF.ce T.c189 (r189 T s hs) λg=>?_
 have bad:fT s=false->AV.dh [.i 0,.bool false]=AV.dh [.i (ju s),.bool (fT s)]:=λhb=>by unfold ju;rw[hb];rfl
 have e0:=x9 (s:=s);cases hd:pE s with
 |false=>
  rw[hd]at e0;refine Rs (A3 t0 @hd @TW) ?_;exact bad (by rw[e0];rfl)
 |true=>
  rw[hd]at e0;have N6:=hd;unfold pE at N6;simp only[TL,UC,UY]at N6;by_cases h9:9<s.length
  ·have d9:decide ((9:Int)<s.length)=true:=Tq Om;have q9:decide (s.length<=9)=false:=Tm Om;rw[q9]at e0;refine Rs (A4 t0 @hd @TU @d9) ?_;exact bad (by rw[e0];rfl)
  ·have d9:decide ((9:Int)<s.length)=false:=Tm Om;have q9:decide (s.length<=9)=true:=Tq Om;rw[q9]at e0;obtain⟨c,r,rfl⟩:∃c r,s=c::r:=by cases s with|nil=>exact absurd rfl N6.1|cons c r=>exact⟨c,r,rfl⟩
   by_cases h1:1<(c::r).length
   ·have d1:decide ((1:Int)<((c::r).length:Int))=true:=Tq Om;have q1:decide (1<(c::r).length)=true:=Tq h1;rw[q1]at e0;by_cases h2:c=48
    ·have d2:decide ((c.toNat:Int)=48)=true:=by rw[h2];rfl
     have q2:decide ((c::r).head? =some 48)=true:=by rw[h2];rfl
     rw[q2]at e0;refine Rs (A7 t0 @hd @TU @d9 @d1 @wu @d2) ?_;exact bad (by rw[e0];rfl)
    ·have d2:decide ((c.toNat:Int)=48)=false:=Tm λe=>h2 (UInt8.toNat_inj.1 (by simpa using (by omega:c.toNat=48)))
     have q2:decide ((c::r).head? =some 48)=false:=Tm (by simp[h2]);rw[q2]at e0;have e1:fT (c::r)=true:=by rw[e0];rfl
     refine Rs (A7 t0 @hd @TU @d9 @d1 @wu @d2) ?_;exact Mp
   ·have d1:decide ((1:Int)<((c::r).length:Int))=false:=Tm Om;have q1:decide (1<(c::r).length)=false:=Tm h1;rw[q1]at e0;have e1:fT (c::r)=true:=by rw[e0];rfl
    refine Rs (A5 t0 @hd @TU @d9 @d1) ?_;exact Mp
set_option maxRecDepth 10000 in
def Fp{sw ws wr}(hs:aA A sw 1 (ws.map an)):
  cT P 207 [.ptr A.length 0] (A++[fA sw wr]++B) (λv h'=>∃sw',v=.str (bg ws wr).1/\h' =A++[fA sw' (bg ws wr).2.2]++B/\aA A sw' 1 ((bg ws wr).2.1.map an)):=by
 refine .of T.mix T.c207 ?_;obtain⟨ts,NK⟩:∃ts,ts=aM 40 [.ptr A.length 0]:=⟨_,rfl⟩;have hlen:ts.length=40:=by rw[NK];rfl
 have t0:slot ts 0=.ptr A.length 0:=by rw[NK];rfl
 unfold fn207 gA;show WC P bS _ [] (aM 40 [.ptr A.length 0]) (A++[fA sw wr]++B) _;rw[<-NK];clear NK;unfold fA;have c0:=hs.one;have hsE:∀{k:af},aA (A++k) sw 1 (ws.map an):=λ{k}=>hs.ext ⟨k,rfl⟩
 cases ws with
 |nil=>
  have d0:decide ((([] :List (By)).length:Int)=0)=true:=rfl;refine Rs (A4 t0 hs.bh @d0 @c0) ?_;exact⟨.ah,by rw[bg];exact⟨rfl,rfl,aA.nil⟩⟩
 |cons w r=>
  have d0:decide (((w::r).length:Int)=0)=false:=Tm (by simp;omega);have ix:=hs.n8 (kk:=.i64) Si;have ld:∀{k:af},Ext A k->au none (dG sw 1 0) (λb=>k[b]?)=some (.str w,.aq):=λ{k} e=>hs.kV (i:=0) Si rfl e
  by_cases hw:w=[]
  ·have d1:decide (w=[])=true:=Tq hw;refine Rs (A7 t0 hs.bh @d0 ix @ld @d1 @c0) ?_;exact⟨.ah,by rw[bg,Ty hw];exact⟨rfl,rfl,aA.nil⟩⟩
  ·have d1:decide (w=[])=false:=Tm hw;have Pv:gj (some (AV.i 1)) none (w::r).length=some (1,(w::r).length):=lY (k:=1) Si;obtain⟨s',es',NI⟩:=hs.HC Pv;have et:List.take ((w::r).length-1) (List.drop 1 (w::r))=r:=Si
   rw[et]at NI;refine Rs (A9 t0 hs.bh @d0 ix @ld @d1 @c0 @es' NI.one) ?_;exact⟨s',by rw[bg,Tt hw];exact⟨rfl,rfl,NI⟩⟩
set_option maxRecDepth 10000 in
def Ld(Z:nY P){sw ws wr}(hs:aA A sw 1 (ws.map an))(hl:∀x∈ws,x.length<=2^40):
  cT P 208 [.ptr A.length 0] (A++[fA sw wr]++B) (λv h'=>∃(sw':AV) (g:af),v=.i (ju (bg ws wr).1)/\h' =A++[fA sw' ((bg ws wr).2.2 || !fT (bg ws wr).1)]++(B++g)/\aA A sw' 1 ((bg ws wr).2.1.map an)):=by
 refine .of T.mix T.c208 ?_;obtain⟨ts,NK⟩:∃ts,ts=aM 23 [.ptr A.length 0]:=⟨_,rfl⟩;have hlen:ts.length=23:=by rw[NK];rfl
 have t0:slot ts 0=.ptr A.length 0:=by rw[NK];rfl
 unfold fn208 gA;show WC P bS _ [] (aM 23 [.ptr A.length 0]) (A++[fA sw wr]++B) _;rw[<-NK];clear NK;refine Rs t0 ?_;refine WF.gen T.c207 (Fp T hs) ?_;rintro _ _ ⟨sw',rfl,rfl,NI⟩;have hwl:(bg ws wr).1.length<=2^40:=by
  cases ws with
  |nil=>simp[bg]
  |cons w r=>
   by_cases hw:w=[]
   ·rw[bg,Ty hw];simp
   ·rw[bg,Tt hw];exact hl w Si
 generalize (bg ws wr).1=w at hwl ⊢;generalize (bg ws wr).2.2=wr' at NI ⊢;generalize (bg ws wr).2.1=ws' at NI ⊢;refine Rs t0 ?_;refine WF.ce T.c190 (r190 T Z w hwl) λg=>?_
 unfold fA;have c0:=NI.one;cases wr' with
 |true=>
  refine Rs (A3 t0 @c0 @Bool.true_or) ?_;exact⟨sw',g,by rw[Ti],NI⟩
 |false=>
  refine Rs (A3 t0 @c0 @Vi) ?_;exact⟨sw',g,by rw[Ti],NI⟩
end
set_option maxRecDepth 10000
section
variable {P:Program}(T:dB P) {h:af}
include T
def r20(n lo hi:Int):ao P 20 [.i n,.i lo,.i hi] h (λv _=>v=.bool (decide (aU n lo hi≠0))):=by
 refine .ue 15 T.mix T.c20 ?_;intro ts hlen t0 t1 t2;unfold fn20 gA;by_cases h1:n<lo
 ·have q1:decide (n<lo)=true:=Tq h1;refine Rs (A4 t0 t1 t2 q1) ?_;rw[aU,Ty (.inl h1)];rfl
 ·have q1:decide (n<lo)=false:=Tm h1;by_cases h2:hi<n
  ·have q2:decide (hi<n)=true:=Tq h2;refine Rs (A5 t0 t1 t2 q1 q2) ?_;rw[aU,Ty (.inr h2)];rfl
  ·have q2:decide (hi<n)=false:=Tm h2;refine Rs (A5 t0 t1 t2 q1 q2) ?_;rw[aU,Tt Om];rfl
def r25{L M:List (By)}{s t:AV}(hs:aA h s 1 (L.map an))(ht:aA h t 1 (M.map an))(hl:L.length<2^40)(hm:M.length<2^40):ao P 25 [s,t] h (λv _=>v=.bool (decide (L=M))):=by
 refine .dU 26 T.mix T.c25 ?_;intro ts hlen t0 t1;unfold fn25 gA;by_cases h1:L.length=M.length
 case neg=>
  exact MK
 have q:decide ((L.length:Int)≠M.length)=false:=Tm Om;refine Rs (A5 t0 t1 hs.bh ht.bh q) ?_;refine WL.inv T.mix (λm ts h'=>∃k:Nat,k<=L.length/\m=L.length-k/\h' =h/\L.take k=M.take k/\ts.length=26/\slot ts 0=s/\slot ts 1=t/\slot ts 5=.i k) L.length
  ⟨0,Om,rfl,rfl,rfl,Sn,(Sq t0),(Sq t1),my⟩ ?_
 rintro _ ts h' ⟨k,hk,rfl,rfl,hi,hlen,t0,t1,t5⟩;by_cases hlt:k<L.length
 ·have Oh:k<M.length:=Om
  have e3:=hX hlt;have ix:=hs.eX (kk:=.i64) hlt;have iy:=ht.eX (kk:=.i64) Oh;have ld:∀{kk:af},Ext h' kk->_:=λ{kk} e=>hs.kV (i:=k) (x:=.str L[k]) (k:=kk) hlt rfl e
  have ly:∀{kk:af},Ext h' kk->_:=λ{kk} e=>ht.kV (i:=k) (x:=.str M[k]) (k:=kk) Oh rfl e
  exact MX
 ·exact MI
def r62{L M:List (Int)}{s t:AV}(hs:aA h s 1 (L.map aB))(ht:aA h t 1 (M.map aB))(hl:L.length<2^40)(hm:M.length<2^40):ao P 62 [s,t] h (λv _=>v=.bool (decide (L=M))):=by
 refine .dU 26 T.mix T.c62 ?_;intro ts hlen t0 t1;unfold fn62 gA;by_cases h1:L.length=M.length
 case neg=>
  exact MK
 have q:decide ((L.length:Int)≠M.length)=false:=Tm Om;refine Rs (A5 t0 t1 hs.bh ht.bh q) ?_;refine WL.inv T.mix (λm ts h'=>∃k:Nat,k<=L.length/\m=L.length-k/\h' =h/\L.take k=M.take k/\ts.length=26/\slot ts 0=s/\slot ts 1=t/\slot ts 5=.i k) L.length
  ⟨0,Om,rfl,rfl,rfl,Sn,(Sq t0),(Sq t1),my⟩ ?_
 rintro _ ts h' ⟨k,hk,rfl,rfl,hi,hlen,t0,t1,t5⟩;by_cases hlt:k<L.length
 ·have Oh:k<M.length:=Om
  have e3:=hX hlt;have ix:=hs.eX (kk:=.i64) hlt;have iy:=ht.eX (kk:=.i64) Oh;have ld:∀{kk:af},Ext h' kk->_:=λ{kk} e=>hs.kV (i:=k) (x:=.i L[k]) (k:=kk) hlt rfl e
  have ly:∀{kk:af},Ext h' kk->_:=λ{kk} e=>ht.kV (i:=k) (x:=.i M[k]) (k:=kk) Oh rfl e
  exact MX
 ·exact MI
end
section
variable {P:Program}(T:dB P) {h:af}
include T
end
section
variable {P:Program}(T:dB P) {h:af}
include T
end
section
variable {P:Program}(T:dB P) {h:af}
include T
end
def any_eq{α:Type}{p:α->Bool}{L:List α}{k:Nat}(hlt:k<L.length):(L.drop k).any p=(p L[k]||(L.drop (k+1)).any p):=by
 have hd:L.drop k=L[k]::L.drop (k+1):=Si
 rw[hd,List.any_cons]
section
variable {P:Program}(T:dB P) {h:af}
include T
end
end Go.Abs
namespace Go.Abs
section
variable {P:Program}{ro:Option Nat->Prop}{ks:List Kt}{ts:TS}{Q:Ex->TS->af->Prop}
def WR.F5{h s y es cs ys h0 w d l}
  (hs:Fr h0.length h s es cs) (hy:aA h y es ys) (hes:0<es) (dq:(cs.length+ys.length)*w<=2^46) (he:Ext h0 h)
  (K:∀s' g,Fr h0.length (h0++g) s' es (cs++ys)->(∀b,b<h.length->sB s≠some b->(h0++g)[b]? =h[b]?)->h.length<=(h0++g).length->WP P ro l ks (put ts d s') (h0++g) Q):
  WR P ro (na es w s y (λb=>h[b]?) h.length) false d l ks ts h Q:=by
 by_cases hn:ys.length=0
 ·have hys:ys=[]:=Uk.1 hn;subst hys;obtain⟨g,rfl⟩:=he;rw[TH]at K;have e:na es w s y (λb=>(h0++g)[b]?) (h0++g).length=some (s,.aq):=by
   simp only[na,hy.dO];cases hs with
   |nil=>simp
   |mk hN hb h'=>simp
  rw[e,gm];exact K s g hs (λ_ _ _=>rfl) (Ts _)
 ·refine WR.fN hs hy hes Om dq he λg h1 h2 h3=>K _ g h2 (λb hb hne=>h3 b hb λb0 o n e hse hbb=>hne (by rw[hse,hbb];rfl)) Om
end
set_option maxRecDepth 10000
attribute [local irreducible] WP WC WE WB WR WF WL WG eD WM
section
variable {P:Program}(T:dB P) {h:af}
include T
end
def sj{s c}:fO (s++[c])=(339*fO s+(c.toNat:Int)).tmod 9999749:=by simp[fO]
theorem vM:∀(s:By) (a:Int),0<=a/\a<9999749->0<=s.foldl (λx c=>(339*x+(c.toNat:Int)).tmod 9999749) a/\s.foldl (λx c=>(339*x+(c.toNat:Int)).tmod 9999749) a<9999749
 |[],_,h=>h
 |c::s,a,h=>by
  rw[List.foldl_cons];exact vM s _ ⟨Int.tmod_nonneg _ Om,Vn _ Om⟩
def lj(s:By):0<=fO s/\fO s<9999749:=vM s 1 Om
def rh(s:By):(gW (fO s)).length<=7:=by
 have:=lj s;rw[jh];exact j8 (k:=6) Om
def si(s:By):(lh s).length=7:=by
 have:=rh s;unfold lh;rw[Tg,Up];omega
theorem pq{c}:∀{xs},Lib.join xs [c]=gE c xs
 |[]=>rfl
 |[x]=>Lib.join_one x [c]
 |x::y::r=>by
  rw[kW Si,<-pq (xs:=y::r),Lib.join_cons,Lib.join_cons];simp[Lib.joinTail]
def zT:∀{xs},Lib.join xs []=xs.flatten
 |[]=>rfl
 |x::r=>by rw[Lib.join_cons];simp[Lib.joinTail]
section
variable {P:Program}(T:dB P) (Z:nY P) {h:af}
include T Z
set_option maxRecDepth 10000 in
def r187(s:By)(hs:s.length<=2^40)(w:Pw h):ao P 187 [.str s] h (λv _=>v=.str (lh s)):=by
 refine .mG 28 T.mix T.c187 ?_;intro ts hlen t0;unfold fn187 gA;refine Rs t0 ?_;refine WL.inv T.mix (λn ts' h'=>∃k:Nat,k<=s.length/\n=s.length-k/\h' =h/\ts'.length=28/\slot ts' 0=.str s/\slot ts' 3=.i (fO (s.take k))/\slot ts' 7=.i s.length/\slot ts' 8=.i k) s.length
  ⟨0,Om,rfl,rfl,(Sq t0),(Sq t0),my,(Sq t0),my⟩ ?_
 rintro _ ts' _ ⟨k,hk,rfl,rfl,OK,u0,u3,u7,u8⟩;clear hlen t0;have hlen:=OK;by_cases hlt:k<s.length
 ·have e3:=hX hlt;have hb:=lj (s.take k);have hcn:=UInt8.toNat_lt s[k];have w1:IntKind.i64.wrap (339*fO (s.take k))=339*fO (s.take k):=aR Om Om;have w2:IntKind.i64.wrap (s[k].toNat:Int)=(s[k].toNat:Int):=aR Om Om;have w3:IntKind.i64.wrap (339*fO (s.take k)+(s[k].toNat:Int))=339*fO (s.take k)+(s[k].toNat:Int):=aR Om Om;have er:=ji (k:=.i64) (a:=339*fO (s.take k)+(s[k].toNat:Int)) (b:=9999749) De;rw[<-sj,<-kK hlt]at er
  repeat (first|simp (config:={maxSteps:=1000000}) only[bx,bo,bL,bM,reduceAdd,reduceMul,reduceLeDiff,reduceEqDiff,bP,hlen,TT,TQ,u0,u3,u7,u8,e3,jK hlt,w1,w2,w3,er,wrapN (show k+1<2^63 by omega)]|simp (config:={maxSteps:=1000000}) (disch:=first|(simp only[Tg,Tl,Tr]<;>omega)|rfl|omega|fail) only[gL,bx,bo,bL,bM,reduceAdd,reduceMul,reduceLeDiff,reduceEqDiff,bP,hlen,TT,TQ,u0,u3,u7,u8,e3,jK hlt,w1,w2,w3,er,wrapN (show k+1<2^63 by omega)])
  exact GU
 ·have e3:=jf hlt;have ek:k=s.length:=Om
  rw[ek,T7]at u3;have hb:=lj s;have hl:=rh s;refine Rs (A5 @u0 @u3 @u7 @u8 e3) ?_;refine WF.ce T.c113 (Z.itoa Om Om w) λg=>?_
  rw[fo hb.1];have w1:IntKind.i64.wrap (7-((gW (fO s)).length:Int))=((7-(gW (fO s)).length:Nat):Int):=by rw[aR Om Om];omega
  refine Rs (A2 @u0 @w1) ?_;refine WF.ce T.c252 (Z.rep Om) λg2=>?_
  refine Rs (A2 @u0 (gX (show(List.replicate (7-(gW (fO s)).length) (48:UInt8)).length+(gW (fO s)).length<2^62 by rw[Up];omega))) ?_;rfl
def vG{x}(h0:0<=x)(h1:x<2^62)(w:Pw h):aQ P (.func (.func 113) [] []) [.i x] h (λv _=>v=.str (gW x)):=by
 rw[<-fo h0];exact aQ.of (a:=[]) (c:=[]) T.c113 (Z.itoa Om Om w)
end
structure Ml(e:db):Prop where
 num:0<=e.num/\e.num<2^62
 cK:∀x∈e.cK,0<=x/\x<2^62
 nl:e.names.length<=2^30
 vl:e.cK.length<=2^30
 bl:(fU e).length<=2^38
section
variable {P:Program}(T:dB P) (Z:nY P) {h:af}
include T Z
set_option maxRecDepth 10000 in
def r186{x}(ox:a8 h x)(en:Ml x.ev)(w:Pw h):ao P 186 [.agg x.row] h (λv _=>v=.str (fU x.ev)):=by
 refine .mG 19 T.mix T.c186 ?_;intro ts hlen t0;unfold fn186 gA;have NJ:=@a8.box _ _ ox;have Ry:=en.nl;have OJ:=en.vl;refine Rs (A5 t0 @NJ @mU @fH @bE) ?_;refine WF.ce T.c113 (Z.itoa (by have:=en.num;omega) (by have:=en.num;omega) (w.ext Xx)) λg1=>?_
 rw[fo en.num.1];refine Rs (A4 t0 @mU @fH @bE) ?_;have hF:=Fr.push (N:=h.length) (h:=h++[ai.b x.row]++g1) (es:=1) (by simp only[Tg];omega) (([gW x.ev.num,x.ev.kind] :List (By)).map an) (by simp[an]);refine WR.F5 (h0:=h) (cs:=([gW x.ev.num,x.ev.kind] :List (By)).map an) (ys:=x.ev.names.map an) hF (ox.n.ext Xx) De (by simp;omega) Xx ?_;intro s' g hfr hkp hle;rw[<-Tx]at hfr;have On:(h++g)[h.length]? =some (.b x.row):=by
  rw[hkp _ (by simp only[Tg,TC];omega) (λe=>by have e2:(h++[ai.b x.row]++g1).length=h.length:=Ug e;simp only[Tg,TC]at e2;omega)];simp
 have lb:∀{k:af}{n':Option Nat}{a:Nat},Ext (h++g) k->au n' (.ptr h.length a) (λz=>k[z]?)=dy n' a (.b x.row):=λe=>az (e.some On)
 refine Rs (A3 t0 @lb @cB) ?_;refine WF.res T.c199 (r199 T (ox.v.ext Xx) Om gW (λy hy k ek=>vG T Z (en.cK y hy).1 (en.cK y hy).2 (w.ext (Ext.trans Xx ek)))) ?_;intro v g2 hv;refine Rs t0 ?_;refine WR.F5 (h0:=h) (hfr.app g2) hv.aN De (by simp;omega) Xx ?_;intro s2 g3 hfr2 hkp2 PW;rw[<-Tx]at hfr2;refine Rs t0 ?_;have hbl:=en.bl;refine WF.ce T.c114 (Z.join hfr2.aN ⟨by rw[pq];show(fU x.ev).length<=_;omega,by simp;omega⟩) λg4=>?_
 refine Rs t0 ?_;rw[pq];rfl
set_option maxRecDepth 10000 in
def r97{x}(ox:a8 h x)(en:Ml x.ev)(w:Pw h):ao P 97 [.agg x.row] h (λv _=>v=.str (sU x.ev)):=by
 refine .mG 12 T.mix T.c97 ?_;intro ts hlen t0;unfold fn97 gA;have NJ:=@a8.box _ _ ox;have hbl:=en.bl;refine Rs (A3 t0 @NJ @cA) ?_;refine WF.ce T.c186 (r186 T Z (ox.ext Xx) en (w.ext Xx)) λg=>?_
 refine Rs (A2 t0 (gX (show(fU x.ev).length+([35] :By).length<2^62 by simp;omega))) ?_;refine WF.ce T.c187 (r187 T Z _ Om (w.ext Xx)) λg2=>?_
 have h7:=si (fU x.ev);refine Rs (A3 t0 (gX (show(fU x.ev++[35]).length+(lh (fU x.ev)).length<2^62 by simp;omega)) (gX (show(fU x.ev++[35]++lh (fU x.ev)).length+([10] :By).length<2^62 by simp;omega))) ?_;rfl
theorem zu{e}:(sU e).length=(fU e).length+9:=by
 have:=si (fU e);unfold sU;simp;omega
end
structure Nb(B W0:af)(b:Nat)(K:Nat->Prop)(W:af)(U:RV):Prop where
 bk:bw B.length W b U
 ex:Ext B W
 ln:W0.length<=W.length
 kp:∀i,K i->W[i]? =W0[i]?
 kl:∀i,K i->i<W0.length/\i≠b/\some i∉U.bl
section
variable {B W0 W W2:af}{b:Nat}{K:Nat->Prop}{U:RV}(s:Nb B W0 b K W U)
include s
omit s in
omit s in
omit s in
omit s in
omit s in
omit s in
omit s in
end
def Nd:List AV:=[.i 0,.ah,.ah,.ah,.ah,.ah,.ah]
section
variable {P:Program}(T:dB P) {h W:af}{ts:TS}{V U:RV}{r:ai}
include T
end
end Go.Abs
namespace Go.Abs
def NA(X:af)(V:RV)(i:Nat):Prop:=(i<X.length/\some i∉V.bl)\/i=X.length+1\/i=X.length+2
def Nz(B X:af)(x:EV)(V:RV)(W:af)(U:RV):Prop:=
 Nb B (X++[.b V.row]++[.b x.row]++[.b Nd]) X.length (NA X V) W U
section
variable {B X W:af}{x:EV}{V U:RV}(s:Nz B X x V W U)
include s
end
def WR.F4{P ro ks ts Q B Y s es w cs z d l}
  (hs:Fr B.length Y s es cs) (hz:z.length=es) (he:Ext B Y) (hes:0<es) (dq:(cs.length+1)*w<=2^46)
  (K:∀(W5:af) (s':AV),Ext B W5->Fr B.length W5 s' es (cs++[z])->(∀i,sB s' =some i->Y.length<i)->s'.one=true->Y.length<=W5.length->(∀i,i<Y.length->sB s≠some i->W5[i]? =Y[i]?)->WP P ro l ks (put ts d s') W5 Q):
  WR P ro (na es w s (.slice Y.length 0 1 es) (λb=>(Y++[ai.cells z true true])[b]?) (Y++[ai.cells z true true]).length) false d l ks ts (Y++[ai.cells z true true]) Q:=by
 have hyz:aA (Y++[ai.cells z true true]) (AV.slice Y.length 0 1 es) es [z]:=by
  have:=(Fr.push (N:=0) (es:=es) (h:=Y) (TJ _) [z] (λx hx=>by rw[TD]at hx;rw[hx,hz])).aN
  simpa using this
 refine WR.fN (h0:=B) (cs:=cs) (ys:=[z]) (hs.app _) hyz hes Si (by simpa using dq) (he.trans (Ext.app _ (Ext.refl _))) ?_;intro g' N1 hff hkp;refine K _ _ ⟨_,rfl⟩ hff (λi hi=>by cases hi;simp) rfl (by rw[N1];simp only[Tg,TC];omega) (λi hi hne=>?_);rw[hkp i (by simp only[Tg];omega) (λb0 o n e he z=>hne (by rw[he,z];rfl))];exact Tj hi
set_option maxRecDepth 10000
attribute [local irreducible] WP WC WE WB WR WF WL WG eD WM
section
variable {P:Program}(T:dB P) {B X W:af}{ts:TS}{V:RV}{x:EV}
include T
end
def fi:List AV:=[.int .i64 0,.str [],.ah,.ah,.str []]
def Ag(kd:By)(sn sv:AV):ai:=.cells [.int .i64 0,.str kd,sn,sv,.str []] true false
structure sa(A:af)(kd:By)(b8:Nat)(kb:ai)(sw:AV)(wr:Bool)(ws:List (By))(sn sv:AV)(ns:List (By))(vs:List Int)(B:af):Prop where
 m7:(A++[fA sw wr]++B)[A.length+1]? =some (Ag kd sn sv)
 m8:(A++[fA sw wr]++B)[b8]? =some kb
 l8:A.length+1<b8
 s:aA A sw 1 (ws.map an)
 wl:∀x∈ws,x.length<=2^40
 n:Fr (A.length+1) (A++[fA sw wr]++B) sn 1 (ns.map an)
 v:Fr (A.length+1) (A++[fA sw wr]++B) sv 1 (vs.map aB)
 dn:∀i,sB sn=some i->A.length+1<i/\i≠b8
 dv:∀i,sB sv=some i->A.length+1<i/\i≠b8
 dd:∀i,sB sn=some i->sB sv≠some i
section
variable {A B:af}{kd:By}{b8:Nat}{kb:ai}{sw:AV}{wr:Bool}{ws:List (By)}{sn sv:AV}{ns:List (By)}{vs:List Int}
def tv{x}:(A++[x]).length=A.length+1:=Si
def sa.tk(o:sa A kd b8 kb sw wr ws sn sv ns vs B){sw' wr' ws'}(hs:aA A sw' 1 (ws'.map an))(hw:∀x∈ws',x.length<=2^40):sa A kd b8 kb sw' wr' ws' sn sv ns vs B:=
 ⟨by rw[od (K':=fA sw wr) Om];exact o.m7,by rw[od (K':=fA sw wr) (by have:=o.l8;omega)];exact o.m8,o.l8,hs,hw,o.n.swap' tv tv,o.v.swap' tv tv,o.dn,o.dv,o.dd⟩
theorem sa.app(o:sa A kd b8 kb sw wr ws sn sv ns vs B)(g:af):sa A kd b8 kb sw wr ws sn sv ns vs (B++g):=by
 have e:A++[fA sw wr]++(B++g)=A++[fA sw wr]++B++g:=(Ti _ _ _).symm;exact⟨by rw[e];exact(Ext.app g (Ext.refl _)).some o.m7,by rw[e];exact(Ext.app g (Ext.refl _)).some o.m8,o.l8,o.s,o.wl,by rw[e];exact o.n.app g,by rw[e];exact o.v.app g,o.dn,o.dv,o.dd⟩
def lE{K X g}:(A++[K]++g).set (A.length+1) X=A++[K]++g.set 0 X:=by
 rw[Ub _ _ Si];simp
def sa.KH(o:sa A kd b8 kb sw wr ws sn sv ns vs B){Q9 ns' g}(hF:Fr (A.length+1) (A++[fA sw wr]++g) Q9 1 (ns'.map an))(hlo:∀i,sB Q9=some i->(A++[fA sw wr]++B).length<i)
  (hle:(A++[fA sw wr]++B).length<=(A++[fA sw wr]++g).length) (hk:∀i,i<(A++[fA sw wr]++B).length->sB sn≠some i->(A++[fA sw wr]++g)[i]? =(A++[fA sw wr]++B)[i]?):
  sa A kd b8 kb sw wr ws Q9 sv ns' vs (g.set 0 (Ag kd Q9 sv)):=by
 have l7:=(Th.1 o.m7).1;have l8:=(Th.1 o.m8).1;have h8:=o.l8;have ne:∀i,i≠A.length+1->((A++[fA sw wr]++g).set (A.length+1) (Ag kd Q9 sv))[i]? =(A++[fA sw wr]++g)[i]? :=λi hi=>Ua (λe=>hi e.symm)
 refine⟨?_,?_,h8,o.s,o.wl,?_,?_,λi hi=>?_,o.dv,λi hi e=>?_⟩
 ·rw[<-lE,T2 Om]
 ·rw[<-lE,ne _ Om,hk _ l8 (λe=>(o.dn _ e).2 rfl)];exact o.m8
 ·exact G0
 ·rw[<-lE];exact o.v.ay λj hj=>by rw[ne j (by have:=(o.dv j hj).1;omega),hk j (o.v.bN hj).2 (λe=>o.dd j e hj)]
 ·have:=hlo i hi;exact⟨Om,Om⟩
 ·have h1:=hlo i hi;have h2:=(o.v.bN e).2;omega
def sa.KG(o:sa A kd b8 kb sw wr ws sn sv ns vs B){Q8 vs' g}(hF:Fr (A.length+1) (A++[fA sw wr]++g) Q8 1 (vs'.map aB))(hlo:∀i,sB Q8=some i->(A++[fA sw wr]++B).length<i)
  (hle:(A++[fA sw wr]++B).length<=(A++[fA sw wr]++g).length) (hk:∀i,i<(A++[fA sw wr]++B).length->sB sv≠some i->(A++[fA sw wr]++g)[i]? =(A++[fA sw wr]++B)[i]?):
  sa A kd b8 kb sw wr ws sn Q8 ns vs' (g.set 0 (Ag kd sn Q8)):=by
 have l7:=(Th.1 o.m7).1;have l8:=(Th.1 o.m8).1;have h8:=o.l8;have ne:∀i,i≠A.length+1->((A++[fA sw wr]++g).set (A.length+1) (Ag kd sn Q8))[i]? =(A++[fA sw wr]++g)[i]? :=λi hi=>Ua (λe=>hi e.symm)
 refine⟨?_,?_,h8,o.s,o.wl,?_,?_,o.dn,λi hi=>?_,λi hi e=>?_⟩
 ·rw[<-lE,T2 Om]
 ·rw[<-lE,ne _ Om,hk _ l8 (λe=>(o.dv _ e).2 rfl)];exact o.m8
 ·rw[<-lE];exact o.n.ay λj hj=>by rw[ne j (by have:=(o.dn j hj).1;omega),hk j (o.n.bN hj).2 (λe=>o.dd j hj e)]
 ·exact G0
 ·have:=hlo i hi;exact⟨Om,Om⟩
 ·have h1:=hlo i e;have h2:=(o.n.bN hi).2;omega
end
def oA{ws wr}:∀x∈(bg ws wr).2.1,x∈ws:=by
 intro x hx;cases ws with
 |nil=>simp[bg]at hx
 |cons w r=>
  by_cases hw:w=[]
  ·rw[bg,Ty hw]at hx;simp at hx
  ·rw[bg,Tt hw]at hx;exact TK _ hx
def JA(h:af)(ws:List (By))(v:AV)(k:af):Prop:=Ext h k/\∃x:EV,x.ev=(du ws).1/\v=.dh [.agg x.row,.bool (du ws).2]/\Fr h.length k x.sn 1 (x.ev.names.map an)/\Fr h.length k x.sv 1 (x.ev.cK.map aB)
def sR{h k}(e:Ext (h++[ai.cells [.int .i64 0,.str [],.ah,.ah,.str []] true false]) k):k[h.length]? =some (.cells [.int .i64 0,.str [],.ah,.ah,.str []] true false):=e.some (by rw[To (Ts _)];simp)
def HN{h k}(e:Ext (h++[ai.cells [.int .i64 0,.str [],.ah,.ah,.str []] true false]) k):bB 5 (.ptr h.length 0) (.agg [.int .i64 0,.str [],.ah,.ah,.str []]) (λz=>k[z]?)=some (ar,.set h.length (.cells [.int .i64 0,.str [],.ah,.ah,.str []] true false)):=by rw[aX (sR e)];rfl
def HP{h k}(e:Ext (h++[ai.cells [.int .i64 0,.str [],.ah,.ah,.str []] true false]) k):au (some 5) (.ptr h.length 0) (λz=>k[z]?)=some (.agg [.int .i64 0,.str [],.ah,.ah,.str []],.aq):=by rw[az (sR e)];rfl
def HO{h k}(e:Ext (h++[ai.cells [.int .i64 0,.str [],.ah,.ah,.str []] true false]) k):k.set h.length (.cells [.int .i64 0,.str [],.ah,.ah,.str []] true false)=k:=by
 have:=sR e;exact z76
def HM{h k x}(ox:a8 k x)(e:Ext (h++[ai.cells [.int .i64 0,.str [],.ah,.ah,.str []] true false]) k):bB 5 (.ptr h.length 0) (.agg x.row) (λz=>k[z]?)=some (ar,.set h.length (.cells x.row true false)):=by rw[aX (sR e)];exact ox.st
def HL{h k:af}{x:EV}(e:Ext (h++[ai.cells [.int .i64 0,.str [],.ah,.ah,.str []] true false]) k):au (some 5) (.ptr h.length 0) (λz=>(k.set h.length (.cells x.row true false))[z]?)=some (.agg x.row,.aq):=by
 rw[az (T2 (Th.1 (sR e)).1)];rfl
theorem qe:∀{n}{ws}{wr},(cG n ws wr).1.length=n
 | 0,_,_=>rfl
 |n+1,ws,wr=>by rw[cG,Tl,qe]
theorem td:∀{n}{ws}{wr},(ef n ws wr).1.length=n
 | 0,_,_=>rfl
 |n+1,ws,wr=>by rw[ef,Tl,td]
def sV(ws:List (By)):(du ws).1.names.length<=3/\(du ws).1.cK.length<=3:=by
 unfold du;cases gb (bg ws false).1 with
 |none=>exact⟨TJ _,TJ _⟩
 |some d=>
  have h3:(bV d).length<=3/\cO d<=3:=by cases d<;>decide
  exact⟨by show(cG _ _ _).1.length<=3;rw[qe];exact h3.1,by show(ef _ _ _).1.length<=3;rw[td];exact h3.2⟩
def uf(k:Nat):aj:=(fn111).body.dr k
def zv(k:Nat):aj:=(uf k).hd
def KE:fn111=⟨73,1,[(2,some (some 5)),(3,none)],.seq (zv 0) (.seq (zv 1) (.seq (zv 2) (.seq (zv 3) (.seq (zv 4) (.seq (zv 5) (uf 6))))))⟩:=rfl
def KD:uf 6=.seq (zv 6) (uf 7):=rfl
def KC:uf 7=.seq (zv 7) (uf 8):=rfl
attribute [local irreducible] WQ
section
variable {P:Program}(T:dB P) {h A B:af}{kd:By}{b8:Nat}{kb:ai}{sw:AV}{wr:Bool}{ws Sz:List (By)}{sn sv:AV}{ns:List (By)}{vs:List Int}{ts:TS}
include T
theorem EJ(hA:A=h++[.cells fi true false])(o:sa A kd b8 kb sw wr ws sn sv ns vs B)(hlen:ts.length=73)(t2:slot ts 2=.ptr h.length 0)(t4:slot ts 4=.ptr A.length 0)(t7:slot ts 7=.ptr (A.length+1) 0)
  (hw:du Sz=(⟨0,kd,ns,vs,[]⟩,!wr&&decide (ws.length=0))):WC P bS (uf 8) [] ts (A++[fA sw wr]++B) (FQ [(2,some (some 5)),(3,none)] (JA h Sz)):=by
 have hAl:A.length=h.length+1:=by rw[hA];simp
 obtain⟨Y,hY⟩:∃Y,Y=A++[fA sw wr]++B:=⟨_,rfl⟩;have hY2:Y=h++([ai.cells fi true false]++[fA sw wr]++B):=by rw[hY,hA];simp
 have m2:Y[h.length]? =some (.cells fi true false):=by rw[hY2,To (Ts _)];simp
 have m4:Y[A.length]? =some (.cells [sw,.bool wr] true false):=by rw[hY];exact F2
 have m7:Y[A.length+1]? =some (.cells [.int .i64 0,.str kd,sn,sv,.str []] true false):=by rw[hY];exact o.m7
 have ln:=o.n;have lv:=o.v;rw[<-hY]at ln lv ⊢;have x:∃x:EV,x=⟨⟨0,kd,ns,vs,[]⟩,sn,sv⟩:=⟨_,rfl⟩;obtain⟨x,hx⟩:=x;have hrow:x.row=[.int .i64 0,.str kd,sn,sv,.str []]:=by rw[hx];rfl
 have ox:Fr h.length (Y.set h.length (.cells x.row true false)) x.sn 1 (x.ev.names.map an)/\Fr h.length (Y.set h.length (.cells x.row true false)) x.sv 1 (x.ev.cK.map aB):=by
  rw[hx];exact⟨(ln.ay λj hj=>Ua (by have:=(o.dn j hj).1;omega)).low Om,(lv.ay λj hj=>Ua (by have:=(o.dv j hj).1;omega)).low Om⟩
 have oy:a8 Y x:=by rw[hx];exact⟨ln.aN,lv.aN⟩
 have l4:∀{n:Option Nat}{a:Nat},au n (.ptr A.length a) (λz=>Y[z]?)=dy n a (.cells [sw,.bool wr] true false):=az m4;have l7:au (some 5) (.ptr (A.length+1) 0) (λz=>Y[z]?)=some (.agg x.row,.aq):=by rw[az m7,hrow];rfl
 have s2:bB 5 (.ptr h.length 0) (.agg x.row) (λz=>Y[z]?)=some (ar,.set h.length (.cells x.row true false)):=by rw[aX m2];exact oy.st
 have l2:au (some 5) (.ptr h.length 0) (λz=>(Y.set h.length (.cells x.row true false))[z]?)=some (.agg x.row,.aq):=by rw[az (T2 (Th.1 m2).1)];rfl
 have hlw:=(o.s.bh (row:=an));have fin:∀b,b=(!wr&&decide (ws.length=0))->JA h Sz (.dh [.agg x.row,.bool b]) (Y.set h.length (.cells x.row true false)):=λb hb=>by
  refine⟨⟨([ai.cells fi true false]++[fA sw wr]++B).set 0 (.cells x.row true false),by rw[hY2,Ub _ _ (Ts _),Uf]⟩,x,by rw[hw,hx],by rw[hw,hb],ox⟩
 unfold uf fn111;simp only[aj.j,aj.s,aj.r,aj.dr,aj.tl,aj.hd];cases wr with
 |true=>
  repeat (first|simp (config:={maxSteps:=1000000}) only[bx,bo,bL,bM,reduceAdd,reduceMul,reduceLeDiff,reduceEqDiff,bP,hlen,TT,TQ,t2,t4,t7,l4,l7,s2,TU,TW,oz,mo,mw,mq,ou,mj,rO,wT,rP,ow,kh,wW,rQ,rR,oq,ml,rM,rL]|simp (config:={maxSteps:=1000000}) (disch:=first|(simp only[Tg,Tl,Tr]<;>omega)|rfl|omega|fail) only[gL,bx,bo,bL,bM,reduceAdd,reduceMul,reduceLeDiff,reduceEqDiff,bP,hlen,TT,TQ,t2,t4,t7,l4,l7,s2,TU,TW,oz,mo,mw,mq,ou,mj,rO,wT,rP,ow,kh,wW,rQ,rR,oq,ml,rM,rL])
  rw[AN];refine⟨?_,?_⟩
  ·exact MF
  ·repeat (first|simp (config:={maxSteps:=1000000}) only[bx,bo,bL,bM,reduceAdd,reduceMul,reduceLeDiff,reduceEqDiff,bP,hlen,TT,TQ,t2,l2,mg,mh,mi,UP,Uu]|simp (config:={maxSteps:=1000000}) (disch:=first|(simp only[Tg,Tl,Tr]<;>omega)|rfl|omega|fail) only[gL,bx,bo,bL,bM,reduceAdd,reduceMul,reduceLeDiff,reduceEqDiff,bP,hlen,TT,TQ,t2,l2,mg,mh,mi,UP,Uu])
   exact fin _ rfl
 |false=>
  repeat (first|simp (config:={maxSteps:=1000000}) only[bx,bo,bL,bM,reduceAdd,reduceMul,reduceLeDiff,reduceEqDiff,bP,hlen,TT,TQ,t2,t4,t7,l4,l7,s2,hlw,TU,TW,oz,mo,mw,mq,ou,mj,rO,wT,rP,ow,kh,wW,rQ,rR,oq,ml,rM,rL]|simp (config:={maxSteps:=1000000}) (disch:=first|(simp only[Tg,Tl,Tr]<;>omega)|rfl|omega|fail) only[gL,bx,bo,bL,bM,reduceAdd,reduceMul,reduceLeDiff,reduceEqDiff,bP,hlen,TT,TQ,t2,t4,t7,l4,l7,s2,hlw,TU,TW,oz,mo,mw,mq,ou,mj,rO,wT,rP,ow,kh,wW,rQ,rR,oq,ml,rM,rL])
  rw[AN];refine⟨?_,?_⟩
  ·exact MF
  ·repeat (first|simp (config:={maxSteps:=1000000}) only[bx,bo,bL,bM,reduceAdd,reduceMul,reduceLeDiff,reduceEqDiff,bP,hlen,TT,TQ,t2,l2,mg,mh,mi,UP,Uu]|simp (config:={maxSteps:=1000000}) (disch:=first|(simp only[Tg,Tl,Tr]<;>omega)|rfl|omega|fail) only[gL,bx,bo,bL,bM,reduceAdd,reduceMul,reduceLeDiff,reduceEqDiff,bP,hlen,TT,TQ,t2,l2,mg,mh,mi,UP,Uu])
   refine fin _ ?_;cases ws<;>simp
   try omega
def KA(Z:nY P){vN rs c2 c3 a4}(hA:A=h++[.cells fi true false])(hkb:kb=.cells [rs,.int .i64 (vN:Nat),c2,c3,a4] true false)(hvN:vN<=100)(o:sa A kd b8 kb sw wr ws sn sv ns [] B)(hlen:ts.length=73)(t2:slot ts 2=.ptr h.length 0)(t4:slot ts 4=.ptr A.length 0)(t6:slot ts 6=.func (.func 208) [.ptr A.length 0] [])(t7:slot ts 7=.ptr (A.length+1) 0)(t8:slot ts 8=.ptr b8 0)
  (hw:du Sz=(⟨0,kd,ns,(ef vN ws wr).1,[]⟩,!(ef vN ws wr).2.2&&decide ((ef vN ws wr).2.1.length=0))):WC P bS (uf 7) [] ts (A++[fA sw wr]++B) (FQ [(2,some (some 5)),(3,none)] (JA h Sz)):=by
 have m8:=o.m8;rw[hkb]at m8;have l8:∀{n:Option Nat}{a:Nat},au n (.ptr b8 a) (λz=>(A++[fA sw wr]++B)[z]?)=dy n a (.cells [rs,.int .i64 (vN:Nat),c2,c3,a4] true false):=az m8;obtain⟨RR,Ou⟩:∃RR,RR=uf 8:=⟨_,rfl⟩;rw[KC,<-Ou];unfold zv uf fn111;simp only[aj.j,aj.s,aj.r,aj.dr,aj.tl,aj.hd];refine Rs (A6 t2 t4 t6 t7 t8 @l8) ?_;refine WL.inv T.mix (λn ts' h'=>∃(k:Nat) (sw' Q8:AV) (wr':Bool) (ws':List (By)) (vs':List Int) (B':af),k<=vN/\n=vN-k/\h' =A++[fA sw' wr']++B'/\sa A kd b8 kb sw' wr' ws' sn Q8 ns vs' B'/\vs'.length=k/\ef vN ws wr=(vs'++(ef (vN-k) ws' wr').1,(ef (vN-k) ws' wr').2)/\
   ts'.length=73/\slot ts' 2=.ptr h.length 0/\slot ts' 4=.ptr A.length 0/\slot ts' 6=.func (.func 208) [.ptr A.length 0] []/\slot ts' 7=.ptr (A.length+1) 0/\slot ts' 47=.int .i64 vN/\slot ts' 48=.int .i64 k) vN
  ⟨0,sw,sv,wr,ws,[],B,Om,rfl,rfl,o,rfl,rfl,(Sq t2),(Sq t2),(Sq t4),(Sq t6),(Sq t7),(Sq t2),my⟩ ?_
 clear hlen t2 t4 t6 t7 t8 l8 m8 o;rintro _ ts' _ ⟨k,sw',Q8,wr',ws',vs',B',hk,rfl,rfl,o,OJ,O4,hlen,u2,u4,u6,u7,u47,u48⟩;by_cases hlt:k<vN
 ·have e3:decide ((k:Int)<vN)=true:=Tq Om;refine Rs (A7 @u2 @u4 @u6 @u7 @u47 @u48 e3) ?_;refine WF.gen T.c208 (Ld T Z o.s o.wl) ?_;rintro _ _ ⟨Pq,g,rfl,rfl,Ob⟩;obtain⟨OG,QC⟩:∃OG,OG=((bg ws' wr').2.2 || !fT (bg ws' wr').1):=⟨_,rfl⟩;obtain⟨y,hy⟩:∃y,y=ju (bg ws' wr').1:=⟨_,rfl⟩;rw[<-QC,<-hy];have o2:=(o.tk (wr':=OG) Ob (λx hx=>o.wl x (oA x hx))).app g;have bp:ef vN ws wr=((vs'++[y])++(ef (vN-(k+1)) (bg ws' wr').2.1 OG).1,(ef (vN-(k+1)) (bg ws' wr').2.1 OG).2):=by
   rw[O4,show vN-k=(vN-(k+1))+1 by omega,ef,hy,QC];simp
  have l7:∀{kk:af}{n:Option Nat}{a:Nat},Ext (A++[fA Pq OG]++(B'++g)) kk->au n (.ptr (A.length+1) a) (λz=>kk[z]?)=dy n a (.cells [.int .i64 0,.str kd,sn,Q8,.str []] true false):=λe=>az (e.some o2.m7)
  refine Rs (A7 @u2 @u4 @u6 @u7 @u47 @u48 @l7) ?_;refine WR.F4 (B:=A++[fA Pq OG]) (cs:=vs'.map aB) (z:=aB y) (by rw[tv];exact o2.v) rfl ⟨_,rfl⟩ De (by simp;omega) ?_;rintro _ s' ⟨g2,rfl⟩ hF hlo hone hle hkp;rw[tv]at hF;have er:vs'.map aB++[aB y]=(vs'++[y]).map aB:=by rw[Tx];rfl
  rw[er]at hF;have q7:=(Th.1 o2.m7).1;have m7':(A++[fA Pq OG]++g2)[A.length+1]? =some (.cells [.int .i64 0,.str kd,sn,Q8,.str []] true false):=by
   rw[hkp _ q7 (λe=>by have:=(o2.dv _ e).1;omega)];exact o2.m7
  have s7:bB 1 (.ptr (A.length+1) 3) s' (λz=>(A++[fA Pq OG]++g2)[z]?)=some (ar,.set (A.length+1) (.cells [.int .i64 0,.str kd,sn,s',.str []] true false)):=by
   rw[aX m7'];exact dR hone Si
  have o3:=o2.KG hF hlo hle hkp;refine Rs (A8 @u2 @u4 @u6 @u7 @u47 @u48 @s7 (wrapN (show k+1<2^63 by omega))) ?_;exact⟨vN-(k+1),Om,k+1,Pq,s',OG,_,vs'++[y],_,Om,rfl,lE,o3,by simp[OJ],bp,rfl⟩
 ·have e3:decide ((k:Int)<vN)=false:=Tm Om;have ek:k=vN:=Om
  subst ek;rw[Uf,ef,TH]at O4;rw[O4]at hw;refine Rs (A7 @u2 @u4 @u6 @u7 @u47 @u48 e3) ?_;rw[Ou];exact EJ T hA o (Sq @u2) (Sq @u2) (Sq @u4) (Sq @u7) hw
def KB(Z:nY P){nN vN rs c2 c3 a4}(hA:A=h++[.cells fi true false])(hkb:kb=.cells [rs,.int .i64 (vN:Nat),c2,c3,a4] true false)(hnN:nN<=100)(hrs:∀G,gZ .sl G rs=some nN)(hvN:vN<=100)(o:sa A kd b8 kb sw wr ws sn sv [] [] B)(hlen:ts.length=73)(t2:slot ts 2=.ptr h.length 0)(t4:slot ts 4=.ptr A.length 0)
  (t5:slot ts 5=.func (.func 207) [.ptr A.length 0] []) (t6:slot ts 6=.func (.func 208) [.ptr A.length 0] []) (t7:slot ts 7=.ptr (A.length+1) 0) (t8:slot ts 8=.ptr b8 0)
  (hw:du Sz=(⟨0,kd,(cG nN ws wr).1,(ef vN (cG nN ws wr).2.1 (cG nN ws wr).2.2).1,[]⟩,!(ef vN (cG nN ws wr).2.1 (cG nN ws wr).2.2).2.2&&decide ((ef vN (cG nN ws wr).2.1 (cG nN ws wr).2.2).2.1.length=0))):WC P bS (uf 6) [] ts (A++[fA sw wr]++B) (FQ [(2,some (some 5)),(3,none)] (JA h Sz)):=by
 have m8:=o.m8;rw[hkb]at m8;have l8:∀{n:Option Nat}{a:Nat},au n (.ptr b8 a) (λz=>(A++[fA sw wr]++B)[z]?)=dy n a (.cells [rs,.int .i64 (vN:Nat),c2,c3,a4] true false):=az m8;obtain⟨RR,Ou⟩:∃RR,RR=uf 7:=⟨_,rfl⟩;rw[KD,<-Ou];unfold zv uf fn111;simp only[aj.j,aj.s,aj.r,aj.dr,aj.tl,aj.hd];refine Rs (A8 t2 t4 t5 t6 t7 t8 @l8 @hrs) ?_;refine WL.inv T.mix (λn ts' h'=>∃(k:Nat) (sw' Q9:AV) (wr':Bool) (ws' ns':List (By)) (B':af),k<=nN/\n=nN-k/\h' =A++[fA sw' wr']++B'/\sa A kd b8 kb sw' wr' ws' Q9 sv ns' [] B'/\ns'.length=k/\cG nN ws wr=(ns'++(cG (nN-k) ws' wr').1,(cG (nN-k) ws' wr').2)/\
   ts'.length=73/\slot ts' 2=.ptr h.length 0/\slot ts' 4=.ptr A.length 0/\slot ts' 5=.func (.func 207) [.ptr A.length 0] []/\slot ts' 6=.func (.func 208) [.ptr A.length 0] []/\slot ts' 7=.ptr (A.length+1) 0/\slot ts' 8=.ptr b8 0/\slot ts' 34=.int .i64 nN/\slot ts' 35=.int .i64 k) nN
  ⟨0,sw,sn,wr,ws,[],B,Om,rfl,rfl,o,rfl,rfl,(Sq t2),(Sq t2),(Sq t4),(Sq t5),(Sq t6),(Sq t7),(Sq t8),(Sq t2),my⟩ ?_
 clear hlen t2 t4 t5 t6 t7 t8 l8 m8 o;rintro _ ts' _ ⟨k,sw',Q9,wr',ws',ns',B',hk,rfl,rfl,o,OJ,O4,hlen,u2,u4,u5,u6,u7,u8,u34,u35⟩;by_cases hlt:k<nN
 ·have e3:decide ((k:Int)<nN)=true:=Tq Om;refine Rs (A9 @u2 @u4 @u5 @u6 @u7 @u8 @u34 @u35 e3) ?_;refine WF.gen T.c207 (Fp T o.s) ?_;rintro _ _ ⟨Pq,rfl,rfl,Ob⟩;obtain⟨OG,QC⟩:∃OG,OG=(bg ws' wr').2.2:=⟨_,rfl⟩;obtain⟨y,hy⟩:∃y,y=(bg ws' wr').1:=⟨_,rfl⟩;rw[<-QC,<-hy];have o2:=o.tk (wr':=OG) Ob (λx hx=>o.wl x (oA x hx));have bp:cG nN ws wr=((ns'++[y])++(cG (nN-(k+1)) (bg ws' wr').2.1 OG).1,(cG (nN-(k+1)) (bg ws' wr').2.1 OG).2):=by
   rw[O4,show nN-k=(nN-(k+1))+1 by omega,cG,hy,QC];simp
  have l7:∀{kk:af}{n:Option Nat}{a:Nat},Ext (A++[fA Pq OG]++B') kk->au n (.ptr (A.length+1) a) (λz=>kk[z]?)=dy n a (.cells [.int .i64 0,.str kd,Q9,sv,.str []] true false):=λe=>az (e.some o2.m7)
  refine Rs (A9 @u2 @u4 @u5 @u6 @u7 @u8 @u34 @u35 @l7) ?_;refine WR.F4 (B:=A++[fA Pq OG]) (cs:=ns'.map an) (z:=an y) (by rw[tv];exact o2.n) rfl ⟨_,rfl⟩ De (by simp;omega) ?_;rintro _ s' ⟨g2,rfl⟩ hF hlo hone hle hkp;rw[tv]at hF;have er:ns'.map an++[an y]=(ns'++[y]).map an:=by rw[Tx];rfl
  rw[er]at hF;have q7:=(Th.1 o2.m7).1;have m7':(A++[fA Pq OG]++g2)[A.length+1]? =some (.cells [.int .i64 0,.str kd,Q9,sv,.str []] true false):=by
   rw[hkp _ q7 (λe=>by have:=(o2.dn _ e).1;omega)];exact o2.m7
  have s7:bB 1 (.ptr (A.length+1) 2) s' (λz=>(A++[fA Pq OG]++g2)[z]?)=some (ar,.set (A.length+1) (.cells [.int .i64 0,.str kd,s',sv,.str []] true false)):=by
   rw[aX m7'];exact dR hone Si
  have o3:=o2.KH hF hlo hle hkp;refine Rs (yD @u2 @u4 @u5 @u6 @u7 @u8 @u34 @u35 @s7 (wrapN (show k+1<2^63 by omega))) ?_;exact⟨nN-(k+1),Om,k+1,Pq,s',OG,_,ns'++[y],_,Om,rfl,lE,o3,by simp[OJ],bp,rfl⟩
 ·have e3:decide ((k:Int)<nN)=false:=Tm Om;have ek:k=nN:=Om
  subst ek;rw[Uf,cG,TH]at O4;rw[O4]at hw;refine Rs (A9 @u2 @u4 @u5 @u6 @u7 @u8 @u34 @u35 e3) ?_;rw[Ou];exact KA T Z hA hkb hvN o (Sq @u2) (Sq @u2) (Sq @u4) (Sq @u6) (Sq @u7) (Sq @u8) hw
def r111(Z:nY P){s ws}(hs:aA h s 1 (ws.map an))(hwl:∀x∈ws,x.length<=2^40):ao P 111 [s] h (λv k=>∃x:EV,x.ev=(du ws).1/\v=.dh [.agg x.row,.bool (du ws).2]/\Fr h.length k x.sn 1 (x.ev.names.map an)/\Fr h.length k x.sv 1 (x.ev.cK.map aB)):=by
 refine .of T.mix (Eq.trans T.c111 (TO some KE)) ?_;obtain⟨ts,NK⟩:∃ts,ts=aM 73 [s]:=⟨_,rfl⟩;have hlen:ts.length=73:=by rw[NK];rfl
 have t0:slot ts 0=s:=by rw[NK];rfl
 obtain⟨RR,Ou⟩:∃RR,RR=uf 6:=⟨_,rfl⟩;show WC P bS _ [] (aM 73 [s]) h (FQ _ (JA h ws));rw[<-NK,<-Ou];clear NK;have hso:=hs.one;unfold zv uf fn111;simp only[aj.j,aj.s,aj.r,aj.dr,aj.tl,aj.hd];refine Rs (A2 t0 @hso) ?_;obtain⟨A,hA⟩:∃A,A=h++[ai.cells fi true false]:=⟨_,rfl⟩;have hAl:A.length=h.length+1:=by rw[hA];simp
 have gw:=Fp T (A:=A) (B:=[]) (wr:=false) (hs.ext (k:=A) ⟨_,hA⟩);rw[TH,hA]at gw;refine WF.gen T.c207 gw ?_;rintro _ _ ⟨Pq,rfl,rfl,Ob⟩;rw[TH];rw[<-hA]at Ob;have hwl2:∀x∈(bg ws false).2.1,x.length<=2^40:=λx hx=>hwl x (oA x hx)
 have ON:du ws=match gb (bg ws false).1 with
  |none=>(jE,false)
  |some d=>(⟨0,bJ d,(cG (bV d).length (bg ws false).2.1 (bg ws false).2.2).1,(ef (cO d) (cG (bV d).length (bg ws false).2.1 (bg ws false).2.2).2.1 (cG (bV d).length (bg ws false).2.1 (bg ws false).2.2).2.2).1,[]⟩,!(ef (cO d) (cG (bV d).length (bg ws false).2.1 (bg ws false).2.2).2.1 (cG (bV d).length (bg ws false).2.1 (bg ws false).2.2).2.2).2.2&&decide ((ef (cO d) (cG (bV d).length (bg ws false).2.1 (bg ws false).2.2).2.1 (cG (bV d).length (bg ws false).2.1 (bg ws false).2.2).2.2).2.1.length=0)):=by
  unfold du;cases gb (bg ws false).1<;>rfl
 generalize (bg ws false).1=kd at *;generalize (bg ws false).2.1=ws2 at *;generalize (bg ws false).2.2=OG at *;refine Rs t0 ?_;refine WF.res T.c90 (r90 T) ?_;rintro _ g2 ⟨vf,rfl,hk⟩;have lk:∀{z:AV},fJ .s z true (.map (h++[ai.cells fi true false]++[fA Pq OG]++[Ag kd .ah .ah]).length) (.str kd) (λb=>(h++[ai.cells fi true false]++[fA Pq OG]++[Ag kd .ah .ah]++g2)[b]?)=jH z true ((gb kd).map vf):=hk.look;unfold Ag at lk;cases hd:gb kd with
 |none=>
  rw[hd]at lk ON;have N8:∀{z:AV},_=some (AV.dh [z,.bool false],fR.aq):=@lk;have z2:∀{k:af},Ext (h++[ai.cells fi true false]) k->k[h.length]? =some (.cells fi true false):=λe=>e.some (by rw[To (Ts _)];simp)
  have s2:∀{k:af},Ext (h++[ai.cells fi true false]) k->bB 5 (.ptr h.length 0) (.agg [.int .i64 0,.str [],.ah,.ah,.str []]) (λz=>k[z]?)=some (ar,.set h.length (.cells fi true false)):=λe=>by rw[aX (z2 e)];rfl
  have l2:∀{k:af},Ext (h++[ai.cells fi true false]) k->au (some 5) (.ptr h.length 0) (λz=>k[z]?)=some (.agg fi,.aq):=λe=>by rw[az (z2 e)];rfl
  have sq:∀{k:af},Ext (h++[ai.cells fi true false]) k->k.set h.length (.cells fi true false)=k:=λ{k} e=>by
   have:=z2 e;exact z76
  refine Rs (A8 t0 @bn @N8 @fP @TW @s2 @sq @l2) ?_;exact⟨Xx,⟨jE,.ah,.ah⟩,by rw[ON],by rw[ON];rfl,.nil,.nil⟩
 |some d=>
  rw[hd]at lk ON;have N8:∀{z:AV},_=some (AV.dh [vf d,.bool true],fR.aq):=@lk;obtain⟨rs,a,hv,hr,ha,hab⟩:=(hk.k d).ex;rw[hv]at N8;have hlr:=hr.bh;have c1:=j6 d;have c2:=jJ d;have c3:=hr.one;have h3:(bV d).length<=3/\cO d<=3:=by cases d<;>decide
  refine Rs (A8 t0 @bn @N8 @TU @c1 @c2 @c3 @ha) ?_;rw[Ou];obtain⟨kb,hkb⟩:∃kb,kb=ai.cells [rs,.int .i64 (cO d:Nat),iD d,mR d,a] true false:=⟨_,rfl⟩;obtain⟨b8,hb8⟩:∃b8,b8=(h++[ai.cells fi true false]++[fA Pq OG]++[ai.cells [.int .i64 0,.str kd,.ah,.ah,.str []] true false]++g2).length:=⟨_,rfl⟩;rw[<-hkb,<-hb8];have eh:h++[ai.cells fi true false]++[fA Pq OG]++[ai.cells [.int .i64 0,.str kd,.ah,.ah,.str []] true false]++g2++[kb]=A++[fA Pq OG]++([Ag kd .ah .ah]++g2++[kb]):=by rw[hA];unfold Ag;simp
  rw[eh];have o:sa A kd b8 kb Pq OG ws2 .ah .ah [] [] ([Ag kd .ah .ah]++g2++[kb]):=by
   refine⟨?_,?_,?_,Ob,hwl2,.nil,.nil,λi hi=>(by cases hi),λi hi=>(by cases hi),λi hi=>(by cases hi)⟩
   ·rw[To Si];simp
   ·rw[<-eh,hb8,To (Ts _),Uf];rfl
   ·rw[hb8,hAl];simp only[Tg,TC];omega
  refine KB T Z (nN:=(bV d).length) (vN:=cO d) hA hkb Om hlr Om o (Sq t0) (Sq t0) ?_ ?_ ?_ ?_ (Sq t0) ?_
  all_goals first|(rw[ON,iC hd];done)|skip
  ·refine Zs t0 ?_;rw[hA];rfl
  ·refine Zs t0 ?_;rw[hA];rfl
  ·refine Zs t0 ?_;rw[hA];rfl
  ·refine Zs t0 ?_;rw[hA];simp
end
def qi{c s n}(hs:s.length<=n):∀x∈aY c s,x.length<=n:=λx hx=>Ur (qk x hx) hs
theorem pF{c}:∀{s},(dN c s).1.length<=s.length/\(dN c s).2.1.length<=s.length
 |[]=>⟨Ts _,Ts _⟩
 |x::r=>by
  have ih:=pF (c:=c) (s:=r);rw[dN];split
  ·simp
  ·simp only[Tl];omega
def Ds{h G:af}{X Y:ai}{j:Nat}(hj:j≠h.length):(h++([X]++G))[j]? =(h++([Y]++G))[j]? :=by
 rw[<-Ti,<-Ti];exact od hj
section
variable {P:Program}(T:dB P) {h:af}
include T
def r99(X:AM P)(Z:nY P)(w:Pw h)(s:By)(hsl:s.length<=2^38)(n:Int):ao P 99 [.str s,.i n] h (λv k=>∃x:EV,x.ev=(eQ s n).1/\v=.dh [.agg x.row,.i (eQ s n).2]/\Fr h.length k x.sn 1 (x.ev.names.map an)/\Fr h.length k x.sv 1 (x.ev.cK.map aB)):=by
 refine .dU 83 T.mix T.c99 ?_;intro ts hlen t0 t1;unfold fn99 gA;have w1:IntKind.i64.wrap ((s.length:Int)-7)=(s.length:Int)-7:=aR Om Om;have w2:IntKind.i64.wrap ((s.length:Int)-7-1)=(s.length:Int)-8:=by rw[aR Om Om];omega
 have s2:=@HN h;have l2:=@HP h;have sq:=@HO h;have bad:∀{c:Int}{k:af},eQ s n=(jE,c)->Ext h k->(Ext h k/\∃x:EV,x.ev=(eQ s n).1/\AV.dh [.agg [.i 0,.str [],.ah,.ah,.str []],.i c]=.dh [.agg x.row,.i (eQ s n).2]/\Fr h.length k x.sn 1 (x.ev.names.map an)/\Fr h.length k x.sv 1 (x.ev.cK.map aB)):=
  λhe e=>⟨e,⟨jE,.ah,.ah⟩,by rw[he],by rw[he];rfl,.nil,.nil⟩
 by_cases h8:s.length<8
 ·have d1:decide ((s.length:Int)-8<0)=true:=Tq Om;refine Rs (A8 t0 t1 @w1 @w2 @d1 @s2 @l2 @sq) ?_;exact(bad (by rw[eQ,Ty h8]) Xx).2
 have d1:decide ((s.length:Int)-8<0)=false:=Tm Om;have ea:(s.length:Int)-8=((s.length-8:Nat):Int):=Om
 rw[ea]at w2 d1;have hlt:s.length-8<s.length:=Om
 have w3:IntKind.i64.wrap (((s.length-8:Nat):Int)+1)=((s.length-7:Nat):Int):=by rw[aR Om Om];omega
 have gd:s.getD (s.length-8) 0=s[s.length-8]:=by rw[TF,Tk hlt];rfl
 by_cases hh:s[s.length-8]=35
 case neg=>
  have d2:decide ((s[s.length-8].toNat:Int)≠35)=true:=Tq λe=>hh (UInt8.toNat_inj.1 (by simpa using (by omega:s[s.length-8].toNat=35)))
  repeat (first|simp (config:={maxSteps:=1000000}) only[bx,bo,bL,bM,reduceAdd,reduceMul,reduceLeDiff,reduceEqDiff,bP,hlen,TT,TQ,t0,t1,w1,w2,d1,jK hlt,d2,s2,l2,sq]|simp (config:={maxSteps:=1000000}) (disch:=first|(simp only[Tg,Tl,Tr]<;>omega)|rfl|omega|fail) only[gL,bx,bo,bL,bM,reduceAdd,reduceMul,reduceLeDiff,reduceEqDiff,bP,hlen,TT,TQ,t0,t1,w1,w2,d1,jK hlt,d2,s2,l2,sq])
  exact(bad (by rw[eQ,Tt h8,Ty (.inl (by rw[gd];exact hh))]) Xx).2
 have d2:decide ((s[s.length-8].toNat:Int)≠35)=false:=Tm (by rw[hh];decide)
 repeat (first|simp (config:={maxSteps:=1000000}) only[bx,bo,bL,bM,reduceAdd,reduceMul,reduceLeDiff,reduceEqDiff,bP,hlen,TT,TQ,t0,t1,w1,w2,d1,jK hlt,d2,w3,iQ (show s.length-7<=s.length by omega)]|simp (config:={maxSteps:=1000000}) (disch:=first|(simp only[Tg,Tl,Tr]<;>omega)|rfl|omega|fail) only[gL,bx,bo,bL,bM,reduceAdd,reduceMul,reduceLeDiff,reduceEqDiff,bP,hlen,TT,TQ,t0,t1,w1,w2,d1,jK hlt,d2,w3,iQ (show s.length-7<=s.length by omega)])
 refine WF.ce T.c189 (r189 T _ (by rw[Vy];omega)) λg1=>?_
 cases hd:pE (s.drop (s.length-7))with
 |false=>
  refine Rs (A7 t0 t1 @hd @TW @s2 @l2 @sq) ?_;exact(bad (by rw[eQ,Tt h8,Ty (.inr (by rw[hd];simp))]) Xx).2
 |true=>
 repeat (first|simp (config:={maxSteps:=1000000}) only[bx,bo,bL,bM,reduceAdd,reduceMul,reduceLeDiff,reduceEqDiff,bP,hlen,TT,TQ,t0,t1,hd,TU,oK (show s.length-8<=s.length by omega)]|simp (config:={maxSteps:=1000000}) (disch:=first|(simp only[Tg,Tl,Tr]<;>omega)|rfl|omega|fail) only[gL,bx,bo,bL,bM,reduceAdd,reduceMul,reduceLeDiff,reduceEqDiff,bP,hlen,TT,TQ,t0,t1,hd,TU,oK (show s.length-8<=s.length by omega)])
 have Qj:∀{α:Type}{a b:α},(if s.getD (s.length-8) 0≠35\/¬pE (s.drop (s.length-7))=true then a else b)=b:=λ{_ _ _}=>Tt (by rw[gd,hd];simp[hh])
 refine WF.ce T.c187 (r187 T Z _ (by rw[UB];omega) (w.ext Xx)) λg2=>?_
 by_cases hc:lh (s.take (s.length-8))=s.drop (s.length-7)
 case neg=>
  have d3:decide (lh (s.take (s.length-8))≠s.drop (s.length-7))=true:=Tq hc
  repeat (first|simp (config:={maxSteps:=1000000}) only[bx,bo,bL,bM,reduceAdd,reduceMul,reduceLeDiff,reduceEqDiff,bP,hlen,TT,TQ,t0,t1,w3,iQ (show s.length-7<=s.length by omega),d3,s2,l2,sq]|simp (config:={maxSteps:=1000000}) (disch:=first|(simp only[Tg,Tl,Tr]<;>omega)|rfl|omega|fail) only[gL,bx,bo,bL,bM,reduceAdd,reduceMul,reduceLeDiff,reduceEqDiff,bP,hlen,TT,TQ,t0,t1,w3,iQ (show s.length-7<=s.length by omega),d3,s2,l2,sq])
  exact(bad (by rw[eQ,Tt h8,Qj,Ty hc]) Xx).2
 have d3:decide (lh (s.take (s.length-8))≠s.drop (s.length-7))=false:=Tm (λz=>z hc);have hes:eQ s n=if !fT (dN 32 (s.take (s.length-8))).1 || !(du (aY 32 (dN 32 (s.take (s.length-8))).2.1)).2||decide (eS { (du (aY 32 (dN 32 (s.take (s.length-8))).2.1)).1 with num:=ju (dN 32 (s.take (s.length-8))).1}≠0)then(jE,25)else({ (du (aY 32 (dN 32 (s.take (s.length-8))).2.1)).1 with num:=ju (dN 32 (s.take (s.length-8))).1},bz (decide (ju (dN 32 (s.take (s.length-8))).1≠n)) 11):=(Tt h8).trans (Qj.trans (Tt (λz=>z hc)))
 have htl:(s.take (s.length-8)).length<=2^38:=by rw[UB];omega
 have hcl:=pF (c:=32) (s:=s.take (s.length-8))
 repeat (first|simp (config:={maxSteps:=1000000}) only[bx,bo,bL,bM,reduceAdd,reduceMul,reduceLeDiff,reduceEqDiff,bP,hlen,TT,TQ,t0,t1,w3,iQ (show s.length-7<=s.length by omega),d3,oK (show s.length-8<=s.length by omega)]|simp (config:={maxSteps:=1000000}) (disch:=first|(simp only[Tg,Tl,Tr]<;>omega)|rfl|omega|fail) only[gL,bx,bo,bL,bM,reduceAdd,reduceMul,reduceLeDiff,reduceEqDiff,bP,hlen,TT,TQ,t0,t1,w3,iQ (show s.length-7<=s.length by omega),d3,oK (show s.length-8<=s.length by omega)])
 refine WF.ce T.c98 (r98 T X _ 32 Om) λg3=>?_
 generalize hq1:(dN 32 (s.take (s.length-8))).1=a1 at hes hcl ⊢;generalize hq2:(dN 32 (s.take (s.length-8))).2.1=a2 at hes hcl ⊢;refine Rs (A2 t0 t1) ?_;refine WF.ce T.c190 (r190 T Z a1 Om) λg4=>?_
 refine Rs (A2 t0 t1) ?_;refine WF.res T.c64 (r64 T X a2 32 Om) ?_;intro v g5 hv;refine Rs (A2 t0 t1) ?_;have PR:=sV (aY 32 a2);refine WF.res T.c111 (r111 T Z hv (qi Om)) ?_;rintro _ g6 ⟨x,hx,rfl,fn,fv⟩;have ox:a8 _ x:=⟨fn.aN,fv.aN⟩;rw[<-hx]at hes PR;generalize (du (aY 32 a2)).2=fm at hes ⊢;obtain⟨x',NL⟩:∃x':EV,x' =⟨{x.ev with num:=ju a1},x.sn,x.sv⟩:=⟨_,rfl⟩;have Oe:x'.sn=x.sn:=by rw[NL]
 have hsv:x'.sv=x.sv:=by rw[NL]
 have hnm:x'.ev.names=x.ev.names:=by rw[NL]
 have OJ:x'.ev.cK=x.ev.cK:=by rw[NL]
 have hrow:x'.row=x.row.set 0 (.i (ju a1)):=by rw[NL];rfl
 have hev:({x.ev with num:=ju a1}:db)=x'.ev:=by rw[NL]
 rw[hev]at hes;have OI:eQ s n=if !fT a1 || !fm||decide (eS x'.ev≠0)then(jE,25)else(x'.ev,bz (decide (ju a1≠n)) 11):=hes
 rw[<-Oe,<-hnm]at fn;rw[<-hsv,<-OJ]at fv;have RS:a8 _ x':=⟨fn.aN,fv.aN⟩;have st:∀{b':Nat}{a0 a1 a2 a3 a4:AV},iP 5 0 (.agg x.row) b' (.b [a0,a1,a2,a3,a4])=some (ar,.set b' (.b x.row)):=λ{_ _ _ _ _ _}=>ox.st
 have mG:∀{b':Nat},iP 1 0 (.i (ju a1)) b' (.b x.row)=some (ar,.set b' (.b x'.row)):=λ{b'}=>by
  rw[hrow];exact dR rfl (by show 0+1<=5;omega)
 cases hdg:fT a1 with
 |false=>
  rw[hdg]at OI;refine Rs (A9 t0 t1 @st @mG @cA @TW @s2 @l2 @sq) ?_;exact Ee
 |true=>
 cases fm with
 |false=>
  rw[hdg]at OI;refine Rs (yD t0 t1 @st @mG @cA @TW @TU @s2 @l2 @sq) ?_;exact Ee
 |true=>
 rw[hdg]at OI;refine Rs (A7 t0 t1 @st @mG @cA @TW @TU) ?_;refine WF.ce T.c67 (r67 T (RS.ext Xx) ⟨by rw[hnm];omega,by rw[OJ];omega⟩) λg7=>?_
 by_cases hck:eS x'.ev=0
 case neg=>
  have d4:decide (eS x'.ev≠0)=true:=Tq hck;rw[d4]at OI;refine Rs (A6 t0 t1 @d4 @s2 @l2 @sq) ?_;exact Ee
 have d4:decide (eS x'.ev≠0)=false:=Tm (λz=>z hck);rw[d4]at OI;have key:∀{k:af}{W:af},a8 W x'->Ext (h++[ai.b [.i 0,.str [],.ah,.ah,.str []]]) W->Ext W k->bB 5 (.ptr h.length 0) (.agg x'.row) (λz=>k[z]?)=some (ar,.set h.length (.b x'.row)):=λo e1 e2=>HM (o.ext e2) (e1.trans e2)
 have sx:=λ{k:af}=>@key k _ RS Xx
 have ly:=@HL h;refine Rs (A4 t0 t1 @d4 @cA) ?_;refine WF.ce T.c85 (r85 T _ _) λg8=>?_
 have fn3:=((fn.app [ai.b x'.row]).app g7).app g8;have fv3:=((fv.app [ai.b x'.row]).app g7).app g8;refine Rs (A4 t0 t1 @sx @ly) ?_;refine⟨Xx,x',by rw[OI];rfl,by rw[OI];rfl,(fn3.ay λj hj=>?_).low ?_,(fv3.ay λj hj=>?_).low ?_⟩
 ·simp only[Ti];refine Ds λe=>?_
  have:=(fn3.bN hj).1;simp only[Tg,TC]at this;omega
 ·exact GK
 ·simp only[Ti];refine Ds λe=>?_
  have:=(fv3.bN hj).1;simp only[Tg,TC]at this;omega
 ·exact GK
end
end Go.Abs
