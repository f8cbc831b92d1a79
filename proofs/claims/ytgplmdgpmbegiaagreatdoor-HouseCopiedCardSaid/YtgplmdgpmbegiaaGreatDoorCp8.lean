/- A part of the proof that HouseCopied holds. No condition. -/
import Derived.Test.YtgplmdgpmbegiaaGreatDoorCp7
import Derived.Lib.Bytealg
import Derived.Test.YtgplmdgpmbegiaaGreatDoorCp6
import Derived.Lib.ItoaNum
import Derived.Lib.ItoaLen
import Derived.Lib.ItoaMem
import Derived.Lib.Join
import Derived.Test.YtgplmdgpmbegiaaGreatDoorCp0
set_option maxHeartbeats 4000000
set_option linter.all false
open Nat (reduceAdd reduceMul reduceLeDiff reduceEqDiff)
namespace Go.Abs
theorem qY:∀(l m:List ed) (H:hO) (i:Nat),fD H (l++m) i=if(fD H l i).2.2≠0 then fD H l i else fD (fD H l i).1 m (i+l.length)
 |[],m,H,i=>by simp[fD]
 |e::l,m,H,i=>by
  rw[Z5,fD,fD];by_cases h:eC H e≠0
  ·simp only[Zb h]
  ·simp only[Y6 h];rw[qY l m (iS H e) (i+1)];have:i+1+l.length=i+(e::l).length:=by simp only[YV];omega
   rw[this]
def zK{l:List ed}{e:ed}(h:(aP l).2.2=0)(hl:l.length<1000):aP (l++[e])=if eC (aP l).1 e≠0 then(hO.zero,(l.length:Int)+1,eC (aP l).1 e)else(iS (aP l).1 e,0,0):=by
 have e1:aP l=fD hO.zero l 0:=by rw[aP,Y6 Om]
 have e2:aP (l++[e])=fD hO.zero (l++[e]) 0:=by rw[aP,Y6 (by simp;omega)]
 rw[e2,qY,<-e1,Y6 (λz=>z h),fD,ZN];rfl
def iw(R:eM):List ed->List eM
 |[]=>[]
 |e::l=>jP R e (kH e)::iw (jP R e (kH e)) l
def Gi(R:eM):List ed->Prop
 |[]=>True
 |e::l=>(∃d,ko e d/\d≠.eF)/\fY R e (kH e)=0/\Gi (jP R e (kH e)) l
theorem lD:∀(l:List ed) (R:eM) (e:ed),iw R (l++[e])=iw R l++[jP ((iw R l).getLastD R) e (kH e)]
 |[],R,e=>rfl
 |x::l,R,e=>by
  rw[Z5,iw,iw,lD l,List.getLastD_cons];rfl
theorem rj:∀(l:List ed) (R:eM) (e:ed),Gi R (l++[e])↔Gi R l/\(∃d,ko e d/\d≠.eF)/\fY ((iw R l).getLastD R) e (kH e)=0
 |[],R,e=>by simp[Gi,iw]
 |x::l,R,e=>by
  rw[Z5,Gi,Gi,rj l,iw,List.getLastD_cons];exact⟨λ⟨a,b,c,d,f⟩=>⟨⟨a,b,c⟩,d,f⟩,λ⟨⟨a,b,c⟩,d,f⟩=>⟨a,b,c,d,f⟩⟩
def kr{α:Type}(l:List α):l=[]\/∃m x,l=m++[x]:=by
 rcases List.eq_nil_or_concat l with h|⟨m,x,h⟩
 ·exact .inl h
 ·exact .inr ⟨m,x,by rw[h,List.concat_eq_append]⟩
structure GR(H:hO):Prop where
 rg:H.cJ=iw eM.zero H.eV
 ok:Gi eM.zero H.eV
theorem GR.zero:GR hO.zero:=⟨rfl,trivial⟩
def GR.add{H:hO}{e:ed}(c:GR H)(w:kO H)(h:eC H e=0):GR (iS H e):=by
 obtain⟨h1,h2⟩:=yj h;obtain⟨d,we⟩:=rL h1;obtain⟨h3,h4,h5⟩:=yo h2;unfold iS;split
 case isTrue hu=>
  rcases kr H.eV with hn|⟨m,x,hm⟩
  ·exact absurd hn (h4 hu)
  ·have e1:=c.rg;have e2:=c.ok;rw[hm,lD]at e1;rw[hm,rj]at e2;exact⟨by rw[e1,hm,List.dropLast_concat,List.dropLast_concat],by rw[hm,List.dropLast_concat];exact e2.1⟩
 case isFalse hu=>
  have Un:H.now=(iw eM.zero H.eV).getLastD eM.zero:=by rw[hO.now,c.rg]
  refine⟨?_,?_⟩
  ·show H.cJ++_=iw eM.zero (H.eV++[e]);rw[lD,<-Un,c.rg]
  ·show Gi eM.zero (H.eV++[e]);rw[rj,<-Un];exact⟨c.ok,⟨d,we,λz=>hu (by rw[we.kH,z])⟩,h5 hu⟩
theorem yL:∀(l:List ed) (H:hO) (i:Nat),GR H->kO H->(fD H l i).2.2=0->GR (fD H l i).1/\kO (fD H l i).1
 |[],H,_,c,w,_=>⟨c,w⟩
 |e::l,H,i,c,w,h=>by
  rw[fD]at h ⊢;by_cases hb:eC H e=0
  ·rw[Y6 (λz=>z hb)]at h ⊢;exact yL l _ _ (c.add w hb) (w.add hb) h
  ·rw[Zb hb]at h;exact absurd h hb
def D1{l:List ed}(h:(aP l).2.2=0):GR (aP l).1/\kO (aP l).1:=by
 unfold aP at h ⊢;split at h
 ·exact absurd h De
 case isFalse hl=>
 rw[Y6 hl];exact yL l _ _ .zero .zero h
def ia(l:List ed)(n:Int):Bool:=decide ((l.length:Int)<=n)&&l.all λe=>decide (e.kind.length<=40)&&decide (e.names.length<=6)&&decide (e.cB.length<=8)&&decide (e.text.length<=200)&&e.names.all λx=>decide (x.length<=40)
def bJ(c:UInt8):By->List (By)
 |[]=>[[]]
 |x::r=>
  if x=c then []::bJ c r
  else match bJ c r with
   |p::ps=>(x::p)::ps
   |[]=>[[x]]
def jW{c:UInt8}:∀{s:By},bJ c s≠[]
 |[]=>by simp[bJ]
 |x::r=>by
  unfold bJ;split
  ·simp
  ·split<;>simp
theorem sR{c:UInt8}:∀{s:By},c∉s->bJ c s=[s]
 |[],_=>rfl
 |x::r,h=>by
  unfold bJ;rw[Y6 (λe=>h (by simp[e])),sR (λhr=>h (ZG _ hr))]
theorem qQ{c:UInt8}{q:By}:∀{p:By},c∉p->bJ c (p++c::q)=p::bJ c q
 |[],_=>by simp[bJ]
 |x::r,h=>by
  rw[Z5,bJ,Y6 (λe=>h (by simp[e])),qQ (λhr=>h (ZG _ hr))]
theorem qP{c:UInt8}:∀{s:By},(bJ c s).length=s.count c+1
 |[]=>rfl
 |x::r=>by
  have ih:=qP (c:=c) (s:=r);unfold bJ;by_cases h:x=c
  ·subst h;rw[Zb rfl,YV,ih,List.count_cons_self]
  ·rw[Y6 h,List.count_cons_of_ne h];cases hs:bJ c r with
   |nil=>exact absurd hs jW
   |cons p ps=>rw[hs]at ih;simpa using ih
theorem sS{c:UInt8}:∀{s:By},∀p∈bJ c s,p.length<=s.length
 |[]=>by simp[bJ]
 |x::r=>by
  have ih:=sS (c:=c) (s:=r);intro p hp;unfold bJ at hp;rw[YV];by_cases h:x=c
  ·rw[Zb h]at hp;rcases ZC.1 hp with rfl|hp
   ·simp
   ·have:=ih p hp;omega
  ·rw[Y6 h]at hp;cases hs:bJ c r with
   |nil=>exact absurd hs jW
   |cons q qs=>
    rw[hs]at hp ih;rcases ZC.1 hp with rfl|hp
    ·have:=ih q Si;rw[YV];omega
    ·have:=ih p (by simp[hp]);omega
def jz(c:UInt8):List (By)->By
 |[]=>[]
 |[p]=>p
 |p::ps=>p++c::jz c ps
def nq{c:UInt8}{p:By}{r:List (By)}(h:r≠[]):jz c (p::r)=p++c::jz c r:=by
 cases r with
 |nil=>exact absurd rfl h
 |cons=>rfl
theorem jL{c:UInt8}:∀{s:By},jz c (bJ c s)=s
 |[]=>rfl
 |x::r=>by
  have ih:=jL (c:=c) (s:=r);unfold bJ;by_cases h:x=c
  ·subst h;rw[Zb rfl];cases hs:bJ x r with
   |nil=>exact absurd hs jW
   |cons p ps=>rw[hs]at ih;rw[jz,ih]<;>simp
  ·rw[Y6 h];cases hs:bJ c r with
   |nil=>exact absurd hs jW
   |cons p ps=>
    rw[hs]at ih;cases ps with
    |nil=>rw[jz]at ih ⊢;rw[ih]
    |cons q qs=>
     rw[jz]at ih ⊢<;>first|(rw[<-ih];rfl)|simp
theorem Gr{c:UInt8}:∀{s:By},c∉s->Lib.indexByte s c= -1
 |[],_=>rfl
 |x::r,h=>by
  unfold Lib.indexByte;have h1:(x==c)=false:=by simp;exactλe=>h (by simp[e])
  rw[h1,Gr (λhr=>h (ZG _ hr))];rfl
theorem Co{c:UInt8}{q:By}:∀{p:By},c∉p->Lib.indexByte (p++c::q) c=p.length
 |[],_=>by simp[Lib.indexByte]
 |x::r,h=>by
  have ih:=Co (q:=q) (λhr=>h (ZG _ hr):c∉r);rw[Z5,Lib.indexByte];have h1:(x==c)=false:=by simp;exactλe=>h (by simp[e])
  rw[h1,ih];have h2:((r.length:Int) == -1)=false:=Si
  rw[h2];simp
def vS(c:UInt8)(s:By):(c∉s/\Lib.indexByte s c= -1)\/∃p q,c∉p/\s=p++c::q/\Lib.indexByte s c=p.length:=by
 by_cases h:c∈s
 ·right
  obtain⟨p,q,rfl,hp⟩:=List.eq_append_cons_of_mem h;exact⟨p,q,hp,rfl,Co hp⟩
 ·exact .inl ⟨h,Gr h⟩
def CD(s:By):Int:=s.foldl (λn c=>10*n+((c.toNat:Int)-48)) 0
def iY(s:By):Bool:=!decide (s.length=0)&&decide (s.length<=9) && !(decide (1<s.length)&&decide (s.head? =some 48))&&s.all fe
def rI(s:By):Bool:=!decide (s=[])&&s.all fe
def kZ(s:By):Int:=if iY s then CD s else 0
def EL:Nat->Nat->By
 | 0,u=>[UInt8.ofNat (48+u)]
 |f+1,u=>
  match Nat.blt u 10 with
  |true=>[UInt8.ofNat (48+u)]
  |false=>EL f (u / 10)++[UInt8.ofNat (48+u%10)]
theorem y9:∀(f u:Nat),u<10^(f+1)->EL f u=Lib.decDigits u
 | 0,u,h=>by rw[Lib.decDigits,dif_pos (by simpa using h)];rfl
 |f+1,u,h=>by
  unfold EL;cases hb:Nat.blt u 10 with
  |true=>rw[Lib.decDigits,dif_pos (by rw[Nat.blt_eq]at hb;exact hb)]
  |false=>
   have hn:¬u<10:=λx=>by rw[<-Nat.blt_eq,hb]at x;cases x
   rw[Lib.decDigits,dif_neg hn,y9 f (u / 10) (by rw[Nat.pow_succ]at h;omega)]
def jM(n:Int):By:=EL n.toNat n.toNat
def kL(n:Int):jM n=Lib.decDigits n.toNat:=y9 _ _ (Nat.lt_trans (Nat.lt_succ_self _) (Nat.lt_pow_self De))
def iP(s:By):Int:=s.foldl (λx c=>(339*x+(c.toNat:Int)).tmod 9999749) 1
def nH(s:By):By:=List.replicate (7-(jM (iP s)).length) 48++jM (iP s)
def wD(e:ed):List (By):=[jM e.num,e.kind]++e.names++e.cB.map jM
def iZ(e:ed):By:=jz 32 (wD e)
def vp(e:ed):By:=iZ e++[35]++nH (iZ e)++[10]
def vJ(l:List ed):By:=(l.map vp).flatten
def bR:List (By)->Bool->By×List (By)×Bool
 |[],_=>([],[],true)
 |w::r,wr=>if w=[]then([],[],true)else(w,r,wr)
def da:Nat->List (By)->Bool->List (By)×List (By)×Bool
 | 0,ws,b=>([],ws,b)
 |n+1,ws,b=>((bR ws b).1:: (da n (bR ws b).2.1 (bR ws b).2.2).1,(da n (bR ws b).2.1 (bR ws b).2.2).2)
def fx:Nat->List (By)->Bool->List Int×List (By)×Bool
 | 0,ws,b=>([],ws,b)
 |n+1,ws,b=>(kZ (bR ws b).1:: (fx n (bR ws b).2.1 ((bR ws b).2.2 || !iY (bR ws b).1)).1,(fx n (bR ws b).2.1 ((bR ws b).2.2 || !iY (bR ws b).1)).2)
def lG:ed:=⟨0,[],[],[],[]⟩
def eA(ws:List (By)):ed×Bool:=
 match gT (bR ws false).1 with
 |none=>(lG,false)
 |some d=>
  let n:=da (bK d).length (bR ws false).2.1 (bR ws false).2.2
  let v:=fx (cC d) n.2.1 n.2.2
  (⟨0,bh d,n.1,v.1,[]⟩,!v.2.2&&decide (v.2.1.length=0))
def ff(c:UInt8):By->By×By×Bool
 |[]=>([],[],false)
 |x::r=>if x=c then([],r,true)else(x:: (ff c r).1,(ff c r).2)
def fN(s:By)(n:Int):ed×Int:=
 if s.length<8 then(lG,25)else
 if s.getD (s.length-8) 0≠35\/¬rI (s.drop (s.length-7))=true then(lG,25)else
 if nH (s.take (s.length-8))≠s.drop (s.length-7)then(lG,27)else
 let h:=ff 32 (s.take (s.length-8))
 let e:=eA (bJ 32 h.2.1)
 if !iY h.1 || !e.2||decide (gV {e.1 with num:=kZ h.1}≠0)then(lG,25)else
 ({e.1 with num:=kZ h.1},bZ (decide (kZ h.1≠n)) 11)
def rf:Nat->By->List ed->Nat->List ed×Int×Int
 | 0,_,l,a=>(l,(a:Int),0)
 |f+1,s,l,a=>
  if s=[]then(l,(a:Int),0)else
  if !(ff 10 s).2.2 then(l,(a:Int),28)else
  let e:=fN (ff 10 s).1 ((l.length:Int)+1)
  if e.2≠0 then(l,(a:Int),e.2)else rf f (ff 10 s).2.1 (l++[e.1]) (a+(ff 10 s).1.length+1)
def lE(s:By):List ed×Int×Int:=if 1000000<s.length then([],0,26)else rf (s.length+1) s [] 0
def kX(w:By):Option (Nat×Bool×Nat):=
 if w=[108,101,102,116]then some (0,true,4)else
 if w=[102,114,111,109]then some (1,true,5)else
 if w=[108,105,110,101,115]then some (2,true,3)else
 if w=[117,110,115,97,102,101]then some (3,false,2)else
 if w=[116,97,112,101,115]then some (4,true,2)else
 if w=[114,101,108,101,97,115,101,100]then some (5,false,5)else
 if w=[119,97,110,116]then some (6,true,0)else none
def sd(l:List qo):List (By):=(l.map λp=>if p.rel then [p.name,jM p.nA]else []).flatten
def kM(R:eM)(n:By):Nat->List (By)
 | 0=>(cW (gE R n).bB 0).map jM
 | 1=>s9 R n
 | 2=>(jd R n).map gZ.name
 | 3=>fj R R.tick
 | 4=>(kV R n).aB
 | 5=>sd R.aN
 |_=>[jM (tZ R n).length,jM (du R n).want,if(du R n).acc then [97,99,99,101,112,116,101,100]else [111,112,101,110]]
def ym(l:List (By)):By:=if l=[]then [110,111,110,101]else jz 32 l
def nD(R:eM)(ws:List (By))(q:Nat×Bool×Nat):By×Int:=
 let n:=if q.2.1=true/\ws.length=2 then ws.getD 1 []else []
 if(q.2.1=true/\¬(ws.length=2/\n≠[]))\/(q.2.1=false/\ws.length≠1)then([],25)else
 if q.2.1=true/\dC R q.2.2 n=false then([],10)else(ym (kM R n q.1),0)
def Ae(H:hO)(s:By):hO×By×Int:=
 if 4096<s.length then(H,[],26)else
 if s=[]then(H,[],25)else
 match kX ((bJ 32 s).headD [])with
 |some q=>(H,nD H.now (bJ 32 s) q)
 |none=>
  match gT ((bJ 32 s).headD [])with
  |none=>(H,[],13)
  |some _=>
   if !(eA (bJ 32 s)).2 then(H,[],25)else
   if 1000<=H.c8.length then(H,[],5)else
   let e:={ (eA (bJ 32 s)).1 with num:=(H.c8.length:Int)+1}
   if eC H e≠0 then(H,[],eC H e)else(iS H e,[100,111,110,101,32]++jM e.num,0)
structure C9(P:Program):Prop where
 ib:∀(args:Array Value) (w:World),(callFunc 288 args).run P w=((Extern.BytealgIndexByte.indexByte args).run P w).andThen λv w'=>.ok (.value v) w'
 ct:∀(args:Array Value) (w:World),(callFunc 262 args).run P w=((Extern.BytealgCount.count args).run P w).andThen λv w'=>.ok (.value v) w'
def Bg(c:UInt8):(c.toNat:Int).toNat.toUInt8=c:=Si
def qR{s}{n:Nat}{kk}(hn:n<=s.length):vc (.str s) none (some (.int kk (n:Int)))=some (.str (s.take n)):=by
 simp only[vc,iF hn,aag,Nat.sub_zero]
def ku{s}{n:Nat}{kk}(hn:n<=s.length):vc (.str s) (some (.int kk (n:Int))) none=some (.str (s.drop n)):=by
 simp only[vc,my hn];rw[ZE Si]
def tS{p r kk}:vc (.str (p++r)) none (some (.int kk (p.length:Int)))=some (.str p):=by
 rw[qR Si];simp
def nO{p r c kk}:vc (.str (p++c::r)) (some (.int kk ((p.length+1:Nat):Int))) none=some (.str r):=by
 rw[ku Si];simp
def yH{α:Type}{don:List α}{z q:α}{m k:Nat}(hk:don.length=k)(hm:0<m):(don++List.replicate m z).set k q=(don++[q])++List.replicate (m-1) z:=by
 subst hk;obtain⟨n,rfl⟩:∃n,m=n+1:=⟨m-1,Om⟩;rw[aav,ZV _ _ (Y9 _),Z2];simp
section
variable {P:Program}(X:C9 P) {h:ah}
include X
def NI(s:By)(c:UInt8):bF P (.func (.func 288) [] []) [.str s,.int .u8 c.toNat] h (λv h'=>v=.int .i64 (Lib.indexByte s c)/\h' =h):=by
 refine⟨_,[],?_,rfl,Si⟩;rw[Zr];intro m w cv vs hr hf hargs;rw[VR]at hf;obtain⟨f',a',c',rfl,hfn,ha,hc⟩:=hf;simp only[AP]at hfn;subst hfn;rw[bE]at ha hc;subst ha;subst hc;obtain⟨v1,vs1,rfl,h1,hargs⟩:=aO.1 hargs;obtain⟨v2,vs2,rfl,h2,hargs⟩:=aO.1 hargs;rw[bE]at hargs;subst hargs;have h1:v1=.string ⟨⟨s⟩⟩:=h1;have h2:v2=.int .u8 (c.toNat:Int):=h2;subst h1;subst h2;refine⟨_,λw=>rfl,?_⟩;simp only[invoke];rw[X.ib];have e:=Lib.run_indexByteString (P:=P) ⟨⟨s⟩⟩ (c.toNat:Int) w;rw[Bg]at e;have e':(Extern.BytealgIndexByte.indexByte (#[]++#[.string ⟨⟨s⟩⟩,.int .u8 (c.toNat:Int)]++#[])).run P w=.ok (.int .i64 (Lib.indexByte s c)) w:=by simpa using e
 exact QK
def NJ(s:By)(c:UInt8):bF P (.func (.func 262) [] []) [.str s,.int .u8 c.toNat] h (λv h'=>v=.int .i64 (s.count c:Nat)/\h' =h):=by
 refine⟨_,[],?_,rfl,Si⟩;rw[Zr];intro m w cv vs hr hf hargs;rw[VR]at hf;obtain⟨f',a',c',rfl,hfn,ha,hc⟩:=hf;simp only[AP]at hfn;subst hfn;rw[bE]at ha hc;subst ha;subst hc;obtain⟨v1,vs1,rfl,h1,hargs⟩:=aO.1 hargs;obtain⟨v2,vs2,rfl,h2,hargs⟩:=aO.1 hargs;rw[bE]at hargs;subst hargs;have h1:v1=.string ⟨⟨s⟩⟩:=h1;have h2:v2=.int .u8 (c.toNat:Int):=h2;subst h1;subst h2;refine⟨_,λw=>rfl,?_⟩;simp only[invoke];rw[X.ct];have e:=Lib.run_countString (P:=P) ⟨⟨s⟩⟩ (c.toNat:Int) w;rw[Bg]at e;have e':(Extern.BytealgCount.count (#[]++#[.string ⟨⟨s⟩⟩,.int .u8 (c.toNat:Int)]++#[])).run P w=.ok (.int .i64 (s.count c:Nat)) w:=by simpa [Lib.countByte]using e
 exact QK
end
attribute [local irreducible] WP WC WE WB WR WF WL WG fU
section
variable {P:Program}(T:fp P) (X:C9 P) {h:ah}
include T X
def r272(s:By)(c:UInt8):ay P 272 [.str s,.int .u8 c.toNat] h (λv _=>v=.int .i64 (Lib.indexByte s c)):=by
 refine .of T.mix T.c272 ?_;unfold fn272 KI;refine Wn ?_;refine WF.val (NI X s c) ?_;rintro _ g ⟨rfl,hg⟩;exact Wn Tv
def r221(s:By)(c:UInt8):ay P 221 [.str s,.str [c]] h (λv _=>v=.int .i64 (s.count c:Nat)):=by
 refine .of T.mix T.c221 ?_;unfold fn221 gA;simp only[aQ,aT,bo,bp,reduceAdd,reduceMul,reduceLeDiff,reduceEqDiff,Zp,show decide (((1:Nat):Int)=0)=false from rfl,show decide (((1:Nat):Int)=1)=true from rfl,vQ];refine WF.val (NJ X s c) ?_;rintro _ g ⟨rfl,hg⟩;exact Wn Tv
def r253(s:By)(c:UInt8):ay P 253 [.str s,.str [c]] h (λv _=>v=.int .i64 (Lib.indexByte s c)):=by
 refine .of T.mix T.c253 ?_;unfold fn253 gA;by_cases hs:[c]=s
 ·have d1:decide ([c]=s)=true:=YW hs;have e:Lib.indexByte s c=0:=by rw[<-hs];simp[Lib.indexByte]
  simp only[aQ,aT,bo,bp,reduceAdd,reduceMul,reduceLeDiff,reduceEqDiff,Zp,show decide (((1:Nat):Int)=0)=false from rfl,d1,e]
 ·have d1:decide ([c]=s)=false:=YS hs;simp only[aQ,aT,bo,bp,reduceAdd,reduceMul,reduceLeDiff,reduceEqDiff,Zp,show decide (((1:Nat):Int)=0)=false from rfl,show decide (((1:Nat):Int)=1)=true from rfl,d1,vQ];refine WF.ce T.c272 (r272 T X s c) λg=>?_
  exact Wn Tv
def r222(s:By)(c:UInt8):ay P 222 [.str s,.str [c]] h (λv _=>v=.int .i64 (Lib.indexByte s c)):=by
 refine .of T.mix T.c222 ?_;unfold fn222 gA;refine Wn ?_;refine WF.ce T.c253 (r253 T X s c) λg=>?_
 exact Wn Tv
set_option maxRecDepth 10000 in
def r128(s:By)(c:UInt8)(hs:s.length<=2^40):ay P 128 [.str s,.str [c],.int .i64 0,.int .i64 (-1)] h (λv h'=>aH h' v 1 ((bJ c s).map ao)):=by
 refine .of T.mix T.c128 ?_;obtain⟨ts,RG⟩:∃ts,ts=aR 66 [.str s,.str [c],.int .i64 0,.int .i64 (-1)]:=⟨_,rfl⟩;have hlen:ts.length=66:=by rw[RG];rfl
 have t0:slot ts 0=.str s:=by rw[RG];rfl
 have t1:slot ts 1=.str [c]:=by rw[RG];rfl
 have t2:slot ts 2=.int .i64 0:=by rw[RG];rfl
 have t3:slot ts 3=.int .i64 (-1):=by rw[RG];rfl
 unfold fn128 gA;show WC P bL _ [] (aR 66 [.str s,.str [c],.int .i64 0,.int .i64 (-1)]) h _;rw[<-RG];clear RG;have hcnt:s.count c<=s.length:=List.count_le_length;have w1:IntKind.i64.wrap ((s.count c:Int)+1)=((s.count c+1:Nat):Int):=by rw[bu Om Om];omega
 have w2:IntKind.i64.wrap ((s.length:Int)+1)=((s.length+1:Nat):Int):=by rw[bu Om Om];omega
 have e1:min ((s.count c+1:Nat):Int) ((s.length+1:Nat):Int)=((s.count c+1:Nat):Int):=Om
 have w3:IntKind.i64.wrap (((s.count c+1:Nat):Int)-1)=((s.count c:Nat):Int):=by rw[bu Om Om];omega
 have dn:decide ([c]=([] :By))=false:=YS Si;have d1:decide ((-1:Int)=0)=false:=rfl;have d2:decide (-1<(0:Int))=true:=rfl;refine Rs (A7 t0 t1 t2 t3 @dn @d1 @d2) ?_;refine WF.ce T.c221 (r221 T X s c) λg1=>?_
 repeat (first|simp (config:={maxSteps:=1000000}) only[aQ,aT,bo,bp,reduceAdd,reduceMul,reduceLeDiff,reduceEqDiff,bz,hlen,Zf,Zi,t0,t1,t2,t3,w1,w2,e1,w3,nW (es:=1) (w:=16) (N0:=(h++g1).length) (n:=s.count c+1) (z:=[AV.str []]) (k:=.i64) (k':=.i64) Om Om]|simp (config:={maxSteps:=1000000}) (disch:=first|(simp only[YP,YV,YX]<;>omega)|rfl|omega|fail) only[fc,aQ,aT,bo,bp,reduceAdd,reduceMul,reduceLeDiff,reduceEqDiff,bz,hlen,Zf,Zi,t0,t1,t2,t3,w1,w2,e1,w3,nW (es:=1) (w:=16) (N0:=(h++g1).length) (n:=s.count c+1) (z:=[AV.str []]) (k:=.i64) (k':=.i64) Om Om])
 have hF:=Fr.A1 (N:=h.length) (n:=s.count c+1) (h:=h++g1) (z:=[AV.str []]) (es:=1) Si rfl;obtain⟨sv,hsv⟩:∃sv,sv=AV.slice (h++g1).length 0 (s.count c+1) 1:=⟨_,rfl⟩;rw[<-hsv]at hF ⊢;have er:List.replicate (s.count c+1) [AV.str []]=(List.replicate (s.count c+1) ([] :By)).map ao:=by simp[ao]
 rw[er,YR]at hF;rw[YR];refine WL.inv T.mix (λn ts' h'=>∃(k:Nat) (don:List (By)) (q:By) (g':ah),don.length=k/\bJ c s=don++bJ c q/\k+q.count c=s.count c/\n=s.count c-k/\h' =h++g'/\Fr h.length h' sv 1 ((don++List.replicate (s.count c+1-k) ([] :By)).map ao)/\ts'.length=66/\slot ts' 0=.str q/\slot ts' 1=.str [c]/\slot ts' 2=.int .i64 0/\slot ts' 3=.int .i64 ((s.count c:Nat):Int)/\slot ts' 9=sv/\slot ts' 10=.int .i64 k) (s.count c)
  ⟨0,[],s,_,rfl,rfl,Om,rfl,rfl,hF,(Sq t0),(Sq t0),(Sq t1),(Sq t2),(Sq t0),(Sq t0),gM⟩ ?_
 rintro _ ts' _ ⟨k,don,q,g',hdl,V9,hkc,rfl,rfl,hF',S3,u0,u1,u2,u3,u9,XY⟩;clear hlen t0 t1 t2 t3;have hlen:=S3;have Wf:k<(don++List.replicate (s.count c+1-k) ([] :By)).length:=by simp;omega
 have hql:q.length<=s.length:=by
  have e1:=jL (c:=c) (s:=s);have:∀(d:List (By)) (z:List (By)),(jz c z).length<=(jz c (d++z)).length:=by
   intro d
   induction d with
   |nil=>intro z;exact Y9 _
   |cons x d ih=>
    intro z;by_cases hz:d++z=[]
    ·have:z=[]:=by simp at hz;exact hz.2
     subst this;simp[jz]
    ·rw[Z5,nq hz];have:=ih z;simp;omega
  have:=this don (bJ c q);rw[<-V9,jL,jL]at this;exact this
 rcases vS c q with⟨hno,hix⟩|⟨p,q',hp,hq,hix⟩
 ·have hc0:q.count c=0:=List.count_eq_zero.2 hno;have e3:¬(k:Int)<((s.count c:Nat):Int):=Om
  have ek:s.count c+1-k=1:=Om
  have ixk:=hF'.ba.dG (kk:=.i64) Wf;have w4:IntKind.i64.wrap ((k:Int)+1)=((k+1:Nat):Int):=by rw[bu Om Om];omega
  refine Rs (A9 @u0 @u1 @u2 @u3 @u9 @XY e3 @Zt @ixk) ?_;refine WR.vt (h0:=h) (off:=0) (x':=q) hF' Wf De rfl (by simp[ao]) ?_;intro g3 Yx XO _;rw[yH hdl Om,ek]at XO;simp only[Z2,abj,Zr]at XO;have esp:don++[q]=bJ c s:=by rw[V9,sR hno]
  rw[esp]at XO;have T4:jk none (some (AV.int .i64 ((k+1:Nat):Int))) (bJ c s).length=some (0,k+1):=iF (by rw[<-esp];simp;omega);obtain⟨s',es',RH⟩:=XO.ba.Dl T4;refine Rs (A8 @u0 @u1 @u2 @u3 @u9 @XY @w4 @es') ?_;have et:List.take (k+1-0) (List.drop 0 (bJ c s))=bJ c s:=by
   rw[aag,ZE (by rw[<-esp];simp;omega)]
  rw[et]at RH;exact RH
 ·have hcq:q.count c=q'.count c+1:=by rw[hq,List.count_append,List.count_eq_zero.2 hp,List.count_cons_self];omega
  have e3:(k:Int)<((s.count c:Nat):Int):=Om
  refine Rs (A8 @u0 @u1 @u2 @u3 @u9 @XY e3 @Zl) ?_;refine WF.ce T.c222 (r222 T X q c) λg2=>?_
  have ixk:=(hF'.app g2).ba.dG (kk:=.i64) Wf;have w4:IntKind.i64.wrap ((k:Int)+1)=((k+1:Nat):Int):=by rw[bu Om Om];omega
  have UR:p.length<q.length:=by rw[hq];simp
  have w5:IntKind.i64.wrap ((p.length:Int)+0)=(p.length:Int):=by rw[bu Om Om];omega
  have w6:IntKind.i64.wrap ((p.length:Int)+((1:Nat):Int))=((p.length+1:Nat):Int):=by rw[bu Om Om];omega
  have dp:decide ((p.length:Int)<0)=false:=YS Om;have hF2:=hF'.app g2;rw[YR]at hF2 ⊢;rw[hix];subst hq
  repeat (first|simp (config:={maxSteps:=1000000}) only[aQ,aT,bo,bp,reduceAdd,reduceMul,reduceLeDiff,reduceEqDiff,bz,hlen,Zf,Zi,u0,u1,u2,u3,u9,XY,dp,w5,ixk,tS,Zp,w6,nO]|simp (config:={maxSteps:=1000000}) (disch:=first|(simp only[YP,YV,YX]<;>omega)|rfl|omega|fail) only[fc,aQ,aT,bo,bp,reduceAdd,reduceMul,reduceLeDiff,reduceEqDiff,bz,hlen,Zf,Zi,u0,u1,u2,u3,u9,XY,dp,w5,ixk,tS,Zp,w6,nO])
  refine WR.vt (h0:=h) (off:=0) (x':=p) hF2 Wf De rfl (by simp[ao]) ?_;intro g3 Yx XO _;rw[yH hdl Om]at XO
  repeat (first|simp (config:={maxSteps:=1000000}) only[aQ,aT,bo,bp,reduceAdd,reduceMul,reduceLeDiff,reduceEqDiff,bz,hlen,Zf,Zi,u0,u1,u2,u3,u9,XY,Zp,w6,nO,w4]|simp (config:={maxSteps:=1000000}) (disch:=first|(simp only[YP,YV,YX]<;>omega)|rfl|omega|fail) only[fc,aQ,aT,bo,bp,reduceAdd,reduceMul,reduceLeDiff,reduceEqDiff,bz,hlen,Zf,Zi,u0,u1,u2,u3,u9,XY,Zp,w6,nO,w4])
  have em:s.count c+1-k-1=s.count c+1-(k+1):=Om
  rw[em]at XO;exact⟨s.count c-(k+1),Om,k+1,don++[p],q',g3,by simp[hdl],by rw[V9,qQ hp];simp,Om,rfl,rfl,XO,rfl,rfl⟩
def r64(s:By)(c:UInt8)(hs:s.length<=2^40):ay P 64 [.str s,.str [c]] h (λv h'=>aH h' v 1 ((bJ c s).map ao)):=by
 refine .of T.mix T.c64 ?_;unfold fn64 gA;refine Wn ?_;refine WF.res T.c128 (r128 T X s c hs) ?_;intro v g hv;refine Wn ?_;exact hv
omit T X in
theorem za{c}:∀{s},c∉s->ff c s=(s,[],false)
 |[],_=>rfl
 |x::r,h=>by
  simp only[ZC,not_or]at h;rw[ff,Y6 (λe=>h.1 e.symm),za h.2]
omit T X in
theorem wv{c}:∀{p q},c∉p->ff c (p++c::q)=(p,q,true)
 |[],q,_=>by rw[aaz,ff,Zb rfl]
 |x::r,q,h=>by
  simp only[ZC,not_or]at h;rw[Z5,ff,Y6 (λe=>h.1 e.symm),wv h.2]
def r188(s:By)(c:UInt8)(hs:s.length<=2^40):ay P 188 [.str s,.str [c]] h (λv _=>v=.dM [.str (ff c s).1,.str (ff c s).2.1,.bool (ff c s).2.2]):=by
 refine .of T.mix T.c188 ?_;unfold fn188 gA;refine Wn ?_;refine WF.ce T.c253 (r253 T X s c) λg=>?_
 rcases vS c s with⟨hno,hix⟩|⟨p,q,hp,hq,hix⟩
 ·refine Ws (A2 @hix (show decide ((0:Int)<=-1)=false from rfl)) ?_;rw[za hno]
 ·have d1:decide ((0:Int)<=(p.length:Int))=true:=YW Om;have UR:p.length<s.length:=by rw[hq];simp
  have w6:IntKind.i64.wrap ((p.length:Int)+((1:Nat):Int))=((p.length+1:Nat):Int):=by rw[bu Om Om];omega
  rw[hix];subst hq;simp only[aQ,aT,bo,bp,reduceAdd,reduceMul,reduceLeDiff,reduceEqDiff,d1,Zp,w6,tS,nO];rw[wv hp]
def r98(s:By)(c:UInt8)(hs:s.length<=2^40):ay P 98 [.str s,.str [c]] h (λv _=>v=.dM [.str (ff c s).1,.str (ff c s).2.1,.bool (ff c s).2.2]):=by
 refine .of T.mix T.c98 ?_;unfold fn98 gA;refine Wn ?_;refine WF.ce T.c188 (r188 T X s c hs) λg=>?_
 exact Wn Tv
end
def Pw(h:ah):Prop:=∃mu tl,h[2]? =some (.cells (Lib.pow10Tab.map (AV.int .u64)) mu tl)
def Pw.ext{h k}(o:Pw h)(e:Ext h k):Pw k:=by
 obtain⟨mu,tl,hb⟩:=o;exact⟨mu,tl,e.some hb⟩
structure qn(P:Program):Prop where
 itoa:∀{h:ah}{n:Int},-9223372036854775808<=n->n<=9223372036854775807->Pw h->ay P 113 [.i n] h (λv _=>v=.str (Lib.itoa n))
 join:∀{h:ah}{s:AV}{sep:By}{xs:List (By)},aH h s 1 (xs.map ao)->(Lib.join xs sep).length<=140737488355328/\xs.length<=140737488355328->ay P 114 [s,.str sep] h (λv _=>v=.str (Lib.join xs sep))
 atoi:∀{h:ah}{s:By},s.all fe=true->s≠[]->s.length<=9->ay P 254 [.str s] h (λv _=>v=.dM [.i (CD s),.kE])
 rep:∀{h:ah}{n:Nat},n<=7->ay P 252 [.str [48],.i (n:Nat)] h (λv _=>v=.str (List.replicate n 48))
def gF{n}(h:0<=n):Lib.itoa n=jM n:=by rw[kL];unfold Lib.itoa;rw[Y6 Om]
theorem ml:∀{k u},u<10^(k+1)->(Lib.decDigits u).length<=k+1
 | 0,u,h=>by rw[Lib.decDigits,dif_pos (by simpa using h)];simp
 |k+1,u,h=>by
  by_cases hu:u<10
  ·rw[Lib.decDigits,dif_pos hu];simp
  ·rw[Lib.decDigits,dif_neg hu,YP];have:=ml (k:=k) (u:=u / 10) (by rw[Nat.pow_succ]at h;omega);simp;omega
def kK{c}:fe c=true↔48<=c.toNat/\c.toNat<=57:=by simp[fe]
def mU{α:Type}{s:List α}{k:Nat}(hk:k<s.length):s.take (k+1)=s.take k++[s[k]]:=by
 rw[ZF,YU hk];rfl
def gQ(sw:AV)(wr:Bool):ak:=.b [sw,.bool wr]
section
variable {P:Program}(T:fp P) {h A B:ah}
include T
set_option maxRecDepth 10000 in
def r189(s:By)(hs:s.length<=2^40):ay P 189 [.str s] h (λv _=>v=.bool (rI s)):=by
 refine .kU 18 T.mix T.c189 ?_;intro ts hlen t0;unfold fn189 gA;refine Rs t0 ?_;refine WL.inv T.mix (λn ts' h'=>∃k:Nat,k<=s.length/\n=s.length-k/\h' =h++[.iter s k]/\(s.take k).all fe=true/\ts'.length=18/\slot ts' 0=.str s/\slot ts' 6=.ptr h.length 0) s.length
  ⟨0,Om,rfl,rfl,rfl,(Sq t0),(Sq t0),(Sq t0)⟩ ?_
 rintro _ ts' _ ⟨k,hk,rfl,rfl,hd,S3,u0,u6⟩;clear hlen t0;have hlen:=S3;by_cases hlt:k<s.length
 ·obtain⟨c,w,Ua,hcw⟩:∃c w,Utf8.decode ⟨⟨s⟩⟩ k=(c,w)/\(c=s[k].toNat/\w=1/\s[k].toNat<128\/128<=c/\128<=s[k].toNat):=by
   by_cases hc:s[k].toNat<128
   ·exact⟨_,_,dec_lt hlt hc,.inl ⟨rfl,rfl,hc⟩⟩
   ·exact z198
  have hall:fe s[k]=false->AV.bool false=AV.bool (rI s):=λhx=>by
   have:s.all fe=false:=by rw[List.all_eq_false];exact⟨s[k],Za hlt,by simp[hx]⟩
   simp only[rI,this,Bool.and_false]
  by_cases a5:(48:Int)<=c
  ·by_cases a6:(c:Int)<=57
   ·have hc:c=s[k].toNat/\w=1:=Om
    obtain⟨rfl,rfl⟩:=hc;have hy:fe s[k]=true:=kK.2 Om;have d1:decide ((s[k].toNat:Int)<48)=false:=YS Om;have d2:decide ((57:Int)<(s[k].toNat:Int))=false:=YS Om
    repeat (first|simp (config:={maxSteps:=1000000}) only[aQ,aT,bo,bp,reduceAdd,reduceMul,reduceLeDiff,reduceEqDiff,bz,hlen,Zf,Zi,u0,u6,dW,hlt,Zi,Ua,d1,d2]|simp (config:={maxSteps:=1000000}) (disch:=first|(simp only[YP,YV,YX]<;>omega)|rfl|omega|fail) only[fc,aQ,aT,bo,bp,reduceAdd,reduceMul,reduceLeDiff,reduceEqDiff,bz,hlen,Zf,Zi,u0,u6,dW,hlt,Zi,Ua,d1,d2])
    refine⟨s.length-(k+1),Om,k+1,Om,rfl,rfl,?_,trivial⟩;rw[mU hlt,List.all_append,hd];simp[hy]
   ·have d1:decide ((c:Int)<48)=false:=YS Om;have d2:decide ((57:Int)<(c:Int))=true:=YW Om
    repeat (first|simp (config:={maxSteps:=1000000}) only[aQ,aT,bo,bp,reduceAdd,reduceMul,reduceLeDiff,reduceEqDiff,bz,hlen,Zf,Zi,u0,u6,dW,hlt,Zi,Ua,d1,d2]|simp (config:={maxSteps:=1000000}) (disch:=first|(simp only[YP,YV,YX]<;>omega)|rfl|omega|fail) only[fc,aQ,aT,bo,bp,reduceAdd,reduceMul,reduceLeDiff,reduceEqDiff,bz,hlen,Zf,Zi,u0,u6,dW,hlt,Zi,Ua,d1,d2])
    exact Ki
  ·have d1:decide ((c:Int)<48)=true:=YW Om
   repeat (first|simp (config:={maxSteps:=1000000}) only[aQ,aT,bo,bp,reduceAdd,reduceMul,reduceLeDiff,reduceEqDiff,bz,hlen,Zf,Zi,u0,u6,dW,hlt,Zi,Ua,d1]|simp (config:={maxSteps:=1000000}) (disch:=first|(simp only[YP,YV,YX]<;>omega)|rfl|omega|fail) only[fc,aQ,aT,bo,bp,reduceAdd,reduceMul,reduceLeDiff,reduceEqDiff,bz,hlen,Zf,Zi,u0,u6,dW,hlt,Zi,Ua,d1])
   exact Ki
 ·have ek:k=s.length:=Om
  rw[ek,ZA]at hd
  repeat (first|simp (config:={maxSteps:=1000000}) only[aQ,aT,bo,bp,reduceAdd,reduceMul,reduceLeDiff,reduceEqDiff,bz,hlen,Zf,Zi,u0,u6,dW,hlt,Zf]|simp (config:={maxSteps:=1000000}) (disch:=first|(simp only[YP,YV,YX]<;>omega)|rfl|omega|fail) only[fc,aQ,aT,bo,bp,reduceAdd,reduceMul,reduceLeDiff,reduceEqDiff,bz,hlen,Zf,Zi,u0,u6,dW,hlt,Zf])
  simp only[rI,hd,Bool.and_true,decide_not]
omit T in
theorem Ag{s}:iY s=(rI s&&decide (s.length<=9) && !(decide (1<s.length)&&decide (s.head? =some 48))):=by
 unfold iY rI;cases s with
 |nil=>rfl
 |cons x r=>cases (x::r).all fe<;>cases decide ((x::r).length<=9)<;>simp
set_option maxRecDepth 10000 in
def r190(Z:qn P)(s:By)(hs:s.length<=2^40):ay P 190 [.str s] h (λv _=>v=.dM [.i (kZ s),.bool (iY s)]):=by
 refine .kU 30 T.mix T.c190 ?_;intro ts hlen t0;unfold fn190 gA;refine Rs t0 ?_;refine WF.ce T.c189 (r189 T s hs) λg=>?_
 have bad:iY s=false->AV.dM [.i 0,.bool false]=AV.dM [.i (kZ s),.bool (iY s)]:=λhb=>by unfold kZ;rw[hb];rfl
 have e0:=Ag (s:=s);cases hd:rI s with
 |false=>
  rw[hd]at e0;refine Rs (A3 t0 @hd @Zq) ?_;exact bad (by rw[e0];rfl)
 |true=>
  rw[hd]at e0;have Sh:=hd;unfold rI at Sh;simp only[Zx,aak,aaJ]at Sh;by_cases h9:9<s.length
  ·have d9:decide ((9:Int)<s.length)=true:=YW Om;have q9:decide (s.length<=9)=false:=YS Om;rw[q9]at e0;refine Rs (A4 t0 @hd @Zg @d9) ?_;exact bad (by rw[e0];rfl)
  ·have d9:decide ((9:Int)<s.length)=false:=YS Om;have q9:decide (s.length<=9)=true:=YW Om;rw[q9]at e0;obtain⟨c,r,rfl⟩:∃c r,s=c::r:=by cases s with|nil=>exact absurd rfl Sh.1|cons c r=>exact⟨c,r,rfl⟩
   by_cases h1:1<(c::r).length
   ·have d1:decide ((1:Int)<((c::r).length:Int))=true:=YW Om;have q1:decide (1<(c::r).length)=true:=YW h1;rw[q1]at e0;by_cases h2:c=48
    ·have d2:decide ((c.toNat:Int)=48)=true:=by rw[h2];rfl
     have q2:decide ((c::r).head? =some 48)=true:=by rw[h2];rfl
     rw[q2]at e0;refine Rs (A7 t0 @hd @Zg @d9 @d1 @vQ @d2) ?_;exact bad (by rw[e0];rfl)
    ·have d2:decide ((c.toNat:Int)=48)=false:=YS λe=>h2 (UInt8.toNat_inj.1 (by simpa using (by omega:c.toNat=48)))
     have q2:decide ((c::r).head? =some 48)=false:=YS (by simp[h2]);rw[q2]at e0;have e1:iY (c::r)=true:=by rw[e0];rfl
     refine Rs (A7 t0 @hd @Zg @d9 @d1 @vQ @d2) ?_;exact z124
   ·have d1:decide ((1:Int)<((c::r).length:Int))=false:=YS Om;have q1:decide (1<(c::r).length)=false:=YS h1;rw[q1]at e0;have e1:iY (c::r)=true:=by rw[e0];rfl
    refine Rs (A5 t0 @hd @Zg @d9 @d1) ?_;exact z124
set_option maxRecDepth 10000 in
def Ik{sw ws wr}(hs:aH A sw 1 (ws.map ao)):
  dm P 207 [.ptr A.length 0] (A++[gQ sw wr]++B) (λv h'=>∃sw',v=.str (bR ws wr).1/\h' =A++[gQ sw' (bR ws wr).2.2]++B/\aH A sw' 1 ((bR ws wr).2.1.map ao)):=by
 refine .of T.mix T.c207 ?_;obtain⟨ts,RG⟩:∃ts,ts=aR 40 [.ptr A.length 0]:=⟨_,rfl⟩;have hlen:ts.length=40:=by rw[RG];rfl
 have t0:slot ts 0=.ptr A.length 0:=by rw[RG];rfl
 unfold fn207 gA;show WC P bL _ [] (aR 40 [.ptr A.length 0]) (A++[gQ sw wr]++B) _;rw[<-RG];clear RG;unfold gQ;have c0:=hs.one;have hsE:∀{k:ah},aH (A++k) sw 1 (ws.map ao):=λ{k}=>hs.ext ⟨k,rfl⟩
 cases ws with
 |nil=>
  have d0:decide ((([] :List (By)).length:Int)=0)=true:=rfl;refine Rs (A4 t0 hs.aJ @d0 @c0) ?_;exact⟨.af,by rw[bR];exact⟨rfl,rfl,aH.nil⟩⟩
 |cons w r=>
  have d0:decide (((w::r).length:Int)=0)=false:=YS (by simp;omega);have ix:=hs.qu (kk:=.i64) Si;have ld:∀{k:ah},Ext A k->aq none (cN sw 1 0) (λb=>k[b]?)=some (.str w,.au):=λ{k} e=>hs.kY (i:=0) Si rfl e
  by_cases hw:w=[]
  ·have d1:decide (w=[])=true:=YW hw;refine Rs (A7 t0 hs.aJ @d0 ix @ld @d1 @c0) ?_;exact⟨.af,by rw[bR,Zb hw];exact⟨rfl,rfl,aH.nil⟩⟩
  ·have d1:decide (w=[])=false:=YS hw;have T4:jk (some (AV.i 1)) none (w::r).length=some (1,(w::r).length):=my (k:=1) Si;obtain⟨s',es',RH⟩:=hs.Dl T4;have et:List.take ((w::r).length-1) (List.drop 1 (w::r))=r:=Si
   rw[et]at RH;refine Rs (A9 t0 hs.aJ @d0 ix @ld @d1 @c0 @es' RH.one) ?_;exact⟨s',by rw[bR,Y6 hw];exact⟨rfl,rfl,RH⟩⟩
set_option maxRecDepth 10000 in
def O7(Z:qn P){sw ws wr}(hs:aH A sw 1 (ws.map ao))(hl:∀x∈ws,x.length<=2^40):
  dm P 208 [.ptr A.length 0] (A++[gQ sw wr]++B) (λv h'=>∃(sw':AV) (g:ah),v=.i (kZ (bR ws wr).1)/\h' =A++[gQ sw' ((bR ws wr).2.2 || !iY (bR ws wr).1)]++(B++g)/\aH A sw' 1 ((bR ws wr).2.1.map ao)):=by
 refine .of T.mix T.c208 ?_;obtain⟨ts,RG⟩:∃ts,ts=aR 23 [.ptr A.length 0]:=⟨_,rfl⟩;have hlen:ts.length=23:=by rw[RG];rfl
 have t0:slot ts 0=.ptr A.length 0:=by rw[RG];rfl
 unfold fn208 gA;show WC P bL _ [] (aR 23 [.ptr A.length 0]) (A++[gQ sw wr]++B) _;rw[<-RG];clear RG;refine Rs t0 ?_;refine WF.gen T.c207 (Ik T hs) ?_;rintro _ _ ⟨sw',rfl,rfl,RH⟩;have hwl:(bR ws wr).1.length<=2^40:=by
  cases ws with
  |nil=>simp[bR]
  |cons w r=>
   by_cases hw:w=[]
   ·rw[bR,Zb hw];simp
   ·rw[bR,Y6 hw];exact hl w Si
 generalize (bR ws wr).1=w at hwl ⊢;generalize (bR ws wr).2.2=wr' at RH ⊢;generalize (bR ws wr).2.1=ws' at RH ⊢;refine Rs t0 ?_;refine WF.ce T.c190 (r190 T Z w hwl) λg=>?_
 unfold gQ;have c0:=RH.one;cases wr' with
 |true=>
  refine Rs (A3 t0 @c0 @Bool.true_or) ?_;exact⟨sw',g,by rw[YR],RH⟩
 |false=>
  refine Rs (A3 t0 @c0 @aa5) ?_;exact⟨sw',g,by rw[YR],RH⟩
end
def uh{α:Type}{p:α->Bool}{L:List α}{k:Nat}(hlt:k<L.length)(hi:L.findIdx? p=((L.drop k).findIdx? p).map (· +k)):(p L[k]=true->cT p L=(k:Int))/\(p L[k]=false->L.findIdx? p=((L.drop (k+1)).findIdx? p).map (· +(k+1))):=by
 have hd:L.drop k=L[k]::L.drop (k+1):=Si
 rw[hd,aa8]at hi;constructor
 ·intro hp;rw[hp]at hi;rw[cT,hi];simp
 ·intro hp;rw[hp]at hi;rw[hi];exact QS
def wk{α:Type}{p:α->Bool}{L:List α}(hi:L.findIdx? p=((L.drop L.length).findIdx? p).map (· +L.length)):cT p L= -1:=by
 rw[ZX]at hi;rw[cT,hi];rfl
set_option maxRecDepth 10000
section
variable {P:Program}(T:fp P) {h:ah}
include T
def r20(n lo hi:Int):ay P 20 [.i n,.i lo,.i hi] h (λv _=>v=.bool (decide (bg n lo hi≠0))):=by
 refine .nM 15 T.mix T.c20 ?_;intro ts hlen t0 t1 t2;unfold fn20 gA;by_cases h1:n<lo
 ·have q1:decide (n<lo)=true:=YW h1;refine Rs (A4 t0 t1 t2 q1) ?_;rw[bg,Zb (.inl h1)];rfl
 ·have q1:decide (n<lo)=false:=YS h1;by_cases h2:hi<n
  ·have q2:decide (hi<n)=true:=YW h2;refine Rs (A5 t0 t1 t2 q1 q2) ?_;rw[bg,Zb (.inr h2)];rfl
  ·have q2:decide (hi<n)=false:=YS h2;refine Rs (A5 t0 t1 t2 q1 q2) ?_;rw[bg,Y6 Om];rfl
def r35{L:List (By)}{s:AV}(hs:aH h s 1 (L.map ao))(hl:L.length<2^40)(n:By):ay P 35 [s,.str n] h (λv _=>v=.bool (decide (n∈L))):=by
 refine .eP 18 T.mix T.c35 ?_;intro ts hlen t0 t1;unfold fn35 gA;refine Rs (A2 t0 t1) ?_;refine WL.inv T.mix (λm ts h'=>∃k:Nat,k<=L.length/\m=L.length-k/\h' =h/\(n∈L↔n∈L.drop k)/\ts.length=18/\slot ts 0=s/\slot ts 1=.str n/\slot ts 5=.i k) L.length
  ⟨0,Om,rfl,rfl,Iff.rfl,Sn,(Sq t0),(Sq t1),gM⟩ ?_
 rintro _ ts _ ⟨k,hk,rfl,rfl,hi,hlen,t0,t1,t5⟩;by_cases hlt:k<L.length
 ·have hd:L.drop k=L[k]::L.drop (k+1):=Si
  rw[hd,ZC]at hi;have e3:=ee hlt;have ix:=hs.dG (kk:=.i64) hlt;have ld:=hs.kY (i:=k) (x:=.str L[k]) hlt rfl (Ext.refl _);have e5:=wrapN (n:=k) Om;by_cases hp:L[k]=n
  ·have q:decide (L[k]=n)=true:=YW hp;refine Rs (A8 t0 t1 t5 e3 hs.aJ ix @ld q) ?_;exact Zz AV.bool (YW (hi.2 (.inl hp.symm))).symm
  ·have q:decide (L[k]=n)=false:=YS hp;refine Rs (A9 t0 t1 t5 e3 hs.aJ ix @ld q e5) ?_;exact⟨_,Om,k+1,Om,rfl,⟨λz=>(hi.1 z).resolve_left λe=>hp e.symm,λz=>hi.2 (.inr z)⟩,rfl⟩
 ·have e3:=fo hlt;have e4:k=L.length:=Om
  refine Rs (A5 t0 t1 t5 e3 hs.aJ) ?_;rw[e4,ZX]at hi;exact Zz AV.bool (YS (λz=>by simpa using hi.1 z)).symm
def r25{L M:List (By)}{s t:AV}(hs:aH h s 1 (L.map ao))(ht:aH h t 1 (M.map ao))(hl:L.length<2^40)(hm:M.length<2^40):ay P 25 [s,t] h (λv _=>v=.bool (decide (L=M))):=by
 refine .eP 26 T.mix T.c25 ?_;intro ts hlen t0 t1;unfold fn25 gA;by_cases h1:L.length=M.length
 case neg=>
  have q:decide ((L.length:Int)≠M.length)=true:=YW Om;refine Rs (A5 t0 t1 hs.aJ ht.aJ q) ?_;exact Zz AV.bool (YS (λ(e:L=M)=>h1 (by rw[e]))).symm
 have q:decide ((L.length:Int)≠M.length)=false:=YS Om;refine Rs (A5 t0 t1 hs.aJ ht.aJ q) ?_;refine WL.inv T.mix (λm ts h'=>∃k:Nat,k<=L.length/\m=L.length-k/\h' =h/\L.take k=M.take k/\ts.length=26/\slot ts 0=s/\slot ts 1=t/\slot ts 5=.i k) L.length
  ⟨0,Om,rfl,rfl,rfl,Sn,(Sq t0),(Sq t1),gM⟩ ?_
 rintro _ ts h' ⟨k,hk,rfl,rfl,hi,hlen,t0,t1,t5⟩;by_cases hlt:k<L.length
 ·have Sk:k<M.length:=Om
  have e3:=ee hlt;have ix:=hs.dG (kk:=.i64) hlt;have iy:=ht.dG (kk:=.i64) Sk;have ld:∀{kk:ah},Ext h' kk->_:=λ{kk} e=>hs.kY (i:=k) (x:=.str L[k]) (k:=kk) hlt rfl e
  have ly:∀{kk:ah},Ext h' kk->_:=λ{kk} e=>ht.kY (i:=k) (x:=.str M[k]) (k:=kk) Sk rfl e
  have e5:=wrapN (n:=k) Om;by_cases hp:L[k]=M[k]
  ·have q:decide (L[k]≠M[k])=false:=YS (λz=>z hp);refine Rs (kS t0 t1 t5 e3 hs.aJ ix @ld @iy @ly q e5) ?_;refine⟨_,Om,k+1,Om,rfl,?_,rfl⟩;rw[ZF,ZF,hi,YU hlt,YU Sk,hp]
  ·have q:decide (L[k]≠M[k])=true:=YW hp;refine Rs (lQ t0 t1 t5 e3 hs.aJ ix @ld @iy @ly q) ?_;exact Zz AV.bool (YS (λ(e:L=M)=>hp (by simp only[e]))).symm
 ·have e3:=fo hlt;have e4:k=L.length:=Om
  refine Rs (A5 t0 t1 t5 e3 hs.aJ) ?_;rw[e4,ZA,h1,ZA]at hi;exact Zz AV.bool (YW hi).symm
def pE{f i w:Nat}{α:Type}{row:α->List AV}{nm:α->By}{L:List α}{s:AV}{V:RV}(c:bQ P f=some (uV i w))(o:aC h V)(hs:aH h s w (L.map row))(hv:V.row[i]? =some s)(hr:∀y,(row y)[0]? =some (.str (nm y)))(hl:L.length<2^30)(n:By):ay P f [.agg V.row,.str n] h (λv _=>v=.i (cT (λy=>decide (nm y=n)) L)):=by
 refine .eP 22 T.mix c ?_;intro ts hlen t0 t1;unfold uV;have RF:=@aC.box _ _ o;refine Rs (A3 t0 t1 @RF) ?_;refine WL.inv T.mix (λm ts h'=>∃k:Nat,k<=L.length/\m=L.length-k/\h' =h++[ak.b V.row]/\L.findIdx? (λy=>decide (nm y=n))=((L.drop k).findIdx? (λy=>decide (nm y=n))).map (· +k)/\ts.length=22/\slot ts 1=.str n/\slot ts 2=.ptr h.length 0/\slot ts 5=.i k) L.length
  ⟨0,Om,rfl,rfl,Si,Sn,(Sq t1),Sw,gM⟩ ?_
 rintro _ ts _ ⟨k,hk,rfl,rfl,hi,hlen,t1,t2,t5⟩;have lb:∀{kk n a},Ext (h++[ak.b V.row]) kk->aq n (.ptr h.length a) (λz=>kk[z]?)=dE n a (.b V.row):=λ{_ _ _} e=>aA (e.some a8)
 by_cases hlt:k<L.length
 ·have e3:=ee hlt;have ix:=hs.dG (kk:=.i64) hlt;have e5:=wrapN (n:=k) Om;obtain⟨h1,h2⟩:=uh hlt hi;obtain⟨y,hy⟩:∃y,y=L[k]:=⟨_,rfl⟩;have ld:∀{kk:ah},Ext h kk->aq none (lL s w k 0) (λb=>kk[b]?)=some (.str (nm y),.au):=λ{kk} e=>hs.pW hlt (by rw[<-hy];exact hr y) e
  rw[<-hy]at h1 h2;by_cases hp:nm y=n
  ·have q:decide (nm y=n)=true:=YW hp;refine Rs (lQ t1 t2 t5 @lb @hv hs.aJ e3 ix @ld q) ?_;rw[h1 q]
  ·have q:decide (nm y=n)=false:=YS hp;refine Rs (kS t1 t2 t5 @lb @hv hs.aJ e3 ix @ld q e5) ?_;exact⟨_,Om,k+1,Om,rfl,h2 q,rfl⟩
 ·have e3:=fo hlt;have e4:k=L.length:=Om
  refine Rs (A7 t1 t2 t5 @lb @hv hs.aJ e3) ?_;subst e4;rw[wk hi]
def r28{V:RV}(o:aC h V)(l:eD V)(n:By):ay P 28 [.agg V.row,.str n] h (λv _=>v=.i (cT (λy=>decide (y.name=n)) V.lines)):=
 pE T (nm:=λy:gZ=>y.name) T.c28 o o.i0 fI (λ_=>rfl) l.l0 n
def r141{V:RV}(o:aC h V)(l:eD V)(n:By):ay P 141 [.agg V.row,.str n] h (λv _=>v=.i (cT (λy=>decide (y.name=n)) V.aB)):=
 pE T (nm:=λy:qH=>y.name) T.c141 o o.i1 jX (λ_=>rfl) l.l1 n
def r22{V:RV}(o:aC h V)(l:eD V)(n:By):ay P 22 [.agg V.row,.str n] h (λv _=>v=.i (cT (λy:gN×AV=>decide (y.1.name=n)) V.aj)):=
 pE T (nm:=λy:gN×AV=>y.1.name) T.c22 o o.i2 dy (λ_=>rfl) l.l2 n
def r55{V:RV}(o:aC h V)(l:eD V)(n:By):ay P 55 [.agg V.row,.str n] h (λv _=>v=.i (cT (λy:iE×AV=>decide (y.1.name=n)) V.aE)):=
 pE T (nm:=λy:iE×AV=>y.1.name) T.c55 o o.i3 fP (λ_=>rfl) l.l3 n
def r56{V:RV}(o:aC h V)(l:eD V)(n:By):ay P 56 [.agg V.row,.str n] h (λv _=>v=.i (cT (λy:k9×AV=>decide (y.1.name=n)) V.aG)):=
 pE T (nm:=λy:k9×AV=>y.1.name) T.c56 o o.i4 gh (λ_=>rfl) l.l4 n
def r57{V:RV}(o:aC h V)(l:eD V)(n:By):ay P 57 [.agg V.row,.str n] h (λv _=>v=.i (cT (λy=>decide (y.name=n)) V.aN)):=
 pE T (nm:=λy:qo=>y.name) T.c57 o o.i5 iG (λ_=>rfl) l.l5 n
end
def la(r:Nat×Bool):UInt8:=
 match r.1,r.2 with
 | 0,true=>108
 | 1,true=>116
 | 2,true=>115
 | 3,true=>109
 | 4,true=>106
 |_,true=>112
 | 0,false=>76
 | 1,false=>84
 | 2,false=>83
 | 3,false=>77
 | 4,false=>74
 |_,false=>80
def xE(d:Kd):By:=(bK d).map la
def y4(k:By):List AV:=
 match gT k with
 |none=>[.str [],.i 0,.bool false]
 |some d=>[.str (xE d),.i (cC d:Int),.bool true]
def gG(d:Kd):decide (bh d=[108,105,110,101])=decide (d=.line):=by cases d<;>rfl
def iK(d:Kd):decide (bh d=[116,97,112,101])=decide (d=.tape):=by cases d<;>rfl
def rB(d:Kd):decide (bh d=[115,104,111,116])=decide (d=.gx):=by cases d<;>rfl
def vX(d:Kd):decide (bh d=[99,111,112,121])=decide (d=.copy):=by cases d<;>rfl
def rC(d:Kd):decide (bh d=[97,99,99,101,112,116])=decide (d=.accept):=by cases d<;>rfl
def iD(d:Kd):decide (bh d=[115,111,117,114,99,101])=decide (d=.source):=by cases d<;>rfl
def j8(d:Kd):decide (bh d=[109,111,100,117,108,101])=decide (d=.fW):=by cases d<;>rfl
def jt(d:Kd):decide (bh d=[109,101,114,103,101])=decide (d=.merge):=by cases d<;>rfl
def y3(d:Kd):decide (bh d=[114,117,110])=decide (d=.run):=by cases d<;>rfl
def vU(d:Kd):decide (bh d=[116,105,108,101])=decide (d=.fV):=by cases d<;>rfl
def vW(d:Kd):decide (bh d=[102,97,105,108])=decide (d=.fail):=by cases d<;>rfl
def vV(d:Kd):decide (bh d=[112,105,99,116,117,114,101])=decide (d=.gy):=by cases d<;>rfl
def qv(d:Kd):decide (bh d=[114,101,108,101,97,115,101])=decide (d=.rel):=by cases d<;>rfl
def n7(d:Kd):decide (bh d=[117,110,100,111])=decide (d=.eF):=by cases d<;>rfl
def gU:type_of% (wP @gG @iK @rB @vX @rC @iD @j8 @jt @y3 @vU @vW @vV @qv @n7):=wP @gG @iK @rB @vX @rC @iD @j8 @jt @y3 @vU @vW @vV @qv @n7
def BN:∀r:Nat×Bool,r.1<6->decide (97<=((la r).toNat:Int))=r.2
 |(0,true),_=>rfl
 |(1,true),_=>rfl
 |(2,true),_=>rfl
 |(3,true),_=>rfl
 |(4,true),_=>rfl
 |(5,true),_=>rfl
 |(0,false),_=>rfl
 |(1,false),_=>rfl
 |(2,false),_=>rfl
 |(3,false),_=>rfl
 |(4,false),_=>rfl
 |(5,false),_=>rfl
def DW(d:Kd):∀r∈bK d,r.1<6:=by cases d<;>decide
section
variable {P:Program}(T:fp P) {h:ah}
include T
def r101(k:By):ay P 101 [.str k] h (λv _=>v=.agg (y4 k)):=by
 refine .kU 47 T.mix T.c101 ?_;intro ts hlen t0;unfold fn101 gA;unfold y4;cases hk:gT k with
 |none=>
  have X6:decide (k=[108,105,110,101])=false:=YS (dF hk .line);have X2:decide (k=[116,97,112,101])=false:=YS (dF hk .tape);have X3:decide (k=[115,104,111,116])=false:=YS (dF hk .gx);have X8:decide (k=[99,111,112,121])=false:=YS (dF hk .copy);have Vh:decide (k=[97,99,99,101,112,116])=false:=YS (dF hk .accept);have Vg:decide (k=[115,111,117,114,99,101])=false:=YS (dF hk .source);have X5:decide (k=[109,111,100,117,108,101])=false:=YS (dF hk .fW);have Wo:decide (k=[109,101,114,103,101])=false:=YS (dF hk .merge);have q_run:decide (k=[114,117,110])=false:=YS (dF hk .run);have X1:decide (k=[116,105,108,101])=false:=YS (dF hk .fV)
  have X7:decide (k=[102,97,105,108])=false:=YS (dF hk .fail);have X4:decide (k=[112,105,99,116,117,114,101])=false:=YS (dF hk .gy);have q_rel:decide (k=[114,101,108,101,97,115,101])=false:=YS (dF hk .rel);have XZ:decide (k=[117,110,100,111])=false:=YS (dF hk .eF);exact Rs (yu t0 @X6 @X2 @X3 @X8 @Vh @Vg @X5 @Wo @q_run @X1 @X7 @X4 @q_rel @XZ) Tv
 |some d=>
  have RM:=bW hk;subst RM;clear hk;cases d
  all_goals
   refine ph (A4 t0 @gU @Zl @Zt) ?_;rfl
def r39{x}(o:bw h x)(hl:x.ev.names.length<=2^40/\x.ev.cB.length<=2^40)(hn:∀n∈x.ev.names,n.length<2^63):ay P 39 [.agg x.row] h (λv _=>v=.i (gV x.ev)):=by
 refine .kU 59 T.mix T.c39 ?_;intro ts hlen t0;unfold fn39 gA;have RF:=@bw.box _ _ o;refine Rs (A3 t0 @RF @nw) ?_;refine WF.ce T.c20 (r20 T _ _ _) λg1=>?_
 by_cases h0:bg x.ev.num 1 1000=0
 case neg=>
  have e0:decide (bg x.ev.num 1 1000≠0)=true:=YW h0;refine Rs (A2 t0 e0) ?_;rw[gV,Zb h0]
 have e0:decide (bg x.ev.num 1 1000≠0)=false:=YS (λz=>z h0);refine Rs (A3 t0 e0 @bj) ?_;refine WF.ce T.c101 (r101 T _) λg2=>?_
 unfold y4;rw[gV,Y6 (λz=>z h0)];cases hd:gT x.ev.kind with
 |none=>
  exact Rs (A2 t0 @Zq) Tv
 |some d=>
  have Tl:(xE d).length=(bK d).length:=by rw[xE,YY]
  have hr3:(bK d).length<=3/\cC d<=3:=by cases d<;>decide
  refine Rs (A7 t0 @Zg @aI @aY o.n.aJ o.v.aJ @Tl) ?_;by_cases h1:x.ev.names.length=(bK d).length
  case neg=>
   have q:decide ((x.ev.names.length:Int)≠(bK d).length)=true:=YW Om;refine Rs (A2 t0 q) ?_;rw[Zb (.inl h1)]
  have q:decide ((x.ev.names.length:Int)≠(bK d).length)=false:=YS Om;by_cases h2:x.ev.cB.length=cC d
  case neg=>
   have q2:decide ((x.ev.cB.length:Int)≠cC d)=true:=YW Om;refine Rs (A5 t0 @aY q q2 o.v.aJ) ?_;rw[Zb (.inr h2)]
  have q2:decide ((x.ev.cB.length:Int)≠cC d)=false:=YS Om;refine Rs (A5 t0 @aY q q2 o.v.aJ) ?_;rw[Y6 Om];obtain⟨H,hH⟩:∃H,H=h++[ak.b x.row]++g1++g2++[ak.b [AV.str (xE d),.i (cC d:Int),.bool true]]:=⟨_,rfl⟩;obtain⟨fb,hfb⟩:∃fb,fb=(h++[ak.b x.row]++g1++g2).length:=⟨_,rfl⟩;have Sb:Ext h H:=by rw[hH];exact Xx
  have me:H[h.length]? =some (.b x.row):=by rw[hH];exact(show Ext (h++[ak.b x.row]) _ from Xx).some a8
  have mf:H[fb]? =some (.b [AV.str (xE d),.i (cC d:Int),.bool true]):=by rw[hH,hfb];exact a8
  rw[<-hH,<-hfb];refine WL.inv T.mix (λm ts h'=>∃k:Nat,k<=x.ev.names.length/\m=x.ev.names.length-k/\Ext H h'/\x.ev.names.any (λs=>!dX s)=(x.ev.names.drop k).any (λs=>!dX s)/\ts.length=59/\slot ts 1=.ptr h.length 0/\slot ts 3=.ptr fb 0/\slot ts 4=.i k) x.ev.names.length
   ⟨0,Om,rfl,.refl _,rfl,Sn,Sw,Sw,gM⟩ ?_
  rintro _ ts h' ⟨k,hk,rfl,hx,hi,hlen,t1,t3,t4⟩;have le:∀{kk n a},Ext h' kk->aq n (.ptr h.length a) (λz=>kk[z]?)=dE n a (.b x.row):=λ{_ _ _} e=>aA ((hx.trans e).some me)
  have lf:∀{kk n a},Ext h' kk->aq n (.ptr fb a) (λz=>kk[z]?)=dE n a (.b [AV.str (xE d),.i (cC d:Int),.bool true]):=λ{_ _ _} e=>aA ((hx.trans e).some mf)
  by_cases hlt:k<x.ev.names.length
  ·have e3:decide ((k:Int)<(bK d).length)=true:=YW Om;have e5:=wrapN (n:=k) Om;have ix:=o.n.dG (kk:=.i64) hlt;have ld:∀{kk:ah},Ext h' kk->aq none (cN x.sn 1 k) (λb=>kk[b]?)=some (.str x.ev.names[k],.au):=λ{kk} e=>o.n.kY hlt rfl ((Sb.trans hx).trans e)
   have WZ:x.ev.names.drop k=x.ev.names[k]::x.ev.names.drop (k+1):=Si
   rw[WZ,abf]at hi;have hnk:=hn x.ev.names[k] (Za _);obtain⟨y,hy⟩:∃y,y=x.ev.names[k]:=⟨_,rfl⟩;rw[<-hy]at ld hi hnk;refine Rs (lQ t1 t3 t4 @le @lf @Tl e3 @aI ix @ld) ?_;refine WF.ce T.c102 (r102 T y hnk) λg3=>?_
   cases hny:dX y with
   |false=>
    rw[hny]at hi;have hi:x.ev.names.any (λs=>!dX s)=true:=hi;refine Rs (A4 t1 t3 t4 @Zq) ?_;refine⟨(Sb.trans hx).trans Xx,?_⟩;rw[Zb hi]
   |true=>
    rw[hny]at hi;refine Rs (A5 t1 t3 t4 @Zg e5) ?_;exact JO
  ·have e3:decide ((k:Int)<(bK d).length)=false:=YS Om;have e4:k=x.ev.names.length:=Om
   have hi0:x.ev.names.any (λs=>!dX s)=false:=by rw[hi,e4,ZX];rfl
   rw[Y6 (by rw[hi0];decide)];refine Rs (A6 t1 t3 t4 @lf @Tl e3) ?_;refine WL.inv T.mix (λm ts Xh=>∃k:Nat,k<=x.ev.cB.length/\m=x.ev.cB.length-k/\Ext H Xh/\x.ev.cB.any (λn=>decide (bg n 0 999999999≠0))=(x.ev.cB.drop k).any (λn=>decide (bg n 0 999999999≠0))/\ts.length=59/\slot ts 1=.ptr h.length 0/\slot ts 3=.ptr fb 0/\slot ts 5=.i k) x.ev.cB.length
    ⟨0,Om,rfl,hx,rfl,Sn,(Sq t1),(Sq t3),gM⟩ ?_
   clear t1 t3 t4 hlen hlt hi e3 e4 hk le lf hx;clear ts k h';rintro _ ts h' ⟨k,hk,rfl,hx,hi,hlen,t1,t3,t5⟩;have le:∀{kk n a},Ext h' kk->aq n (.ptr h.length a) (λz=>kk[z]?)=dE n a (.b x.row):=λ{_ _ _} e=>aA ((hx.trans e).some me)
   have lf:∀{kk n a},Ext h' kk->aq n (.ptr fb a) (λz=>kk[z]?)=dE n a (.b [AV.str (xE d),.i (cC d:Int),.bool true]):=λ{_ _ _} e=>aA ((hx.trans e).some mf)
   by_cases hlt:k<x.ev.cB.length
   ·have e3:decide ((k:Int)<cC d)=true:=YW Om;have e5:=wrapN (n:=k) Om;have ix:=o.v.dG (kk:=.i64) hlt;have ld:∀{kk:ah},Ext h' kk->aq none (cN x.sv 1 k) (λb=>kk[b]?)=some (.i x.ev.cB[k],.au):=λ{kk} e=>o.v.kY hlt rfl ((Sb.trans hx).trans e)
    have WZ:x.ev.cB.drop k=x.ev.cB[k]::x.ev.cB.drop (k+1):=Si
    rw[WZ,abf]at hi;obtain⟨y,hy⟩:∃y,y=x.ev.cB[k]:=⟨_,rfl⟩;rw[<-hy]at ld hi;refine Rs (A9 t1 t3 t5 @le @lf e3 @aY ix @ld) ?_;refine WF.ce T.c20 (r20 T _ _ _) λg3=>?_
    cases hny:decide (bg y 0 999999999≠0)with
    |true=>
     rw[hny]at hi;have hi:x.ev.cB.any (λn=>decide (bg n 0 999999999≠0))=true:=hi;refine Rs (A3 t1 t3 t5) ?_;refine⟨(Sb.trans hx).trans Xx,?_⟩;rw[Zb hi]
    |false=>
     rw[hny]at hi;refine Rs (A4 t1 t3 t5 e5) ?_;exact JO
   ·have e3:decide ((k:Int)<cC d)=false:=YS Om;have e4:k=x.ev.cB.length:=Om
    have hi0:x.ev.cB.any (λn=>decide (bg n 0 999999999≠0))=false:=by rw[hi,e4,ZX];rfl
    rw[Y6 (by rw[hi0];decide)];by_cases ht:x.ev.text=[]
    ·have q:decide (x.ev.text≠[])=false:=YS (λz=>z ht);refine Rs (A8 t1 t3 t5 @lf @le e3 @x9 q) ?_;refine⟨Sb.trans hx,?_⟩;rw[Y6 (λz=>z ht)]
    ·have q:decide (x.ev.text≠[])=true:=YW ht;refine Rs (A8 t1 t3 t5 @lf @le e3 @x9 q) ?_;refine⟨Sb.trans hx,?_⟩;rw[Zb ht]
end
def DB(R:eM)(e:ed):List (Nat×Bool)->Bool
 |[]=>false
 |r::_=>!r.2&&dC R r.1 (aM e 0)
def B8{R e d}:kD d R e=if mS R e (bK d) 0 then 10 else bZ (DB R e (bK d)) 9:=by
 have:qN R e (bK d) 0=DB R e (bK d):=by cases d<;>simp[bK,qN,DB]
 rw[kD,this];rfl
def Aw:∀r:Nat×Bool,r.1<6->r.2=false->IntKind.u8.wrap (IntKind.u8.wrap (((la r).toNat:Int)+97)-65)=((la (r.1,true)).toNat:Int)
 |(0,false),_,_=>rfl
 |(1,false),_,_=>rfl
 |(2,false),_,_=>rfl
 |(3,false),_,_=>rfl
 |(4,false),_,_=>rfl
 |(5,false),_,_=>rfl
section
variable {P:Program}(T:fp P) {h:ah}
include T
def Rv{V}(o:aC h V)(l:eD V)(n:By):ay P 195 [.agg V.row,.int .u8 ((la (0,true)).toNat:Int),.str n] h (λv _=>∃i,v=.i i/\decide (0<=i)=dC V.an 0 n):=by
 refine .nM 36 T.mix T.c195 ?_;intro ts hlen t0 t1 t2;unfold fn195 gA;have RF:=@aC.box _ _ o;have q0:decide (((la (0,true)).toNat:Int)=108)=true:=rfl;refine Rs (A6 t0 t1 t2 @RF q0 @aF) ?_;refine WF.ce T.c28 (r28 T (o.ext Xx) l n) λg1=>?_
 refine Rs t0 ?_;exact⟨_,rfl,fk (f:=λy:gZ=>y.name)⟩
def Ru{V}(o:aC h V)(l:eD V)(n:By):ay P 195 [.agg V.row,.int .u8 ((la (1,true)).toNat:Int),.str n] h (λv _=>∃i,v=.i i/\decide (0<=i)=dC V.an 1 n):=by
 refine .nM 36 T.mix T.c195 ?_;intro ts hlen t0 t1 t2;unfold fn195 gA;have RF:=@aC.box _ _ o;have q0:decide (((la (1,true)).toNat:Int)=108)=false:=rfl;have q1:decide (((la (1,true)).toNat:Int)=116)=true:=rfl;refine Rs (A7 t0 t1 t2 @RF q0 q1 @aF) ?_;refine WF.ce T.c141 (r141 T (o.ext Xx) l n) λg1=>?_
 refine Rs t0 ?_;exact⟨_,rfl,fk (f:=λy:qH=>y.name)⟩
def Rt{V}(o:aC h V)(l:eD V)(n:By):ay P 195 [.agg V.row,.int .u8 ((la (2,true)).toNat:Int),.str n] h (λv _=>∃i,v=.i i/\decide (0<=i)=dC V.an 2 n):=by
 refine .nM 36 T.mix T.c195 ?_;intro ts hlen t0 t1 t2;unfold fn195 gA;have RF:=@aC.box _ _ o;have q0:decide (((la (2,true)).toNat:Int)=108)=false:=rfl;have q1:decide (((la (2,true)).toNat:Int)=116)=false:=rfl;have q2:decide (((la (2,true)).toNat:Int)=115)=true:=rfl;refine Rs (A8 t0 t1 t2 @RF q0 q1 q2 @aF) ?_;refine WF.ce T.c22 (r22 T (o.ext Xx) l n) λg1=>?_
 refine Rs t0 ?_;refine⟨_,rfl,(fk (f:=λy:gN×AV=>y.1.name)).trans ?_⟩;rw[<-gC];rfl
def Rr{V}(o:aC h V)(l:eD V)(n:By):ay P 195 [.agg V.row,.int .u8 ((la (3,true)).toNat:Int),.str n] h (λv _=>∃i,v=.i i/\decide (0<=i)=dC V.an 3 n):=by
 refine .nM 36 T.mix T.c195 ?_;intro ts hlen t0 t1 t2;unfold fn195 gA;have RF:=@aC.box _ _ o;have q0:decide (((la (3,true)).toNat:Int)=108)=false:=rfl;have q1:decide (((la (3,true)).toNat:Int)=116)=false:=rfl;have q2:decide (((la (3,true)).toNat:Int)=115)=false:=rfl;have q3:decide (((la (3,true)).toNat:Int)=109)=true:=rfl;refine Rs (A9 t0 t1 t2 @RF q0 q1 q2 q3 @aF) ?_;refine WF.ce T.c55 (r55 T (o.ext Xx) l n) λg1=>?_
 refine Rs t0 ?_;refine⟨_,rfl,(fk (f:=λy:iE×AV=>y.1.name)).trans ?_⟩;rw[<-iI];rfl
def Rq{V}(o:aC h V)(l:eD V)(n:By):ay P 195 [.agg V.row,.int .u8 ((la (4,true)).toNat:Int),.str n] h (λv _=>∃i,v=.i i/\decide (0<=i)=dC V.an 4 n):=by
 refine .nM 36 T.mix T.c195 ?_;intro ts hlen t0 t1 t2;unfold fn195 gA;have RF:=@aC.box _ _ o;have q0:decide (((la (4,true)).toNat:Int)=108)=false:=rfl;have q1:decide (((la (4,true)).toNat:Int)=116)=false:=rfl;have q2:decide (((la (4,true)).toNat:Int)=115)=false:=rfl;have q3:decide (((la (4,true)).toNat:Int)=109)=false:=rfl;have q4:decide (((la (4,true)).toNat:Int)=106)=true:=rfl;refine Rs (lQ t0 t1 t2 @RF q0 q1 q2 q3 q4 @aF) ?_;refine WF.ce T.c56 (r56 T (o.ext Xx) l n) λg1=>?_
 refine Rs t0 ?_;refine⟨_,rfl,(fk (f:=λy:k9×AV=>y.1.name)).trans ?_⟩;rw[<-iJ];rfl
def Rp{V}(o:aC h V)(l:eD V)(n:By):ay P 195 [.agg V.row,.int .u8 ((la (5,true)).toNat:Int),.str n] h (λv _=>∃i,v=.i i/\decide (0<=i)=dC V.an 5 n):=by
 refine .nM 36 T.mix T.c195 ?_;intro ts hlen t0 t1 t2;unfold fn195 gA;have RF:=@aC.box _ _ o;have q0:decide (((la (5,true)).toNat:Int)=108)=false:=rfl;have q1:decide (((la (5,true)).toNat:Int)=116)=false:=rfl;have q2:decide (((la (5,true)).toNat:Int)=115)=false:=rfl;have q3:decide (((la (5,true)).toNat:Int)=109)=false:=rfl;have q4:decide (((la (5,true)).toNat:Int)=106)=false:=rfl;refine Rs (lQ t0 t1 t2 @RF q0 q1 q2 q3 q4 @aF) ?_;refine WF.ce T.c57 (r57 T (o.ext Xx) l n) λg1=>?_
 refine Rs t0 ?_;exact⟨_,rfl,fk (f:=λy:qo=>y.name)⟩
def r195{V}(o:aC h V)(l:eD V){t}(ht:t<6)(n:By):ay P 195 [.agg V.row,.int .u8 ((la (t,true)).toNat:Int),.str n] h (λv _=>∃i,v=.i i/\decide (0<=i)=dC V.an t n):=by
 match t,ht with
 | 0,_=>exact Rv T o l n
 | 1,_=>exact Ru T o l n
 | 2,_=>exact Rt T o l n
 | 3,_=>exact Rr T o l n
 | 4,_=>exact Rq T o l n
 | 5,_=>exact Rp T o l n
def r223{V x d}(o:aC h V)(l:eD V)(ox:bw h x)(wx:ko x.ev d):ay P 223 [.agg V.row,.agg x.row] h (λv _=>v=.i (kD d V.an x.ev)):=by
 refine .eP 55 T.mix T.c223 ?_;intro ts hlen t0 t1;unfold fn223;have RF:=@aC.box _ _ o;have hex:=@bw.box _ _ ox;refine Rs (A5 t0 t1 @RF @hex @bj) ?_;refine WF.ce T.c101 (r101 T _) λg1=>?_
 unfold y4;rw[wx.kd];obtain⟨L,hL⟩:∃L,L=bK d:=⟨_,rfl⟩;have hnl:x.ev.names.length=L.length:=by rw[hL];exact wx.nl
 have Xg:L.length<=3:=by rw[hL];cases d<;>decide
 have XM:∀r∈L,r.1<6:=by rw[hL];exact DW d
 have Tl:(xE d).length=L.length:=by rw[xE,YY,hL]
 refine Rs (A2 t0 t1) ?_;obtain⟨H,hH⟩:∃H,H=h++[ak.b V.row]++[ak.b x.row]++g1:=⟨_,rfl⟩;obtain⟨eb,heb⟩:∃eb,eb=(h++[ak.b V.row]).length:=⟨_,rfl⟩;have Sb:Ext h H:=by rw[hH];exact Xx
 have mr:H[h.length]? =some (.b V.row):=by rw[hH];exact(show Ext (h++[ak.b V.row]) _ from Xx).some a8
 have me:H[eb]? =some (.b x.row):=by rw[hH,heb];exact(show Ext (h++[ak.b V.row]++[ak.b x.row]) _ from Xx).some a8
 rw[<-hH,<-heb];have UI:∀(i:Nat) (hi:i<L.length),aS 1 x.sn (.i (i:Int))=some (cN x.sn 1 i,.au):=λi hi=>ox.n.dG Om
 have hld:∀(i:Nat) (hi:i<L.length) (k':ah),Ext h k'->aq none (cN x.sn 1 i) (λb=>k'[b]?)=some (.str (aM x.ev i),.au):=λi hi k' e=>by
  exact z72
 have hixs:∀(i:Nat) (hi:i<L.length),vR (.str (xE d)) (.i (i:Int))=some (.int .u8 ((la L[i]).toNat:Int)):=λi hi=>by
  have hi':i<(xE d).length:=Om
  rw[jQ hi'];have:(xE d)[i]=la L[i]:=by simp only[xE,hL,Z6]
  rw[this]
 refine WL.inv T.mix (λm ts h'=>∃k:Nat,k<=L.length/\m=L.length-k/\Ext H h'/\mS V.an x.ev L 0=mS V.an x.ev (L.drop k) k/\ts.length=55/\slot ts 2=.ptr h.length 0/\slot ts 3=.ptr eb 0/\slot ts 5=.str (xE d)/\slot ts 6=.i k) L.length
  ⟨0,Om,rfl,.refl _,rfl,Sn,Sw,Sw,Sw,gM⟩ ?_
 clear t0 t1 hlen RF hex;clear ts;rintro _ ts h' ⟨k,hk,rfl,hx,hu,hlen,t2,t3,t5,t6⟩;have le:∀{kk n a},Ext h' kk->aq n (.ptr eb a) (λz=>kk[z]?)=dE n a (.b x.row):=λ{_ _ _} e=>aA ((hx.trans e).some me)
 have lr:∀{kk n a},Ext h' kk->aq n (.ptr h.length a) (λz=>kk[z]?)=dE n a (.b V.row):=λ{_ _ _} e=>aA ((hx.trans e).some mr)
 by_cases hlt:k<L.length
 ·have e3:=ee hlt;have e5:=wrapN (n:=k) Om;have iy:=UI k hlt;have ly:∀{k'},Ext h' k'->aq none (cN x.sn 1 k) (λb=>k'[b]?)=some (.str (aM x.ev k),.au):=λ{k'} e=>hld k hlt k' ((Sb.trans hx).trans e)
  have ii:=hixs k hlt;have hd:L.drop k=L[k]::L.drop (k+1):=Si
  obtain⟨r,Vs⟩:∃r,r=L[k]:=⟨_,rfl⟩;have Wa:r.1<6:=by rw[Vs];exact XM _ (Za _)
  rw[hd,<-Vs,mS]at hu;rw[<-Vs]at ii;have qg:=BN r Wa;cases SY:r.2 with
  |false=>
   rw[SY]at hu qg;refine Rs (A9 t2 t3 t5 t6 @Tl e3 @ii @qg e5) ?_;exact JR
  |true=>
   rw[SY]at hu qg;have er:r=(r.1,true):=by rw[<-SY]
   rw[er]at ii qg;refine Rs (wP t2 t3 t5 t6 @Tl e3 @ii @qg @le @lr @aF @aI @iy @ly) ?_;refine WF.res T.c195 (r195 T ((o.ext (Sb.trans hx)).ext Xx) l Wa _) ?_;rintro _ g3 ⟨i,rfl,hi⟩;have qi:decide (i<0)= !dC V.an r.1 (aM x.ev k):=by rw[<-hi];by_cases h0:0<=i<;>simp[h0]<;>omega
   cases hh:dC V.an r.1 (aM x.ev k)with
   |true=>
    rw[hh]at hu qi;have qi:decide (i<0)=false:=qi;refine Rs (A6 t2 t3 t5 t6 @qi e5) ?_;exact JR
   |false=>
    rw[hh]at hu qi;have qi:decide (i<0)=true:=qi;have hu1:mS V.an x.ev L 0=true:=by rw[hu];rfl
    refine Rs (A5 t2 t3 t5 t6 @qi) ?_;refine⟨(Sb.trans hx).trans Xx,?_⟩;rw[B8,<-hL,Zb hu1]
 ·have e3:=fo hlt;have e4:k=L.length:=Om
  have UF:mS V.an x.ev L 0=false:=by rw[hu,e4,ZX];rfl
  have V4:=Sb.trans hx;rw[B8,<-hL,Y6 (by rw[UF];decide)];refine Rs (A6 t2 t3 t5 t6 @Tl e3) ?_;cases hLc:L with
  |nil=>
   have q0:decide ((0:Int)<(([] :List (Nat×Bool)).length:Int))=false:=rfl;refine Rs (A5 t2 t3 t5 t6 q0) ?_;exact⟨V4,rfl⟩
  |cons r rest=>
   rw[DB];have q0:decide ((0:Int)<((r::rest).length:Int))=true:=YW (by simp only[YV];omega);have WT:0<L.length:=by rw[hLc];simp
   have ii:vR (.str (xE d)) (.i 0)=some (.int .u8 ((la r).toNat:Int)):=by
    have:=hixs 0 WT;simp only[hLc,List.getElem_cons_zero]at this;exact this
   have Wa:r.1<6:=XM r (by rw[hLc];simp);have qg:=BN r Wa;have qu:aS 1 x.sn (.i 0)=some (cN x.sn 1 0,.au):=UI 0 WT;have ld0:∀{k':ah},Ext h' k'->aq none (cN x.sn 1 0) (λb=>k'[b]?)=some (.str (aM x.ev 0),.au):=λ{k'} e=>hld 0 WT k' (V4.trans e)
   cases SY:r.2 with
   |true=>
    rw[SY]at qg;have qg2:decide (((la r).toNat:Int)<97)=false:=YS (by have:=aad qg;omega);refine Rs (A7 t2 t3 t5 t6 q0 @ii @qg2) ?_;exact⟨V4,rfl⟩
   |false=>
    rw[SY]at qg;have qg2:decide (((la r).toNat:Int)<97)=true:=YW (by have:=of_decide_eq_false qg;omega);have ew:=Aw r Wa SY;refine Rs (wP t2 t3 t5 t6 q0 @ii @qg2 @le @lr @aF @aI @qu @ld0 @ew) ?_;refine WF.res T.c195 (r195 T (o.ext V4) l Wa _) ?_;rintro _ g3 ⟨i,rfl,hi⟩;cases hh:dC V.an r.1 (aM x.ev 0)with
    |true=>
     exact z159
    |false=>
     exact z159
end
section
variable {P:Program}(T:fp P) {h:ah}
include T
def r84{V}(o:aC h V)(l:eD V){n}(hn:n∈jG V.an)(t:Int):ay P 84 [.agg V.row,.str n,.i t] h (λv _=>v=.bool (fR V.an t n)):=by
 refine .nM 17 T.mix T.c84 ?_;intro ts hlen t0 t1 t2;unfold fn84;have RF:=@aC.box _ _ o;have hlt:=cR hn;have Sk:bn (jG V.an) n<V.aB.length:=by simpa [jG,RV.an]using hlt
 have ix:aS 2 V.s1 (.i ((bn (jG V.an) n:Nat):Int))=some (cN V.s1 2 (bn (jG V.an) n),.au):=o.i1.dG Sk;have ev:gu V.an n=V.aB[bn (jG V.an) n]:=de (f:=qH.name) (l:=V.aB) hn;have ld:∀{k':ah},Ext h k'->aq none (lL V.s1 2 (bn (jG V.an) n) 1) (λb=>k'[b]?)=some (.i (gu V.an n).last,.au):=λ{k'} e=>by
  rw[ev];exact o.i1.pW Sk rfl e
 refine Rs (A6 t0 t1 t2 @RF @jX @aF) ?_;refine WF.ce T.c141 (r141 T (o.ext Xx) l n) λg1=>?_
 have ei:cT (λy:qH=>decide (y.name=n)) V.aB=(bn (jG V.an) n:Int):=eT (f:=λy:qH=>y.name) hn;rw[ei];refine Rs (A5 t0 t1 t2 ix @ld) ?_;rfl
def r23{V}(o:aC h V)(l:eD V){x}(hx:aH h x.2 1 (x.1.aB.map ao))(hl:x.1.aB.length<2^30)(hk:∀n∈x.1.aB,n∈jG V.an)(t:Int):
  ay P 23 [.agg V.row,.agg (aX x),.i t] h (λv _=>v=.bool (cG V.an x.1 t)):=by
 refine .nM 23 T.mix T.c23 ?_;intro ts hlen t0 t1 t2;unfold fn23 gA;have RF:=@aC.box _ _ o;have ox:=hx.one;unfold aX at t1;refine Rs (A5 t0 t1 t2 @RF @ox) ?_;obtain⟨H,hH⟩:∃H,H=h++[ak.b V.row]++[ak.b [AV.str x.1.name,.str x.1.line,x.2]]:=⟨_,rfl⟩;obtain⟨sb,hsb⟩:∃sb,sb=(h++[ak.b V.row]).length:=⟨_,rfl⟩;have Sb:Ext h H:=by rw[hH];exact Xx
 have mr:H[h.length]? =some (.b V.row):=by rw[hH];exact(show Ext (h++[ak.b V.row]) _ from Xx).some a8
 have ms:H[sb]? =some (.b [AV.str x.1.name,.str x.1.line,x.2]):=by rw[hH,hsb];exact a8
 rw[<-hH,<-hsb];refine WL.inv T.mix (λn ts h'=>∃k:Nat,k<=x.1.aB.length/\n=x.1.aB.length-k/\Ext H h'/\cG V.an x.1 t=(x.1.aB.drop k).any (fR V.an t)/\
   ts.length=23/\slot ts 2=.i t/\slot ts 3=.ptr h.length 0/\slot ts 4=.ptr sb 0/\slot ts 7=.i k) x.1.aB.length
  ⟨0,Om,rfl,.refl _,rfl,Sn,(Sq t2),Sw,Sw,gM⟩ ?_
 rintro _ ts h' ⟨k,RJ,rfl,he,hi,hlen,t2,t3,t4,t7⟩;have lr:∀{kk n a},Ext h' kk->aq n (.ptr h.length a) (λz=>kk[z]?)=dE n a (.b V.row):=λ{_ _ _} e=>aA ((he.trans e).some mr)
 have ls:∀{kk n a},Ext h' kk->aq n (.ptr sb a) (λz=>kk[z]?)=dE n a (.b [AV.str x.1.name,.str x.1.line,x.2]):=λ{_ _ _} e=>aA ((he.trans e).some ms)
 by_cases hlt:k<x.1.aB.length
 ·have e3:=ee hlt;have e5:=wrapN (n:=k) Om;have ix:=hx.dG (kk:=.i64) hlt;have hd:x.1.aB.drop k=x.1.aB[k]::x.1.aB.drop (k+1):=Si
  have hm:=hk x.1.aB[k] (Za _);have ld:∀{kk:ah},Ext h' kk->aq none (cN x.2 1 k) (λb=>kk[b]?)=some (.str x.1.aB[k],.au):=λ{kk} e=>hx.kY hlt rfl ((Sb.trans he).trans e)
  rw[hd,abf]at hi;obtain⟨y,hy⟩:∃y,y=x.1.aB[k]:=⟨_,rfl⟩;rw[<-hy]at ld hi hm;refine Rs (kS t2 t3 t4 t7 @ls @lr hx.aJ e3 ix @ld @aF) ?_;refine WF.ce T.c84 (r84 T ((o.ext (Sb.trans he)).ext Xx) l hm t) λg3=>?_
  cases hr:fR V.an t y with
  |true=>
   rw[hr]at hi;refine Rs (A4 t2 t3 t4 t7) ?_;refine⟨(Sb.trans he).trans Xx,?_⟩;rw[hi];rfl
  |false=>
   rw[hr]at hi;refine Rs (A5 t2 t3 t4 t7 e5) ?_;exact⟨_,Om,k+1,Om,rfl,he.trans Xx,hi,rfl⟩
 ·have e3:=fo hlt;have e4:k=x.1.aB.length:=Om
  refine Rs (A7 t2 t3 t4 t7 @ls hx.aJ e3) ?_;refine⟨Sb.trans he,?_⟩;rw[hi,e4,ZX];rfl
def r24{V}(o:aC h V)(l:eD V)(ir:Nk V)(t:Int):ay P 24 [.agg V.row,.i t] h (λv h'=>aH h' v 1 ((fj V.an t).map ao)):=by
 refine .eP 33 T.mix T.c24 ?_;intro ts hlen t0 t1;unfold fn24 gA;have RF:=@aC.box _ _ o;refine Rs (A3 t0 t1 @RF) ?_;obtain⟨H,hH⟩:∃H,H=h++[ak.b V.row]:=⟨_,rfl⟩;have Sb:Ext h H:=by rw[hH];exact Xx
 have mr:H[h.length]? =some (.b V.row):=by rw[hH];exact a8
 rw[<-hH];have eu:fj V.an t=(V.aj.filter λx=>!cG V.an x.1 t).map λx=>x.1.name:=by
  exact JK
 rw[eu];refine WL.inv T.mix (λn ts h'=>∃(k:Nat) (out:AV),k<=V.aj.length/\n=V.aj.length-k/\Ext H h'/\Fr H.length h' out 1 ((((V.aj.take k).filter λx=>!cG V.an x.1 t).map λx=>x.1.name).map ao)/\
   ts.length=33/\slot ts 1=.i t/\slot ts 2=.ptr h.length 0/\slot ts 5=out/\slot ts 6=.i k) V.aj.length
  ⟨0,.af,Om,rfl,.refl _,.nil,Sn,(Sq t1),Sw,Sw,gM⟩ ?_
 rintro _ ts h' ⟨k,out,RJ,rfl,⟨g,rfl⟩,hfr,hlen,t1,t2,t5,t6⟩;have he:Ext H (H++g):=⟨_,rfl⟩;have lr:∀{kk n a},Ext (H++g) kk->aq n (.ptr h.length a) (λz=>kk[z]?)=dE n a (.b V.row):=λ{_ _ _} e=>aA ((he.trans e).some mr)
 have T3:=l.l2;by_cases hlt:k<V.aj.length
 ·have e3:=ee hlt;have e5:=wrapN (n:=k) Om;have ix:=o.i2.dG (kk:=.i64) hlt;obtain⟨y,hy⟩:∃y,y=V.aj[k]:=⟨_,rfl⟩;have SX:y∈V.aj:=by rw[hy];exact Za _
  have ld:∀{kk:ah},Ext (H++g) kk->aq (some 3) (cN V.s2 3 k) (λb=>kk[b]?)=some (.agg (aX y),.au):=λ{kk} e=>by rw[hy];exact o.i2.jD hlt ((Sb.trans he).trans e)
  have lf:∀{kk:ah},Ext (H++g) kk->aq none (lL V.s2 3 k 0) (λb=>kk[b]?)=some (.str y.1.name,.au):=λ{kk} e=>o.i2.pW hlt (by rw[<-hy];rfl) ((Sb.trans he).trans e)
  have R4:V.aj.take (k+1)=V.aj.take k++[y]:=by rw[hy,ZF,YU hlt];rfl
  have hsh:=ir.sh y SX;refine Rs (kS t1 t2 t5 t6 @lr @dy @aF o.i2.aJ e3 ix @ld) ?_;refine WF.ce T.c23 (r23 T ((o.ext (Sb.trans he)).ext Xx) l (((o.e2 y SX).ext (Sb.trans he)).ext Xx) hsh.2 hsh.1 t) λg3=>?_
  cases hs:cG V.an y.1 t with
  |true=>
   refine Rs (A6 t1 t2 t5 t6 @Zg e5) ?_;refine⟨_,Om,k+1,out,Om,rfl,?_,rfl,rfl⟩;rw[R4,aan];simp only[aaH,aaX,hs,Zg,ZM,Zf,Zr];exact hfr.app _
  |false=>
   refine Rs (A9 t1 t2 t5 t6 @Zq @lr @dy ix @lf) ?_;have Sg:((V.aj.take k).filter λx=>!cG V.an x.1 t).length<=V.aj.length:=ZL (ZD _ _) (by rw[ZR];omega);refine WR.fG (h0:=H) (cs:=(((V.aj.take k).filter λx=>!cG V.an x.1 t).map λx=>x.1.name).map ao) (ys:=[ao y.1.name]) ((hfr.app _).app _) (Fr.push (N:=0) (Zw _) [ao y.1.name] (by simp[ao])).ba De Si (by simp only[YY,YV,YX];omega) (by rw[YR,YR];exact⟨_,rfl⟩) ?_;intro g' RT hff hkp;have hrow:(((V.aj.take k).filter λx=>!cG V.an x.1 t).map λx=>x.1.name).map ao++[ao y.1.name]=(((V.aj.take (k+1)).filter λx=>!cG V.an x.1 t).map λx=>x.1.name).map ao:=by
    rw[R4,aan];simp only[aaH,aaX,hs,Zq,Zi,Y5,ZP,aaF]
   rw[hrow]at hff;rw[hrow];refine Rs (A5 t1 t2 t5 t6 e5) ?_;exact GX
 ·exact z75
end
def any_eq{α:Type}{p:α->Bool}{L:List α}{k:Nat}(hlt:k<L.length):(L.drop k).any p=(p L[k]||(L.drop (k+1)).any p):=by
 have hd:L.drop k=L[k]::L.drop (k+1):=Si
 rw[hd,abf]
section
variable {P:Program}(T:fp P) {h:ah}
include T
def r263(n:Int):ay P 263 [.i n] h (λv _=>v=.dM [.str (mT n),.str (jS n)]):=by
 refine .kU 11 T.mix T.c263 ?_;intro ts hlen t0;unfold fn263 gA;by_cases h1:n=1
 ·have q1:decide (n=1)=true:=YW h1;refine Rs (A2 t0 q1) ?_;subst h1;rfl
 have q1:decide (n=1)=false:=YS h1;by_cases h2:n=2
 ·have q2:decide (n=2)=true:=YW h2;refine Rs (A3 t0 q1 q2) ?_;subst h2;rfl
 have q2:decide (n=2)=false:=YS h2;by_cases h3:n=3
 ·have q3:decide (n=3)=true:=YW h3;refine Rs (A4 t0 q1 q2 q3) ?_;subst h3;rfl
 have q3:decide (n=3)=false:=YS h3;refine Rs (A4 t0 q1 q2 q3) ?_;rw[mT,Y6 h1,Y6 h2,Y6 h3,jS,Y6 h1,Y6 h2];rfl
def r265{V:RV}(o:aC h V)(l:eD V)(n:By):ay P 265 [.agg V.row,.str n] h (λv _=>v=.bool (qb V.an n)):=by
 refine .eP 21 T.mix T.c265 ?_;intro ts hlen t0 t1;unfold fn265 gA;have RF:=@aC.box _ _ o;have hl:=l.l5;refine Rs (A3 t0 t1 @RF) ?_;refine WL.inv T.mix (λm ts h'=>∃k:Nat,k<=V.aN.length/\m=V.aN.length-k/\h' =h++[ak.b V.row]/\qb V.an n=(V.aN.drop k).any (λp=>decide (p.Cn=n))/\ts.length=21/\slot ts 1=.str n/\slot ts 2=.ptr h.length 0/\slot ts 5=.i k) V.aN.length
  ⟨0,Om,rfl,rfl,rfl,Sn,(Sq t1),Sw,gM⟩ ?_
 rintro _ ts _ ⟨k,hk,rfl,rfl,hi,hlen,t1,t2,t5⟩;have lb:∀{kk n a},Ext (h++[ak.b V.row]) kk->aq n (.ptr h.length a) (λz=>kk[z]?)=dE n a (.b V.row):=λ{_ _ _} e=>aA (e.some a8)
 by_cases hlt:k<V.aN.length
 ·have e3:=ee hlt;have ix:=o.i5.dG (kk:=.i64) hlt;have e5:=wrapN (n:=k) Om;rw[any_eq hlt]at hi;obtain⟨y,hy⟩:∃y,y=V.aN[k]:=⟨_,rfl⟩;have ld:∀{kk:ah},Ext h kk->aq none (lL V.s5 4 k 1) (λb=>kk[b]?)=some (.str y.Cn,.au):=λ{kk} e=>o.i5.pW hlt (by rw[<-hy];rfl) e
  rw[<-hy]at hi;cases hp:decide (y.Cn=n)with
  |true=>
   rw[hp]at hi;refine Rs (lQ t1 t2 t5 @lb @iG o.i5.aJ e3 ix @ld @hp) ?_;rw[hi];rfl
  |false=>
   rw[hp]at hi;refine Rs (kS t1 t2 t5 @lb @iG o.i5.aJ e3 ix @ld @hp e5) ?_;exact⟨_,Om,k+1,Om,rfl,hi,rfl⟩
 ·have e3:=fo hlt;have e4:k=V.aN.length:=Om
  refine Rs (A7 t1 t2 t5 @lb @iG o.i5.aJ e3) ?_;rw[hi,e4,ZX];rfl
def r264{V}(o:aC h V)(l:eD V){n}(hn:n∈iC V.an):ay P 264 [.agg V.row,.str n] h (λv _=>v=.str (gS V.an n).gives):=by
 refine .eP 13 T.mix T.c264 ?_;intro ts hlen t0 t1;unfold fn264;have RF:=@aC.box _ _ o;have hlt:=cR hn;have Sk:bn (iC V.an) n<V.aE.length:=by simpa [iC,RV.an]using hlt
 have ix:aS 4 V.s3 (.i ((bn (iC V.an) n:Nat):Int))=some (cN V.s3 4 (bn (iC V.an) n),.au):=o.i3.dG Sk;have ev:gS V.an n=(V.aE[bn (iC V.an) n]).1:=by
  rw[gS,de (f:=iE.name) (l:=V.an.aE) (d:=B6) hn];exact Bb
 have ld:∀{k':ah},Ext h k'->aq none (lL V.s3 4 (bn (iC V.an) n) 1) (λb=>k'[b]?)=some (.str (gS V.an n).gives,.au):=λ{k'} e=>by
  rw[ev];exact o.i3.pW Sk rfl e
 refine Rs (A5 t0 t1 @RF @fP @aF) ?_;refine WF.ce T.c55 (r55 T (o.ext Xx) l n) λg1=>?_
 have ei:cT (λy:iE×AV=>decide (y.1.name=n)) V.aE=(bn (iC V.an) n:Int):=by
  rw[iI];exact eT (f:=λy:iE×AV=>y.1.name) (by rw[<-iI];exact hn)
 exact Dw
def r31{s l}(hs:aH h s 1 (l.map aK))(hl:l.length<2^30)(hb:∀s∈l,-1<=s/\s<=999999999):ay P 31 [s] h (λv _=>v=.i (fZ l)):=by
 refine .kU 20 T.mix T.c31 ?_;intro ts hlen t0;unfold fn31 gA;refine Rs t0 ?_;refine WL.inv T.mix (λn ts h'=>∃k:Nat,k<=l.length/\n=l.length-k/\h' =h/\ts.length=20/\slot ts 0=s/\slot ts 3=.i (fZ (l.take k))/\slot ts 4=.i k) l.length
  ⟨0,Om,rfl,rfl,Sn,(Sq t0),gM,gM⟩ ?_
 rintro _ ts h' ⟨k,hk,rfl,rfl,hlen,t0,t3,t4⟩;by_cases hlt:k<l.length
 ·have e3:=ee hlt;have e5:=wrapN (n:=k) Om;have ix:=hs.dG (kk:=.i64) hlt;have ld:=hs.kY (i:=k) (x:=.i l[k]) hlt rfl (Ext.refl _);have hd:=uo (l.take k) 1 (λs hs=>hb s (ZW hs)) De De;have T5:=hb _ (Za hlt);have Sh:-16777213<fZ (l.take k)/\fZ (l.take k)<16777213:=hd;have w1:IntKind.i64.wrap (257*fZ (l.take k))=257*fZ (l.take k):=bu Om Om;have w2:IntKind.i64.wrap (257*fZ (l.take k)+l[k])=257*fZ (l.take k)+l[k]:=bu Om Om;have er:=oG (k:=.i64) (a:=257*fZ (l.take k)+l[k]) (b:=16777213) De;have R4:fZ (l.take (k+1))=(257*fZ (l.take k)+l[k]).tmod 16777213:=by
   exact z157
  rw[<-R4]at er;refine Rs (kS t0 t3 t4 hs.aJ e3 ix @ld @w1 @w2 @er e5) ?_;exact⟨_,Om,k+1,Om,rfl,rfl,rfl⟩
 ·have e3:=fo hlt;have e4:k=l.length:=Om
  refine Rs (A5 t0 t3 t4 hs.aJ e3) ?_;rw[e4,ZA]
def r60{x}(hx:aH h x.2 1 (x.1.bB.map aK))(hl:x.1.bB.length<2^30):ay P 60 [.agg (bO x)] h (λv h'=>aH h' v 1 ((cW x.1.bB 0).map aK)):=by
 refine .kU 23 T.mix T.c60 ?_;intro ts hlen t0;unfold fn60 gA;have ox:=hx.one;unfold bO at t0;refine Rs (A2 t0 @ox) ?_;obtain⟨H0,VS⟩:∃H0,H0=h++[ak.b [AV.str x.1.name,.str x.1.mod,x.2]]:=⟨_,rfl⟩;have e0:Ext h H0:=by rw[VS];exact Xx
 have lb:∀{k n a},Ext H0 k->aq n (.ptr h.length a) (λz=>k[z]?)=dE n a (.b [AV.str x.1.name,.str x.1.mod,x.2]):=λ{_ _ _} e=>aA (e.some (by rw[VS];exact a8))
 rw[<-VS];refine WL.inv T.mix (λn ts h'=>∃(k:Nat) (out:AV),k<=x.1.bB.length/\n=x.1.bB.length-k/\Ext H0 h'/\Fr H0.length h' out 1 ((cW (x.1.bB.take k) 0).map aK)/\
   ts.length=23/\slot ts 1=.ptr h.length 0/\slot ts 3=out/\slot ts 4=.i k) x.1.bB.length
  ⟨0,.af,Om,rfl,Ext.refl _,.nil,Sn,(Sq t0),(Sq t0),gM⟩ ?_
 rintro _ ts _ ⟨k,out,hk',rfl,⟨g,rfl⟩,hfr,hlen,t1,t3,t4⟩;by_cases hlt:k<x.1.bB.length
 ·have e3:=ee hlt;have ix:=hx.dG (kk:=.i64) hlt;have ld:∀{k':ah},Ext H0 k'->aq none (cN x.2 1 k) (λb=>k'[b]?)=some (.i x.1.bB[k],.au):=λ{k'} e=>hx.kY hlt rfl (e0.trans e)
  have e5:=wrapN (n:=k) Om;have R4:cW (x.1.bB.take (k+1)) 0=cW (x.1.bB.take k) 0++(if x.1.bB[k]<0 then [(k:Int)]else []):=by
   exact z91
  by_cases hn:x.1.bB[k]<0
  ·have q:decide (x.1.bB[k]<0)=true:=YW hn;rw[Zb hn]at R4;refine Rs (A9 t1 t3 t4 @lb hx.aJ e3 ix @ld q) ?_;have T3:=j6 (l:=x.1.bB.take k) (i:=0);refine WR.fG (h0:=H0) (cs:=(cW (x.1.bB.take k) 0).map aK) (ys:=[aK (k:Int)]) (hfr.app _) (Fr.push (N:=0) (Zw _) [aK (k:Int)] Si).ba De Si (by simp only[YY,ZR,YV,YX]at T3 ⊢;omega) Xx ?_;intro g' RT hff hkp;have hrow:(cW (x.1.bB.take k) 0).map aK++[aK (k:Int)]=(cW (x.1.bB.take (k+1)) 0).map aK:=by rw[R4,Y5];rfl
   rw[hrow]at hff;rw[hrow];refine Rs (A4 t1 t3 t4 e5) ?_;exact GX
  ·have q:decide (x.1.bB[k]<0)=false:=YS hn;rw[Y6 hn,Zr]at R4;refine Rs (lQ t1 t3 t4 @lb hx.aJ e3 ix @ld q e5) ?_;refine⟨_,Om,k+1,out,Om,rfl,?_,rfl,rfl⟩;rw[R4];exact hfr
 ·have e3:=fo hlt;have e4:k=x.1.bB.length:=Om
  refine Rs (A6 t1 t3 t4 @lb hx.aJ e3) ?_;rw[e4,ZA]at hfr;exact⟨e0.trans Xx,hfr.ba⟩
def r127{V:RV}(o:aC h V)(l:eD V){M:List (By)}{s:AV}(hs:aH h s 1 (M.map ao))(hM:M.length<2^40):ay P 127 [.agg V.row,s] h (λv h'=>aH h' v 1 (((V.an.aj.filter λx=>decide (x.line∈M)).map gN.name).map ao)):=by
 refine .eP 32 T.mix T.c127 ?_;intro ts hlen t0 t1;unfold fn127 gA;have RF:=@aC.box _ _ o;refine Rs (A3 t0 t1 @RF) ?_;obtain⟨H,hH⟩:∃H,H=h++[ak.b V.row]:=⟨_,rfl⟩;have Sb:Ext h H:=by rw[hH];exact Xx
 have mr:H[h.length]? =some (.b V.row):=by rw[hH];exact a8
 rw[<-hH];have eu:(V.an.aj.filter λx=>decide (x.line∈M)).map gN.name=(V.aj.filter λx=>decide (x.1.line∈M)).map λx=>x.1.name:=by
  simp only[RV.an,aaM,aaA];rfl
 rw[eu];refine WL.inv T.mix (λn ts h'=>∃(k:Nat) (out:AV),k<=V.aj.length/\n=V.aj.length-k/\Ext H h'/\Fr H.length h' out 1 ((((V.aj.take k).filter λx=>decide (x.1.line∈M)).map λx=>x.1.name).map ao)/\
   ts.length=32/\slot ts 1=s/\slot ts 2=.ptr h.length 0/\slot ts 5=out/\slot ts 6=.i k) V.aj.length
  ⟨0,.af,Om,rfl,.refl _,.nil,Sn,(Sq t1),Sw,Sw,gM⟩ ?_
 rintro _ ts h' ⟨k,out,RJ,rfl,⟨g,rfl⟩,hfr,hlen,t1,t2,t5,t6⟩;have he:Ext H (H++g):=⟨_,rfl⟩;have lr:∀{kk n a},Ext (H++g) kk->aq n (.ptr h.length a) (λz=>kk[z]?)=dE n a (.b V.row):=λ{_ _ _} e=>aA ((he.trans e).some mr)
 have T3:=l.l2;by_cases hlt:k<V.aj.length
 ·have e3:=ee hlt;have e5:=wrapN (n:=k) Om;have ix:=o.i2.dG (kk:=.i64) hlt;obtain⟨y,hy⟩:∃y,y=V.aj[k]:=⟨_,rfl⟩;have lf:∀{kk:ah},Ext (H++g) kk->aq none (lL V.s2 3 k 0) (λb=>kk[b]?)=some (.str y.1.name,.au):=λ{kk} e=>o.i2.pW hlt (by rw[<-hy];rfl) ((Sb.trans he).trans e)
  have lg:∀{kk:ah},Ext (H++g) kk->aq none (lL V.s2 3 k 1) (λb=>kk[b]?)=some (.str y.1.line,.au):=λ{kk} e=>o.i2.pW hlt (by rw[<-hy];rfl) ((Sb.trans he).trans e)
  have R4:V.aj.take (k+1)=V.aj.take k++[y]:=by rw[hy,ZF,YU hlt];rfl
  refine Rs (lQ t1 t2 t5 t6 @lr @dy o.i2.aJ e3 ix @lg) ?_;refine WF.ce T.c35 (r35 T (hs.ext (Sb.trans he)) hM _) λg3=>?_
  cases hd:decide (y.1.line∈M)with
  |false=>
   refine Rs (A5 t1 t2 t5 t6 e5) ?_;exact QC
  |true=>
   refine Rs (A8 t1 t2 t5 t6 @lr @dy ix @lf) ?_;have Sg:((V.aj.take k).filter λx=>decide (x.1.line∈M)).length<=V.aj.length:=ZL (ZD _ _) (by rw[ZR];omega);refine WR.fG (h0:=H) (cs:=(((V.aj.take k).filter λx=>decide (x.1.line∈M)).map λx=>x.1.name).map ao) (ys:=[ao y.1.name]) ((hfr.app _).app _) (Fr.push (N:=0) (Zw _) [ao y.1.name] (by simp[ao])).ba De Si (by simp only[YY,YV,YX];omega) (by rw[YR,YR];exact⟨_,rfl⟩) ?_;intro g' RT hff hkp;have hrow:(((V.aj.take k).filter λx=>decide (x.1.line∈M)).map λx=>x.1.name).map ao++[ao y.1.name]=(((V.aj.take (k+1)).filter λx=>decide (x.1.line∈M)).map λx=>x.1.name).map ao:=by
    exact Nw
   rw[hrow]at hff;rw[hrow];refine Rs (A5 t1 t2 t5 t6 e5) ?_;exact GX
 ·exact z75
end
end Go.Abs
namespace Go.Abs
section
variable {P:Program}{ro:Option Nat->Prop}{ks:List Kt}{ts:TS}{Q:Ex->TS->ah->Prop}
def WR.Ft{h s y es cs ys h0 w d l}
  (hs:Fr h0.length h s es cs) (hy:aH h y es ys) (hes:0<es) (ep:(cs.length+ys.length)*w<=2^46) (he:Ext h0 h)
  (K:∀s' g,Fr h0.length (h0++g) s' es (cs++ys)->(∀b,b<h.length->sB s≠some b->(h0++g)[b]? =h[b]?)->h.length<=(h0++g).length->WP P ro l ks (put ts d s') (h0++g) Q):
  WR P ro (pF es w s y (λb=>h[b]?) h.length) false d l ks ts h Q:=by
 by_cases hn:ys.length=0
 ·have hys:ys=[]:=ZZ.1 hn;subst hys;obtain⟨g,rfl⟩:=he;rw[Zr]at K;have e:pF es w s y (λb=>(h0++g)[b]?) (h0++g).length=some (s,.au):=by
   simp only[pF,hy.fg];cases hs with
   |nil=>simp
   |mk hN hb h'=>simp
  rw[e,jm];exact K s g hs (λ_ _ _=>rfl) (Y9 _)
 ·refine WR.fG hs hy hes Om ep he λg h1 h2 h3=>K _ g h2 (λb hb hne=>h3 b hb λb0 o n e Yn hbb=>hne (by rw[Yn,hbb];rfl)) Om
end
def Eh{R}(w:eJ R){x}(hx:x∈R.aE):gS R x.name=x:=mi (f:=iE.name) w.n3.nd hx
def pS{m l x}:cP m (l++[x])=if x.name∈cP m l then cP m l++x.bA else cP m l:=by
 rw[cP,List.foldl_append];rfl
def vC{m}:∀{l},(∀x∈l,x.bA.length<=2)->(cP m l).length<=1+2*l.length:=by
 intro l;have key:∀(l:List iE) (a:List (By)),(∀x∈l,x.bA.length<=2)->(l.foldl (λn x=>if x.name∈n then n++x.bA else n) a).length<=a.length+2*l.length:=by
  intro l
  induction l with
  |nil=>intro a _;simp
  |cons x l ih=>
   intro a hl;have h1:=hl x Si;have:=ih (if x.name∈a then a++x.bA else a) (λy hy=>hl y (ZG _ hy));rw[abo];refine ZL this ?_;split<;>simp only[YP,YV]<;>omega
 intro hl;exact key l [m] hl
set_option maxRecDepth 10000
attribute [local irreducible] WP WC WE WB WR WF WL WG fU WM
section
variable {P:Program}(T:fp P) {h:ah}
include T
def r58{V}(o:aC h V)(w:eJ V.an)(m:By):ay P 58 [.agg V.row,.str m] h (λv h'=>aH h' v 1 (((mI V.an m).map iE.name).map ao)):=by
 refine .eP 60 T.mix T.c58 ?_;intro ts hlen t0 t1;unfold fn58 gA;have RF:=@aC.box _ _ o;have l:=w.len;have hn32:V.aE.length<=32:=by have:=w.l3;simpa [RV.an]using this
 have hin:∀x∈V.an.aE,x.bA.length<=2:=λx hx=>(w.md x hx).2.1
 have hml:V.an.aE.length=V.aE.length:=by simp[RV.an]
 have ew:IntKind.i64.wrap ((V.aE.length:Int)-1)=(V.aE.length:Int)-1:=bu Om Om;have lb0:∀{kk n a},Ext (h++[ak.b V.row]) kk->aq n (.ptr h.length a) (λz=>kk[z]?)=dE n a (.b V.row):=λ{_ _ _} e=>aA (e.some a8)
 refine Rs (A7 t0 t1 @RF @lb0 @fP o.i3.aJ @ew) ?_;obtain⟨H,hH⟩:∃H,H=h++[ak.b V.row]:=⟨_,rfl⟩;have Sb:Ext h H:=by rw[hH];exact Xx
 have mr:H[h.length]? =some (.b V.row):=by rw[hH];exact a8
 rw[<-hH];refine WL.inv T.mix (λn ts h'=>∃(k:Nat) (ws:AV),k<=V.aE.length/\n=V.aE.length-k/\Ext H h'/\aH h' ws 1 ((cP m (V.an.aE.reverse.take k)).map ao)/\
   ts.length=60/\slot ts 2=.ptr h.length 0/\slot ts 5=ws/\slot ts 6=.i ((V.aE.length:Int)-1-k)) V.aE.length
  ⟨0,.slice H.length 0 1 1,Om,rfl,⟨_,rfl⟩,(Fr.push (N:=0) (Zw _) [ao m] (by simp[ao])).ba,Sn,Sw,Sw,(by simp only[aQ,aT,bo,bp,reduceAdd,reduceMul,reduceLeDiff,reduceEqDiff,bz,hlen,Zf,Zi];simp)⟩ ?_
 clear t0 t1 hlen lb0;clear ts;rintro _ ts h' ⟨k,ws,hk,rfl,⟨g,rfl⟩,Vl,hlen,t2,t5,t6⟩;have he:Ext H (H++g):=⟨_,rfl⟩;have lr:∀{kk n a},Ext (H++g) kk->aq n (.ptr h.length a) (λz=>kk[z]?)=dE n a (.b V.row):=λ{_ _ _} e=>aA ((he.trans e).some mr)
 have hwl:=vC (m:=m) (l:=V.an.aE.reverse.take k) (λx hx=>hin x (List.mem_reverse.1 (ZW hx)));have htl:(V.an.aE.reverse.take k).length<=32:=by rw[ZR,aaP];omega
 by_cases hlt:k<V.aE.length
 ·have hi:V.aE.length-1-k<V.aE.length:=Om
  have ei:(V.aE.length:Int)-1-k=((V.aE.length-1-k:Nat):Int):=Om
  have e3:decide (0<=(V.aE.length:Int)-1-k)=true:=YW Om;have e5:IntKind.i64.wrap ((V.aE.length:Int)-1-k-1)=(V.aE.length:Int)-1-((k+1:Nat):Int):=by rw[bu Om Om];omega
  have ix:aS 4 V.s3 (.i ((V.aE.length:Int)-1-k))=some (cN V.s3 4 (V.aE.length-1-k),.au):=by rw[ei];exact o.i3.dG hi
  obtain⟨y,hy⟩:∃y,y=V.aE[V.aE.length-1-k]:=⟨_,rfl⟩;have SX:y∈V.aE:=by rw[hy];exact Za _
  have ld:∀{kk:ah},Ext (H++g) kk->aq (some 4) (cN V.s3 4 (V.aE.length-1-k)) (λb=>kk[b]?)=some (.agg (aV y),.au):=λ{kk} e=>by rw[hy];exact o.i3.jD hi ((Sb.trans he).trans e)
  have R4:V.an.aE.reverse.take (k+1)=V.an.aE.reverse.take k++[y.1]:=by
   have hk':k<V.an.aE.reverse.length:=by rw[aaP];omega
   rw[ZF,YU hk',List.getElem_reverse];simp only[RV.an,Z6,YY,Option.toList_some,hy]
  have oy:=(o.e3 y SX).one;have hy3:=o.e3 y SX;unfold aV at ld;refine Rs (A9 t2 t5 t6 e3 @lr @fP ix @ld @oy) ?_;refine WF.ce T.c35 (r35 T (Vl.ext Xx) Om _) λg3=>?_
  cases hd:decide (y.1.name∈cP m (V.an.aE.reverse.take k))with
  |false=>
   refine Rs (A4 t2 t5 t6 e5) ?_;refine⟨_,Om,k+1,ws,Om,rfl,?_,rfl,rfl⟩;rw[R4,pS,Y6 (of_decide_eq_false hd)];exact Vl.ext Xx
  |true=>
   refine Rs (A3 t2 t5 t6) ?_;obtain⟨H1,Wl⟩:∃H1,H1=H++g++[ak.b [AV.str y.1.name,.str y.1.gives,.str y.1.line,y.2]]++g3:=⟨_,rfl⟩;obtain⟨bx,RF⟩:∃bx,bx=(H++g).length:=⟨_,rfl⟩;have Tf:Ext (H++g) H1:=by rw[Wl];exact Xx
   have mx:H1[bx]? =some (.b [AV.str y.1.name,.str y.1.gives,.str y.1.line,y.2]):=by rw[Wl,RF];exact(show Ext (H++g++[ak.b [AV.str y.1.name,.str y.1.gives,.str y.1.line,y.2]]) _ from Xx).some a8
   have hbl:bx<H1.length:=(YQ.1 mx).1;rw[<-Wl,<-RF];refine pa (λh=>h[bx]? =some (.b [AV.str y.1.name,.str y.1.gives,.str y.1.line,y.2])) ?_;refine c9 mx rfl rfl ?_;refine Rs t2 ?_;have x2:Ext H1 (H1++[ak.b []]):=⟨_,rfl⟩;have m2:(λh:ah=>h[bx]? =some (.b [AV.str y.1.name,.str y.1.gives,.str y.1.line,y.2])) (H1++[ak.b []]):=x2.some mx;refine c9 m2 rfl rfl ?_;refine Rs (A2 t2 t5) ?_;refine c9 m2 rfl rfl ?_;refine Rs (A2 t2 t5) ?_;refine WR.ql (N:=H1.length) a8 (Y9 _) (Vl.ext (Tf.trans x2)) (by simp only[YY];omega) λs' g5 YD=>?_
   have x3:Ext H1 (H1++[ak.b []]++g5):=Xx;have m3:(λh:ah=>h[bx]? =some (.b [AV.str y.1.name,.str y.1.gives,.str y.1.line,y.2])) (H1++[ak.b []]++g5):=x3.some mx;refine Rs (A2 t2 t5) ?_;refine c9 m3 rfl rfl ?_;refine Rs (A2 t2 t5) ?_;refine kW m3 (v:=y.2) (λz hz=>?_) ?_
   ·simp only[aQ,aT,bo,bp,reduceAdd,reduceMul,reduceLeDiff,reduceEqDiff,bz,hlen,Zf,Zi,t2,aA hz]
   refine Rs (A2 t2 t5) ?_;refine c9 m3 rfl rfl ?_;refine Rs (A2 t2 t5) ?_;have S2:y.1.bA.length<=2:=hin y.1 (Zo SX);refine WR.Ft (h0:=H1) (ys:=y.1.bA.map ao) YD (hy3.ext (((Sb.trans he).trans Tf).trans x3)) De (by simp only[YY];omega) x3 λs6 g6 hf6 hk6 hl6=>?_
   have m6:(λh:ah=>h[bx]? =some (.b [AV.str y.1.name,.str y.1.gives,.str y.1.line,y.2])) (H1++g6):=(Ext.app g6 (Ext.refl H1)).some mx;refine Rs (A2 t2 t5) ?_;refine o9 m6 rfl ?_;refine Rs (A4 t2 t5 t6 e5) ?_;refine⟨_,Om,k+1,s6,Om,rfl,⟨_,by rw[Wl];simp only[YR];rfl⟩,?_,rfl,rfl⟩;rw[R4,pS,Zb (aad hd),Y5];exact hf6.ba
 ·have e3:decide (0<=(V.aE.length:Int)-1-k)=false:=YS Om;have e4:k=V.aE.length:=Om
  refine Rs (A4 t2 t5 t6 e3) ?_;have hns:cP m (V.an.aE.reverse.take k)=cP m V.an.aE.reverse:=by rw[e4,<-hml,<-aaP,ZA]
  rw[hns]at Vl hwl;have eu:(mI V.an m).map iE.name=(V.aE.filter λx=>decide (x.1.name∈cP m V.an.aE.reverse)).map λx=>x.1.name:=by
   rw[<-pr,iV,aaA];rfl
  rw[eu];obtain⟨W,hW⟩:∃W,W=cP m V.an.aE.reverse:=⟨_,rfl⟩;rw[<-hW]at Vl hwl ⊢;have hwl2:W.length<=65:=Om
  clear hwl;refine WL.inv T.mix (λn ts h'=>∃(k:Nat) (out:AV),k<=V.aE.length/\n=V.aE.length-k/\Ext (H++g) h'/\Fr (H++g).length h' out 1 ((((V.aE.take k).filter λx=>decide (x.1.name∈W)).map λx=>x.1.name).map ao)/\
    ts.length=60/\slot ts 2=.ptr h.length 0/\slot ts 5=ws/\slot ts 8=out/\slot ts 9=.i k) V.aE.length
   ⟨0,.af,Om,rfl,.refl _,.nil,Sn,(Sq t2),(Sq t5),Sw,gM⟩ ?_
  clear t2 t5 t6 hlen lr hlt e3 e4 hk htl hns;clear ts k;rintro _ ts _ ⟨k,out,RJ,rfl,⟨g2,rfl⟩,hfr,hlen,t2,t5,t8,t9⟩;have RS:Ext (H++g) (H++g++g2):=⟨_,rfl⟩;have lr:∀{kk n a},Ext (H++g++g2) kk->aq n (.ptr h.length a) (λz=>kk[z]?)=dE n a (.b V.row):=λ{_ _ _} e=>aA (((he.trans RS).trans e).some mr)
  by_cases hlt:k<V.aE.length
  ·have e3:=ee hlt;have e5:=wrapN (n:=k) Om;have ix:=o.i3.dG (kk:=.i64) hlt;obtain⟨y,hy⟩:∃y,y=V.aE[k]:=⟨_,rfl⟩;have lf:∀{kk:ah},Ext (H++g++g2) kk->aq none (lL V.s3 4 k 0) (λb=>kk[b]?)=some (.str y.1.name,.au):=λ{kk} e=>o.i3.pW hlt (by rw[<-hy];rfl) (((Sb.trans he).trans RS).trans e)
   have R4:V.aE.take (k+1)=V.aE.take k++[y]:=by rw[hy,ZF,YU hlt];rfl
   refine Rs (lQ t2 t5 t8 t9 @lr @fP o.i3.aJ e3 ix @lf) ?_;refine WF.ce T.c35 (r35 T (Vl.ext RS) Om _) λg3=>?_
   cases hd:decide (y.1.name∈W)with
   |false=>
    refine Rs (A5 t2 t5 t8 t9 e5) ?_;exact QC
   |true=>
    refine Rs (A8 t2 t5 t8 t9 @lr @fP ix @lf) ?_;have Sg:((V.aE.take k).filter λx=>decide (x.1.name∈W)).length<=V.aE.length:=ZL (ZD _ _) (by rw[ZR];omega);refine WR.fG (h0:=H++g) (cs:=(((V.aE.take k).filter λx=>decide (x.1.name∈W)).map λx=>x.1.name).map ao) (ys:=[ao y.1.name]) ((hfr.app _).app _) (Fr.push (N:=0) (Zw _) [ao y.1.name] (by simp[ao])).ba De Si (by simp only[YY,YV,YX];omega) (by rw[YR,YR];exact⟨_,rfl⟩) ?_;intro g' RT hff hkp;have hrow:(((V.aE.take k).filter λx=>decide (x.1.name∈W)).map λx=>x.1.name).map ao++[ao y.1.name]=(((V.aE.take (k+1)).filter λx=>decide (x.1.name∈W)).map λx=>x.1.name).map ao:=by
     exact Nw
    rw[hrow]at hff;rw[hrow];refine Rs (A5 t2 t5 t8 t9 e5) ?_;exact GX
  ·have e3:=fo hlt;have e4:k=V.aE.length:=Om
   refine Rs (A8 t2 t5 t8 t9 @lr @fP o.i3.aJ e3) ?_;rw[e4,ZA]at hfr;exact⟨(Sb.trans he).trans RS,hfr.ba⟩
def r59{V}(o:aC h V)(w:eJ V.an)(m:By):ay P 59 [.agg V.row,.str m] h (λv h'=>aH h' v 1 (((jd V.an m).map gZ.name).map ao)):=by
 refine .eP 64 T.mix T.c59 ?_;intro ts hlen t0 t1;unfold fn59 gA;have RF:=@aC.box _ _ o;have l:=w.len;have hn32:V.aE.length<=32:=by have:=w.l3;simpa [RV.an]using this
 have hml:V.an.aE.length=V.aE.length:=by simp[RV.an]
 refine Rs (A4 t0 t1 @RF @aF) ?_;refine WF.res T.c58 (r58 T (o.ext Xx) w m) ?_;rintro ns g0 hns;obtain⟨M,hM⟩:∃M,M=mI V.an m:=⟨_,rfl⟩;rw[<-hM]at hns;have hMm:∀x∈M,x∈V.an.aE:=λx hx=>by rw[hM]at hx;exact(aaa.1 hx).1
 have hMl:M.length<=32:=by
  have h1:M.length<=V.an.aE.length:=by rw[hM];unfold mI;exact ZD _ _
  omega
 obtain⟨H,hH⟩:∃H,H=h++[ak.b V.row]++g0:=⟨_,rfl⟩;have Sb:Ext h H:=by rw[hH];exact Xx
 have mr:H[h.length]? =some (.b V.row):=by rw[hH];exact(show Ext (h++[ak.b V.row]) _ from Xx).some a8
 rw[<-hH]at hns ⊢;rw[aaA]at hns;refine Rs (A2 t0 t1) ?_;obtain⟨F,hF⟩:∃F:List iE->List (By),F=λl=>(l.filter λx=>decide (x.bA=[])).map iE.line:=⟨_,rfl⟩
 refine WL.inv T.mix (λn ts h'=>∃(k:Nat) (out:AV),k<=M.length/\n=M.length-k/\Ext H h'/\Fr H.length h' out 1 ((F (M.take k)).map ao)/\
   ts.length=64/\slot ts 2=.ptr h.length 0/\slot ts 5=ns/\slot ts 6=out/\slot ts 7=.af/\slot ts 8=.i k) M.length
  ⟨0,.af,Om,rfl,.refl _,(by rw[hF];exact .nil),Sn,Sw,Sw,Sw,Sw,gM⟩ ?_
 rintro _ ts _ ⟨k,out,hk,rfl,⟨g,rfl⟩,hfr,hlen,t2,t5,t6,t7,t8⟩;have he:Ext H (H++g):=⟨_,rfl⟩;have lr:∀{kk n a},Ext (H++g) kk->aq n (.ptr h.length a) (λz=>kk[z]?)=dE n a (.b V.row):=λ{_ _ _} e=>aA ((he.trans e).some mr)
 have hFl:∀j,(F (M.take j)).length<=M.length:=λj=>by
  rw[hF];simp only[YY];exact ZL (ZD _ _) (by rw[ZR];omega)
 by_cases hlt:k<M.length
 ·have e3:=ee hlt;have e5:=wrapN (n:=k) Om;have ix:=hns.dG (kk:=.i64) hlt;obtain⟨x,hx⟩:∃x,x=M[k]:=⟨_,rfl⟩;have SG:x∈V.an.aE:=hMm x (by rw[hx];exact Za _);have lf:∀{kk:ah},Ext (H++g) kk->aq none (cN ns 1 k) (λb=>kk[b]?)=some (.str x.name,.au):=λ{kk} e=>hns.kY hlt (by rw[<-hx];rfl) (he.trans e)
  have T2:x.name∈iC V.an:=Zo SG;have hps:=cR T2;have Tn:bn (iC V.an) x.name<V.aE.length:=by simpa [iC,RV.an]using hps
  have iy:aS 4 V.s3 (.i ((bn (iC V.an) x.name:Nat):Int))=some (cN V.s3 4 (bn (iC V.an) x.name),.au):=o.i3.dG Tn;obtain⟨y,hy⟩:∃y,y=V.aE[bn (iC V.an) x.name]:=⟨_,rfl⟩;have SX:y∈V.aE:=by rw[hy];exact Za _
  have Wr:y.1=x:=by
   have e1:=Eh w SG;rw[gS,de (f:=iE.name) (l:=V.an.aE) (d:=B6) T2]at e1;rw[<-e1,hy];exact Bb
  have ly:∀{kk:ah},Ext (H++g) kk->aq (some 4) (cN V.s3 4 (bn (iC V.an) x.name)) (λb=>kk[b]?)=some (.agg (aV y),.au):=λ{kk} e=>by rw[hy];exact o.i3.jD Tn ((Sb.trans he).trans e)
  have R4:M.take (k+1)=M.take k++[x]:=by rw[hx,ZF,YU hlt];rfl
  have oy:=o.e3 y SX;have Sv:=oy.one;unfold aV at ly;refine Rs (mQ t2 t5 t6 t7 t8 hns.aJ e3 @lr @fP @aF ix @lf) ?_;refine WF.ce T.c55 (r55 T ((o.ext (Sb.trans he)).ext Xx) l _) λg1=>?_
  have ei:cT (λy:iE×AV=>decide (y.1.name=x.name)) V.aE=(bn (iC V.an) x.name:Int):=by
   rw[iI];exact eT (f:=λy:iE×AV=>y.1.name) (by rw[<-iI];exact T2)
  rw[ei];refine Rs (A9 t2 t5 t6 t7 t8 @iy @ly @Sv oy.aJ) ?_;rw[Wr];by_cases hin:x.bA=[]
  ·have q:decide ((x.bA.length:Int)=0)=true:=YW (by rw[hin];rfl);refine Rs (A6 t2 t5 t6 t7 t8 q) ?_;have Sg:=hFl k;refine WR.fG (h0:=H) (cs:=(F (M.take k)).map ao) (ys:=[ao x.line]) (((hfr.app _).app _).app _) (Fr.push (N:=0) (Zw _) [ao x.line] (by simp[ao])).ba De Si (by simp only[YY,YV,YX];omega) (by simp only[YR];exact⟨_,rfl⟩) ?_;intro g' RT hff hkp;have hrow:(F (M.take k)).map ao++[ao x.line]=(F (M.take (k+1))).map ao:=by
    rw[R4,hF];simp only[aan,aaH,aaX,hin,Zl,Zi,Y5,ZP,aaF]
   rw[hrow]at hff;rw[hrow];refine Rs (A6 t2 t5 t6 t7 t8 e5) ?_;exact GX
  ·have q:decide ((x.bA.length:Int)=0)=false:=YS (λz=>hin (ZZ.1 Om));refine Rs (A7 t2 t5 t6 t7 t8 q e5) ?_;refine⟨_,Om,k+1,out,Om,rfl,?_,rfl,rfl⟩;have:F (M.take (k+1))=F (M.take k):=by
    rw[R4,hF];simp only[aan,aaH,aaX,hin,Zt,ZM,Zf,Zr]
   rw[this];exact(hfr.app _).app _
 ·have e3:=fo hlt;have e4:k=M.length:=Om
  rw[e4,ZA]at hfr;have Sg:=hFl M.length;rw[ZA]at Sg;have hsrc:∀y∈V.lines,decide (y.name∈F M)=decide (y.name∈(mI V.an m).map iE.line):=λy hy=>by
   refine aaI.2 ?_;rw[<-hM,hF];simp only[Zv,aaa,ZJ];constructor
   ·rintro⟨x,⟨h1,_⟩,h2⟩;exact⟨x,h1,h2⟩
   ·rintro⟨x,h1,h2⟩;refine⟨x,⟨h1,?_⟩,h2⟩;rcases(w.md x (hMm x h1)).1 with⟨a,_⟩|⟨_,a⟩
    ·exact a
    ·have hnn:=w.n0.nm y.name (Zo hy);rw[<-h2,a]at hnn;cases hnn
  have eu:(jd V.an m).map gZ.name=(V.lines.filter λy=>decide (y.name∈F M)).map gZ.name:=by
   rw[jd];congr 1;exact(List.filter_congr λy hy=>hsrc y hy).symm
  rw[eu];obtain⟨W,hW⟩:∃W,W=F M:=⟨_,rfl⟩;rw[<-hW]at hfr Sg ⊢;have Vl:=hfr.ba;refine Rs (A7 t2 t5 t6 t7 t8 hns.aJ e3) ?_;refine WL.inv T.mix (λn ts h'=>∃(k:Nat) (res:AV),k<=V.lines.length/\n=V.lines.length-k/\Ext (H++g) h'/\Fr (H++g).length h' res 1 ((((V.lines.take k).filter λy=>decide (y.name∈W)).map gZ.name).map ao)/\
    ts.length=64/\slot ts 2=.ptr h.length 0/\slot ts 6=out/\slot ts 7=res/\slot ts 10=.i k) V.lines.length
   ⟨0,.af,Om,rfl,.refl _,.nil,Sn,(Sq t2),(Sq t6),(Sq t7),gM⟩ ?_
  clear t2 t5 t6 t7 t8 hlen lr hlt e3 e4 hk;clear ts k;rintro _ ts _ ⟨k,res,RJ,rfl,⟨g2,rfl⟩,Uq,hlen,t2,t6,t7,t10⟩;have RS:Ext (H++g) (H++g++g2):=⟨_,rfl⟩;have lr:∀{kk n a},Ext (H++g++g2) kk->aq n (.ptr h.length a) (λz=>kk[z]?)=dE n a (.b V.row):=λ{_ _ _} e=>aA (((he.trans RS).trans e).some mr)
  have T3:=l.l0;by_cases hlt:k<V.lines.length
  ·have e3:=ee hlt;have e5:=wrapN (n:=k) Om;have ix:=o.i0.dG (kk:=.i64) hlt;obtain⟨y,hy⟩:∃y,y=V.lines[k]:=⟨_,rfl⟩;have lf:∀{kk:ah},Ext (H++g++g2) kk->aq none (lL V.s0 3 k 0) (λb=>kk[b]?)=some (.str y.name,.au):=λ{kk} e=>o.i0.pW hlt (by rw[<-hy];rfl) (((Sb.trans he).trans RS).trans e)
   have R4:V.lines.take (k+1)=V.lines.take k++[y]:=by rw[hy,ZF,YU hlt];rfl
   refine Rs (lQ t2 t6 t7 t10 @lr @fI o.i0.aJ e3 ix @lf) ?_;refine WF.ce T.c35 (r35 T (Vl.ext RS) Om _) λg3=>?_
   cases hd:decide (y.name∈W)with
   |false=>
    refine Rs (A5 t2 t6 t7 t10 e5) ?_;refine⟨_,Om,k+1,res,Om,rfl,?_,rfl,rfl⟩;rw[R4,aan];simp only[aaH,aaX,hd,ZM,Zf,Zr];exact Uq.app _
   |true=>
    refine Rs (A8 t2 t6 t7 t10 @lr @fI ix @lf) ?_;have hfl2:((V.lines.take k).filter λy=>decide (y.name∈W)).length<=V.lines.length:=ZL (ZD _ _) (by rw[ZR];omega);refine WR.fG (h0:=H++g) (cs:=(((V.lines.take k).filter λy=>decide (y.name∈W)).map gZ.name).map ao) (ys:=[ao y.name]) ((Uq.app _).app _) (Fr.push (N:=0) (Zw _) [ao y.name] (by simp[ao])).ba De Si (by simp only[YY,YV,YX];omega) (by rw[YR,YR];exact⟨_,rfl⟩) ?_;intro g' RT hff hkp;have hrow:(((V.lines.take k).filter λy=>decide (y.name∈W)).map gZ.name).map ao++[ao y.name]=(((V.lines.take (k+1)).filter λy=>decide (y.name∈W)).map gZ.name).map ao:=by
     exact Nw
    rw[hrow]at hff;rw[hrow];refine Rs (A5 t2 t6 t7 t10 e5) ?_;exact GX
  ·have e3:=fo hlt;have e4:k=V.lines.length:=Om
   refine Rs (A8 t2 t6 t7 t10 @lr @fI o.i0.aJ e3) ?_;rw[e4,ZA]at Uq;exact⟨(Sb.trans he).trans RS,Uq.ba⟩
end
def uY{s c}:iP (s++[c])=(339*iP s+(c.toNat:Int)).tmod 9999749:=by simp[iP]
theorem yB:∀(s:By) (a:Int),0<=a/\a<9999749->0<=s.foldl (λx c=>(339*x+(c.toNat:Int)).tmod 9999749) a/\s.foldl (λx c=>(339*x+(c.toNat:Int)).tmod 9999749) a<9999749
 |[],_,h=>h
 |c::s,a,h=>by
  rw[abo];exact yB s _ ⟨Int.tmod_nonneg _ Om,Int.tmod_lt_of_pos _ Om⟩
def nI(s:By):0<=iP s/\iP s<9999749:=yB s 1 Om
def tR(s:By):(jM (iP s)).length<=7:=by
 have:=nI s;rw[kL];exact ml (k:=6) Om
def uX(s:By):(nH s).length=7:=by
 have:=tR s;unfold nH;rw[YP,Z4];omega
theorem rz{c}:∀{xs},Lib.join xs [c]=jz c xs
 |[]=>rfl
 |[x]=>Lib.join_one x [c]
 |x::y::r=>by
  rw[nq Si,<-rz (xs:=y::r),Lib.join_cons,Lib.join_cons];simp[Lib.joinTail]
def Cm:∀{xs},Lib.join xs []=xs.flatten
 |[]=>rfl
 |x::r=>by rw[Lib.join_cons];simp[Lib.joinTail]
section
variable {P:Program}(T:fp P) (Z:qn P) {h:ah}
include T Z
set_option maxRecDepth 10000 in
def r187(s:By)(hs:s.length<=2^40)(w:Pw h):ay P 187 [.str s] h (λv _=>v=.str (nH s)):=by
 refine .kU 28 T.mix T.c187 ?_;intro ts hlen t0;unfold fn187 gA;refine Rs t0 ?_;refine WL.inv T.mix (λn ts' h'=>∃k:Nat,k<=s.length/\n=s.length-k/\h' =h/\ts'.length=28/\slot ts' 0=.str s/\slot ts' 3=.i (iP (s.take k))/\slot ts' 7=.i s.length/\slot ts' 8=.i k) s.length
  ⟨0,Om,rfl,rfl,(Sq t0),(Sq t0),gM,(Sq t0),gM⟩ ?_
 rintro _ ts' _ ⟨k,hk,rfl,rfl,S3,u0,u3,u7,u8⟩;clear hlen t0;have hlen:=S3;by_cases hlt:k<s.length
 ·have e3:=ee hlt;have hb:=nI (s.take k);have hcn:=UInt8.toNat_lt s[k];have w1:IntKind.i64.wrap (339*iP (s.take k))=339*iP (s.take k):=bu Om Om;have w2:IntKind.i64.wrap (s[k].toNat:Int)=(s[k].toNat:Int):=bu Om Om;have w3:IntKind.i64.wrap (339*iP (s.take k)+(s[k].toNat:Int))=339*iP (s.take k)+(s[k].toNat:Int):=bu Om Om;have er:=oG (k:=.i64) (a:=339*iP (s.take k)+(s[k].toNat:Int)) (b:=9999749) De;rw[<-uY,<-mU hlt]at er
  repeat (first|simp (config:={maxSteps:=1000000}) only[aQ,aT,bo,bp,reduceAdd,reduceMul,reduceLeDiff,reduceEqDiff,bz,hlen,Zf,Zi,u0,u3,u7,u8,e3,jQ hlt,w1,w2,w3,er,wrapN (show k+1<2^63 by omega)]|simp (config:={maxSteps:=1000000}) (disch:=first|(simp only[YP,YV,YX]<;>omega)|rfl|omega|fail) only[fc,aQ,aT,bo,bp,reduceAdd,reduceMul,reduceLeDiff,reduceEqDiff,bz,hlen,Zf,Zi,u0,u3,u7,u8,e3,jQ hlt,w1,w2,w3,er,wrapN (show k+1<2^63 by omega)])
  exact JY
 ·have e3:=fo hlt;have ek:k=s.length:=Om
  rw[ek,ZA]at u3;have hb:=nI s;have hl:=tR s;refine Rs (A5 @u0 @u3 @u7 @u8 e3) ?_;refine WF.ce T.c113 (Z.itoa Om Om w) λg=>?_
  rw[gF hb.1];have w1:IntKind.i64.wrap (7-((jM (iP s)).length:Int))=((7-(jM (iP s)).length:Nat):Int):=by rw[bu Om Om];omega
  refine Rs (A2 @u0 @w1) ?_;refine WF.ce T.c252 (Z.rep Om) λg2=>?_
  refine Rs (A2 @u0 (jN (show(List.replicate (7-(jM (iP s)).length) (48:UInt8)).length+(jM (iP s)).length<2^62 by rw[Z4];omega))) ?_;rfl
def yw{x}(h0:0<=x)(h1:x<2^62)(w:Pw h):bF P (.func (.func 113) [] []) [.i x] h (λv _=>v=.str (jM x)):=by
 rw[<-gF h0];exact bF.of (a:=[]) (c:=[]) T.c113 (Z.itoa Om Om w)
end
structure Qp(e:ed):Prop where
 num:0<=e.num/\e.num<2^62
 cB:∀x∈e.cB,0<=x/\x<2^62
 nl:e.names.length<=2^30
 vl:e.cB.length<=2^30
 bl:(iZ e).length<=2^38
section
variable {P:Program}(T:fp P) (Z:qn P) {h:ah}
include T Z
set_option maxRecDepth 10000 in
def r186{x}(ox:bw h x)(en:Qp x.ev)(w:Pw h):ay P 186 [.agg x.row] h (λv _=>v=.str (iZ x.ev)):=by
 refine .kU 19 T.mix T.c186 ?_;intro ts hlen t0;unfold fn186 gA;have RF:=@bw.box _ _ ox;have hnl:=en.nl;have SB:=en.vl;refine Rs (A5 t0 @RF @nw @bj @aI) ?_;refine WF.ce T.c113 (Z.itoa (by have:=en.num;omega) (by have:=en.num;omega) (w.ext Xx)) λg1=>?_
 rw[gF en.num.1];refine Rs (A4 t0 @nw @bj @aI) ?_;have hF:=Fr.push (N:=h.length) (h:=h++[ak.b x.row]++g1) (es:=1) (by simp only[YP];omega) (([jM x.ev.num,x.ev.kind] :List (By)).map ao) (by simp[ao]);refine WR.Ft (h0:=h) (cs:=([jM x.ev.num,x.ev.kind] :List (By)).map ao) (ys:=x.ev.names.map ao) hF (ox.n.ext Xx) De (by simp;omega) Xx ?_;intro s' g hfr hkp hle;rw[<-Y5]at hfr;have Sf:(h++g)[h.length]? =some (.b x.row):=by
  rw[hkp _ (by simp only[YP,Zp];omega) (λe=>by have e2:(h++[ak.b x.row]++g1).length=h.length:=ZU e;simp only[YP,Zp]at e2;omega)];simp
 have lb:∀{k:ah}{n':Option Nat}{a:Nat},Ext (h++g) k->aq n' (.ptr h.length a) (λz=>k[z]?)=dE n' a (.b x.row):=λe=>aA (e.some Sf)
 refine Rs (A3 t0 @lb @aY) ?_;refine WF.res T.c199 (r199 T (ox.v.ext Xx) Om jM (λy hy k ek=>yw T Z (en.cB y hy).1 (en.cB y hy).2 (w.ext (Ext.trans Xx ek)))) ?_;intro v g2 hv;refine Rs t0 ?_;refine WR.Ft (h0:=h) (hfr.app g2) hv.ba De (by simp;omega) Xx ?_;intro s2 g3 Uq hkp2 Up;rw[<-Y5]at Uq;refine Rs t0 ?_;have hbl:=en.bl;refine WF.ce T.c114 (Z.join Uq.ba ⟨by rw[rz];show(iZ x.ev).length<=_;omega,by simp;omega⟩) λg4=>?_
 refine Rs t0 ?_;rw[rz];rfl
set_option maxRecDepth 10000 in
def r97{x}(ox:bw h x)(en:Qp x.ev)(w:Pw h):ay P 97 [.agg x.row] h (λv _=>v=.str (vp x.ev)):=by
 refine .kU 12 T.mix T.c97 ?_;intro ts hlen t0;unfold fn97 gA;have RF:=@bw.box _ _ ox;have hbl:=en.bl;refine Rs (A3 t0 @RF @cp) ?_;refine WF.ce T.c186 (r186 T Z (ox.ext Xx) en (w.ext Xx)) λg=>?_
 refine Rs (A2 t0 (jN (show(iZ x.ev).length+([35] :By).length<2^62 by simp;omega))) ?_;refine WF.ce T.c187 (r187 T Z _ Om (w.ext Xx)) λg2=>?_
 have h7:=uX (iZ x.ev);refine Rs (A3 t0 (jN (show(iZ x.ev++[35]).length+(nH (iZ x.ev)).length<2^62 by simp;omega)) (jN (show(iZ x.ev++[35]++nH (iZ x.ev)).length+([10] :By).length<2^62 by simp;omega))) ?_;rfl
theorem BU{e}:(vp e).length=(iZ e).length+9:=by
 have:=uX (iZ e);unfold vp;simp;omega
end
def Ext.iQ{h W b X}(e:Ext h W)(hb:h.length<=b):Ext h (W.set b X):=by
 obtain⟨g,rfl⟩:=e;exact⟨g.set (b-h.length) X,ZV _ _ hb⟩
structure eX(B W0:ah)(b:Nat)(K:Nat->Prop)(W:ah)(U:RV):Prop where
 bk:bY B.length W b U
 ex:Ext B W
 ln:W0.length<=W.length
 kp:∀i,K i->W[i]? =W0[i]?
 kl:∀i,K i->i<W0.length/\i≠b/\some i∉U.bl
section
variable {B W0 W W2:ah}{b:Nat}{K:Nat->Prop}{U:RV}(s:eX B W0 b K W U)
include s
def eX.grow(e:Ext W W2):eX B W0 b K W2 U:=by
 obtain⟨g,rfl⟩:=e;refine⟨s.bk.app g,s.ex.trans ⟨g,rfl⟩,ZL s.ln Si,λi hi=>?_,s.kl⟩;rw[YT (ZQ (s.kl i hi).1 s.ln)];exact s.kp i hi
omit s in
theorem P5{L s' i}(h:some i∈{U with lines:=L,s0:=s'}.bl):some i∈U.bl\/sB s' =some i:=by
 exact Jo
def eX.p0{L s'}(hff:Fr B.length W2 s' 3 (L.map bV))(hn:∀i,sB s' =some i->sB U.s0=some i\/W.length<=i)(hk:∀i,i<W.length->sB U.s0≠some i->W2[i]? =W[i]?)(hx:Ext B W2)(hl:W.length<=W2.length):
  eX B W0 b K (W2.set b (.b (U.row.set 1 s'))) {U with lines:=L,s0:=s'}:=by
 have hbl:=s.bk.lt;have RY:sB U.s0≠some b:=λz=>s.bk.ne (by rw[<-z];simp[RV.bl])
 have hsb:∀i,sB s' =some i->i≠b:=λi hi z=>by
  exact Jm
 obtain⟨X,hX⟩:∃X,X=ak.b (U.row.set 1 s'):=⟨_,rfl⟩;rw[<-hX];have g2:∀i,i≠b->(W2.set b X)[i]? =W2[i]? :=λi hi=>Zc (aam hi)
 have gb:(W2.set b X)[b]? =some X:=Zd Om;refine⟨s.bk.Nb (hff.aD λi hi=>g2 i (hsb i hi)) hn (by rw[hX]at gb ⊢;exact gb) (λi hi h1 h2=>(g2 i h2).trans (hk i hi h1)),hx.iQ s.bk.hN,by rw[ZI];exact ZL s.ln hl,λi hi=>?_,λi hi=>?_⟩
 ·exact Jp
 ·obtain⟨h1,h2,h3⟩:=s.kl i hi;refine⟨h1,h2,λhm=>?_⟩;rcases P5 hm with z|z
  ·exact h3 z
  ·exact z87
def eX.q0{L}(hff:Fr B.length W2 U.s0 3 (L.map bV))(hk:∀i,i<W.length->sB U.s0≠some i->W2[i]? =W[i]?)(hx:Ext B W2)(hl:W.length<=W2.length):eX B W0 b K W2 {U with lines:=L}:=by
 have hbl:=s.bk.lt;have RY:sB U.s0≠some b:=λz=>s.bk.ne (by rw[<-z];simp[RV.bl])
 refine⟨s.bk.Nb (s:=U.s0) hff (λi hi=>.inl hi) ((hk b hbl RY).trans s.bk.m) (λi hi h1 _=>hk i hi h1),hx,ZL s.ln hl,λi hi=>?_,s.kl⟩;exact Kv
omit s in
theorem P4{L s' i}(h:some i∈{U with aB:=L,s1:=s'}.bl):some i∈U.bl\/sB s' =some i:=by
 exact Jo
def eX.p1{L s'}(hff:Fr B.length W2 s' 2 (L.map dt))(hn:∀i,sB s' =some i->sB U.s1=some i\/W.length<=i)(hk:∀i,i<W.length->sB U.s1≠some i->W2[i]? =W[i]?)(hx:Ext B W2)(hl:W.length<=W2.length):
  eX B W0 b K (W2.set b (.b (U.row.set 2 s'))) {U with aB:=L,s1:=s'}:=by
 have hbl:=s.bk.lt;have RY:sB U.s1≠some b:=λz=>s.bk.ne (by rw[<-z];simp[RV.bl])
 have hsb:∀i,sB s' =some i->i≠b:=λi hi z=>by
  exact Jm
 obtain⟨X,hX⟩:∃X,X=ak.b (U.row.set 2 s'):=⟨_,rfl⟩;rw[<-hX];have g2:∀i,i≠b->(W2.set b X)[i]? =W2[i]? :=λi hi=>Zc (aam hi)
 have gb:(W2.set b X)[b]? =some X:=Zd Om;refine⟨s.bk.Q1 (hff.aD λi hi=>g2 i (hsb i hi)) hn (by rw[hX]at gb ⊢;exact gb) (λi hi h1 h2=>(g2 i h2).trans (hk i hi h1)),hx.iQ s.bk.hN,by rw[ZI];exact ZL s.ln hl,λi hi=>?_,λi hi=>?_⟩
 ·exact Jp
 ·obtain⟨h1,h2,h3⟩:=s.kl i hi;refine⟨h1,h2,λhm=>?_⟩;rcases P4 hm with z|z
  ·exact h3 z
  ·exact z87
omit s in
theorem P0{L s' i}(h:some i∈{U with aN:=L,s5:=s'}.bl):some i∈U.bl\/sB s' =some i:=by
 exact Jo
def eX.p5{L s'}(hff:Fr B.length W2 s' 4 (L.map dh))(hn:∀i,sB s' =some i->sB U.s5=some i\/W.length<=i)(hk:∀i,i<W.length->sB U.s5≠some i->W2[i]? =W[i]?)(hx:Ext B W2)(hl:W.length<=W2.length):
  eX B W0 b K (W2.set b (.b (U.row.set 6 s'))) {U with aN:=L,s5:=s'}:=by
 have hbl:=s.bk.lt;have RY:sB U.s5≠some b:=λz=>s.bk.ne (by rw[<-z];simp[RV.bl])
 have hsb:∀i,sB s' =some i->i≠b:=λi hi z=>by
  exact Jm
 obtain⟨X,hX⟩:∃X,X=ak.b (U.row.set 6 s'):=⟨_,rfl⟩;rw[<-hX];have g2:∀i,i≠b->(W2.set b X)[i]? =W2[i]? :=λi hi=>Zc (aam hi)
 have gb:(W2.set b X)[b]? =some X:=Zd Om;refine⟨s.bk.Na (hff.aD λi hi=>g2 i (hsb i hi)) hn (by rw[hX]at gb ⊢;exact gb) (λi hi h1 h2=>(g2 i h2).trans (hk i hi h1)),hx.iQ s.bk.hN,by rw[ZI];exact ZL s.ln hl,λi hi=>?_,λi hi=>?_⟩
 ·exact Jp
 ·obtain⟨h1,h2,h3⟩:=s.kl i hi;refine⟨h1,h2,λhm=>?_⟩;rcases P0 hm with z|z
  ·exact h3 z
  ·exact z87
def eX.q5{L}(hff:Fr B.length W2 U.s5 4 (L.map dh))(hk:∀i,i<W.length->sB U.s5≠some i->W2[i]? =W[i]?)(hx:Ext B W2)(hl:W.length<=W2.length):eX B W0 b K W2 {U with aN:=L}:=by
 have hbl:=s.bk.lt;have RY:sB U.s5≠some b:=λz=>s.bk.ne (by rw[<-z];simp[RV.bl])
 refine⟨s.bk.Na (s:=U.s5) hff (λi hi=>.inl hi) ((hk b hbl RY).trans s.bk.m) (λi hi h1 _=>hk i hi h1),hx,ZL s.ln hl,λi hi=>?_,s.kl⟩;exact Kv
omit s in
theorem P3{y t s' i}(h:some i∈{U with aj:=U.aj++[(y,t)],s2:=s'}.bl):some i∈U.bl\/sB s' =some i\/sB t=some i:=by
 exact Jo
def eX.p2{y t s'}(hff:Fr B.length W2 s' 3 ((U.aj++[(y,t)]).map aX))(ht:Fr B.length W2 t 1 (y.aB.map ao))(hn:∀i,sB s' =some i->sB U.s2=some i\/W.length<=i)(hnt:∀i,sB t=some i->W.length<=i/\sB s'≠some i)(hk:∀i,i<W.length->sB U.s2≠some i->W2[i]? =W[i]?)(hx:Ext B W2)(hl:W.length<=W2.length):
  eX B W0 b K (W2.set b (.b (U.row.set 3 s'))) {U with aj:=U.aj++[(y,t)],s2:=s'}:=by
 have hbl:=s.bk.lt;have RY:sB U.s2≠some b:=λz=>s.bk.ne (by rw[<-z];simp[RV.bl])
 have hsb:∀i,sB s' =some i->i≠b:=λi hi z=>by
  exact Jm
 have htb:∀i,sB t=some i->i≠b:=λi hi z=>by
  exact z105
 obtain⟨X,hX⟩:∃X,X=ak.b (U.row.set 3 s'):=⟨_,rfl⟩;rw[<-hX];have g2:∀i,i≠b->(W2.set b X)[i]? =W2[i]? :=λi hi=>Zc (aam hi)
 have gb:(W2.set b X)[b]? =some X:=Zd Om;refine⟨s.bk.Q0 (hff.aD λi hi=>g2 i (hsb i hi)) (ht.aD λi hi=>g2 i (htb i hi)) hn hnt (by rw[hX]at gb ⊢;exact gb) (λi hi h1 h2=>(g2 i h2).trans (hk i hi h1)),hx.iQ s.bk.hN,by rw[ZI];exact ZL s.ln hl,λi hi=>?_,λi hi=>?_⟩
 ·exact Jp
 ·obtain⟨h1,h2,h3⟩:=s.kl i hi;have WJ:=s.ln;refine⟨h1,h2,λhm=>?_⟩;rcases P3 hm with z|z|z
  ·exact h3 z
  ·rcases hn i z with z|z
   ·exact No
   ·omega
  ·have:=(hnt i z).1;omega
omit s in
theorem P2{y t s' i}(h:some i∈{U with aE:=U.aE++[(y,t)],s3:=s'}.bl):some i∈U.bl\/sB s' =some i\/sB t=some i:=by
 exact Jo
def eX.p3{y t s'}(hff:Fr B.length W2 s' 4 ((U.aE++[(y,t)]).map aV))(ht:Fr B.length W2 t 1 (y.bA.map ao))(hn:∀i,sB s' =some i->sB U.s3=some i\/W.length<=i)(hnt:∀i,sB t=some i->W.length<=i/\sB s'≠some i)(hk:∀i,i<W.length->sB U.s3≠some i->W2[i]? =W[i]?)(hx:Ext B W2)(hl:W.length<=W2.length):
  eX B W0 b K (W2.set b (.b (U.row.set 4 s'))) {U with aE:=U.aE++[(y,t)],s3:=s'}:=by
 have hbl:=s.bk.lt;have RY:sB U.s3≠some b:=λz=>s.bk.ne (by rw[<-z];simp[RV.bl])
 have hsb:∀i,sB s' =some i->i≠b:=λi hi z=>by
  exact Jm
 have htb:∀i,sB t=some i->i≠b:=λi hi z=>by
  exact z105
 obtain⟨X,hX⟩:∃X,X=ak.b (U.row.set 4 s'):=⟨_,rfl⟩;rw[<-hX];have g2:∀i,i≠b->(W2.set b X)[i]? =W2[i]? :=λi hi=>Zc (aam hi)
 have gb:(W2.set b X)[b]? =some X:=Zd Om;refine⟨s.bk.QZ (hff.aD λi hi=>g2 i (hsb i hi)) (ht.aD λi hi=>g2 i (htb i hi)) hn hnt (by rw[hX]at gb ⊢;exact gb) (λi hi h1 h2=>(g2 i h2).trans (hk i hi h1)),hx.iQ s.bk.hN,by rw[ZI];exact ZL s.ln hl,λi hi=>?_,λi hi=>?_⟩
 ·exact Jp
 ·obtain⟨h1,h2,h3⟩:=s.kl i hi;have WJ:=s.ln;refine⟨h1,h2,λhm=>?_⟩;rcases P2 hm with z|z|z
  ·exact h3 z
  ·rcases hn i z with z|z
   ·exact No
   ·omega
  ·have:=(hnt i z).1;omega
omit s in
theorem P1{y t s' i}(h:some i∈{U with aG:=U.aG++[(y,t)],s4:=s'}.bl):some i∈U.bl\/sB s' =some i\/sB t=some i:=by
 exact Jo
def eX.p4{y t s'}(hff:Fr B.length W2 s' 3 ((U.aG++[(y,t)]).map bO))(ht:Fr B.length W2 t 1 (y.bB.map aK))(hn:∀i,sB s' =some i->sB U.s4=some i\/W.length<=i)(hnt:∀i,sB t=some i->W.length<=i/\sB s'≠some i)(hk:∀i,i<W.length->sB U.s4≠some i->W2[i]? =W[i]?)(hx:Ext B W2)(hl:W.length<=W2.length):
  eX B W0 b K (W2.set b (.b (U.row.set 5 s'))) {U with aG:=U.aG++[(y,t)],s4:=s'}:=by
 have hbl:=s.bk.lt;have RY:sB U.s4≠some b:=λz=>s.bk.ne (by rw[<-z];simp[RV.bl])
 have hsb:∀i,sB s' =some i->i≠b:=λi hi z=>by
  exact Jm
 have htb:∀i,sB t=some i->i≠b:=λi hi z=>by
  exact z105
 obtain⟨X,hX⟩:∃X,X=ak.b (U.row.set 5 s'):=⟨_,rfl⟩;rw[<-hX];have g2:∀i,i≠b->(W2.set b X)[i]? =W2[i]? :=λi hi=>Zc (aam hi)
 have gb:(W2.set b X)[b]? =some X:=Zd Om;refine⟨s.bk.QY (hff.aD λi hi=>g2 i (hsb i hi)) (ht.aD λi hi=>g2 i (htb i hi)) hn hnt (by rw[hX]at gb ⊢;exact gb) (λi hi h1 h2=>(g2 i h2).trans (hk i hi h1)),hx.iQ s.bk.hN,by rw[ZI];exact ZL s.ln hl,λi hi=>?_,λi hi=>?_⟩
 ·exact Jp
 ·obtain⟨h1,h2,h3⟩:=s.kl i hi;have WJ:=s.ln;refine⟨h1,h2,λhm=>?_⟩;rcases P1 hm with z|z|z
  ·exact h3 z
  ·rcases hn i z with z|z
   ·exact No
   ·omega
  ·have:=(hnt i z).1;omega
def eX.qJ{i}(hi:i<U.aG.length){y}(hy:y.name=U.aG[i].1.name/\y.mod=U.aG[i].1.mod)(hf:Fr B.length W2 U.aG[i].2 1 (y.bB.map aK))(hk:∀j,j<W.length->sB U.aG[i].2≠some j->W2[j]? =W[j]?)(hx:Ext B W2)(hl:W.length<=W2.length):
  eX B W0 b K W2 {U with aG:=U.aG.set i (y,U.aG[i].2) }:=by
 have SP:sB U.aG[i].2∈U.bl:=by simp only[RV.bl,YZ,Zv];exact .inr ⟨_,Za hi,rfl⟩
 have hbl:{U with aG:=U.aG.set i (y,U.aG[i].2) }.bl=U.bl:=by
  simp only[RV.bl,aa0];congr 1;have:sB U.aG[i].2=(U.aG.map λx=>sB x.2)[i]'(by simpa using hi):=Si
  exact G0
 refine⟨s.bk.QX hi hy hf hk,hx,ZL s.ln hl,λj hj=>?_,λj hj=>by rw[hbl];exact s.kl j hj⟩;obtain⟨h1,h2,h3⟩:=s.kl j hj;rw[hk j (ZQ h1 s.ln) (λz=>h3 (by rw[<-z];exact SP))];exact s.kp j hj
omit s in
theorem PZ{i j y t}(h:some j∈{U with aj:=U.aj.set i (y,t) }.bl):some j∈U.bl\/sB t=some j:=by
 simp only[RV.bl,YZ,Zv]at h ⊢;rcases h with((h|⟨x,hx,h⟩)|h)|h
 ·exact .inl (.inl (.inl (.inl h)))
 ·rcases aaE hx with hx|hx
  ·exact .inl (.inl (.inl (.inr ⟨x,hx,h⟩)))
  ·rw[hx]at h;exact .inr h
 ·exact .inl (.inl (.inr h))
 ·exact .inl (.inr h)
def eX.qS{i}(hi:i<U.aj.length){y t}(hs:Fr B.length W2 U.s2 3 ((U.aj.set i (y,t)).map aX))(ht:Fr B.length W2 t 1 (y.aB.map ao))(hnt:∀j,sB t=some j->W.length<=j)
  (hk:∀j,j<W.length->sB U.s2≠some j->sB U.aj[i].2≠some j->W2[j]? =W[j]?) (hx:Ext B W2) (hl:W.length<=W2.length):eX B W0 b K W2 {U with aj:=U.aj.set i (y,t) }:=by
 have m1:sB U.s2∈U.bl:=by simp[RV.bl]
 have m2:sB U.aj[i].2∈U.bl:=by simp only[RV.bl,YZ,Zv];exact .inl (.inl (.inr ⟨_,Za hi,rfl⟩))
 refine⟨s.bk.QW hi hs ht hnt hk,hx,ZL s.ln hl,λj hj=>?_,λj hj=>?_⟩
 ·obtain⟨h1,h2,h3⟩:=s.kl j hj;rw[hk j (ZQ h1 s.ln) (λz=>h3 (by rw[<-z];exact m1)) (λz=>h3 (by rw[<-z];exact m2))];exact s.kp j hj
 ·obtain⟨h1,h2,h3⟩:=s.kl j hj;refine⟨h1,h2,λhm=>?_⟩;rcases PZ hm with z|z
  ·exact h3 z
  ·have:=hnt j z;have:=s.ln;omega
end
def ow(k:Nat):ai:=((fn224).body.dr k).hd
def qq(k:Nat):ai:=(fn224).body.dr k
def Oj:qq 9=.seq (ow 9) .ret:=rfl
def Ok:qq 8=.seq (ow 8) (qq 9):=rfl
def Ol:qq 7=.seq (ow 7) (qq 8):=rfl
def On:qq 6=.seq (ow 6) (qq 7):=rfl
def Oo:qq 5=.seq (ow 5) (qq 6):=rfl
def Oq:qq 4=.seq (ow 4) (qq 5):=rfl
def Ot:qq 3=.seq (ow 3) (qq 4):=rfl
def Ou:qq 2=.seq (ow 2) (qq 3):=rfl
def Ov:qq 1=.seq (ow 1) (qq 2):=rfl
def Ox:fn224=⟨100,1,[(2,some (some 7))],.seq (ow 0) (qq 1)⟩:=rfl
def kT:List AV:=[.i 0,.af,.af,.af,.af,.af,.af]
def Ry(h:ah)(i:Nat):Prop:=i<h.length\/i=h.length+1
def wS(h:ah)(r:ak)(W:ah)(U:RV):Prop:=eX h (h++[r]++[.b kT]) h.length (Ry h) W U
def wS.rb{h W r U}(s:wS h r W U):W[h.length+1]? =some (.b kT):=by
 rw[eX.kp s _ (.inr rfl)];simp
def JB(h:ah)(V:RV):AV->ah->Prop:=λv h'=>Ext h h'/\∃V':RV,V'.an=V.an/\v=.agg V'.row/\cH h.length h' V'
section
variable {P:Program}(T:fp P) {h W:ah}{ts:TS}{V U:RV}{r:ak}
include T
def Rk(s:wS h r W U)(hr:U.an=V.an)(hlen:ts.length=100)(t1:slot ts 1=.ptr h.length 0)(t2:slot ts 2=.ptr (h.length+1) 0):
  WC P bL (qq 9) [] ts W (FQ [(2,some (some 7))] (JB h V)):=by
 have:=T.mix;rw[Oj];unfold ow fn224 gA;simp only[ai.j,ai.s,ai.r,ai.dr,ai.tl,ai.hd];have lb:=@eE _ _ _ s.bk.m;have sb:=@aL 7 (h.length+1) 0 (.agg U.row) (λz=>W[z]?) _ s.rb;have st:=@aC.st _ _ s.bk.o.ok;unfold kT at sb;rw[st]at sb;have hl:=(YQ.1 s.rb).1;have gm:(W.set (h.length+1) (.b U.row))[h.length+1]? =some (.b U.row):=Zd hl
 repeat (first|simp (config:={maxSteps:=1000000}) only[aQ,aT,bo,bp,reduceAdd,reduceMul,reduceLeDiff,reduceEqDiff,bz,hlen,Zf,Zi,t1,t2,lb,sb,aF,aA gm]|simp (config:={maxSteps:=1000000}) (disch:=first|(simp only[YP,YV,YX]<;>omega)|rfl|omega|fail) only[fc,aQ,aT,bo,bp,reduceAdd,reduceMul,reduceLeDiff,reduceEqDiff,bz,hlen,Zf,Zi,t1,t2,lb,sb,aF,aA gm])
 refine⟨s.ex.iQ Om,U,hr,rfl,s.bk.o.au λi hi=>?_⟩;have:i≠h.length+1:=λe=>(s.kl _ (.inr rfl)).2.2 (e▸hi)
 rw[Zc (aam this)]
def Oy(o:aC h V)(w:eJ V.an)(hj:∀x∈V.aG,x.1.bB.length<=2^30)(s:wS h r W U)(hr:U.an={V.an with aG:=V.an.aG.take 0})(hlen:ts.length=100)(t1:slot ts 1=.ptr h.length 0)(t2:slot ts 2=.ptr (h.length+1) 0)(t5:slot ts 5=V.s4):
  WC P bL (qq 8) [] ts W (FQ [(2,some (some 7))] (JB h V)):=by
 have hL:V.aG.length<=16:=by have:=w.l4;simpa [RV.an]using this
 have hRl:V.an.aG.length=V.aG.length:=by simp[RV.an]
 rw[Ok];unfold ow fn224 gA;simp only[ai.j,ai.s,ai.r,ai.dr,ai.tl,ai.hd];refine Rs (A3 t1 t2 t5) ?_;refine WL.inv T.mix (λm ts h'=>∃(k:Nat) (U:RV),k<=V.aG.length/\m=V.aG.length-k/\wS h r h' U/\U.an={V.an with aG:=V.an.aG.take k}/\ts.length=100/\slot ts 1=.ptr h.length 0/\slot ts 2=.ptr (h.length+1) 0/\slot ts 5=V.s4/\slot ts 10=.i k) V.aG.length
  ⟨0,U,Om,rfl,s,hr,Sn,(Sq t1),(Sq t2),(Sq t5),gM⟩ ?_
 clear t1 t2 t5 hlen s hr;rintro _ ts W ⟨k,U,hk,rfl,s,hr,hlen,t1,t2,t5,t10⟩;have oW:=o.ext s.ex;by_cases hlt:k<V.aG.length
 ·have e3:=ee hlt;have e5:=wrapN (n:=k) Om;have ix:=oW.i4.dG (kk:=.i64) hlt;obtain⟨y,hy⟩:∃y,y=V.aG[k]:=⟨_,rfl⟩;have Ty:y∈V.aG:=by rw[hy];exact Za _
  have ld:∀{k':ah},Ext W k'->aq (some 3) (cN V.s4 3 k) (λb=>k'[b]?)=some (.agg (bO y),.au):=λ{k'} e=>by rw[hy];exact oW.i4.jD hlt e
  have oy:=oW.e4 y Ty;have Sv:=oy.one;unfold bO at ld;obtain⟨n,hn⟩:∃n,n=W.length:=⟨_,rfl⟩;refine Rs (A9 t1 t2 t5 t10 oW.i4.aJ e3 ix @ld @Sv) ?_;refine WR.ql (N:=n+1) a8 (by rw[hn];simp) (oy.ext Xx) (by have:=hj y Ty;simp only[YY];omega) λt g f=>?_
  have p1:=f.ba.one;rw[<-hn];obtain⟨W3,RZ⟩:∃W3,W3=W++[ak.b [AV.str y.1.name,AV.str y.1.mod,y.2]]++[.b []]++g:=⟨_,rfl⟩;rw[<-RZ]at f ⊢;have XQ:Ext W W3:=by rw[RZ];exact Xx
  have l3:n+2<=W3.length:=by rw[RZ,hn];simp only[YP,YV,YX];omega
  have m3:W3[n]? =some (.b [AV.str y.1.name,AV.str y.1.mod,y.2]):=by rw[RZ,hn];exact(show Ext (W++[ak.b [AV.str y.1.name,AV.str y.1.mod,y.2]]) _ from Xx).some a8
  have Xm:aW 1 (.ptr n 2) t (λz=>W3[z]?)=some (az,.set n (.b [AV.str y.1.name,AV.str y.1.mod,t])):=(aL m3).trans (bX p1 (by show 2+1<=3;omega));refine Rs (A6 t1 t2 t5 t10 @Xm @p1) ?_;obtain⟨W4,SE⟩:∃W4,W4=W3.set n (.b [AV.str y.1.name,AV.str y.1.mod,t]):=⟨_,rfl⟩;rw[<-SE];have l4:W4.length=W3.length:=by rw[SE,ZI]
  have k4:∀i,i≠n->W4[i]? =W3[i]? :=λi hi=>by rw[SE,Zc (aam hi)]
  have m4:W4[n]? =some (.b [AV.str y.1.name,AV.str y.1.mod,t]):=by rw[SE,Zd Om]
  have e4:Ext W W4:=by rw[SE];exact XQ.iQ Om
  have s4:wS h r W4 U:=s.grow e4;have f4:Fr (n+1) W4 t 1 (y.1.bB.map aK):=f.aD λi hi=>k4 i (by have:=(f.bN hi).1;omega)
  have lr:=@eE _ _ _ s4.bk.m;have ln4:=@eE _ _ _ m4;clear XQ m3 Xm f SE RZ;refine Rs (A8 t1 t2 t5 t10 @lr @ln4 @gh @p1) ?_;have TF:U.aG.length<=16:=by
   have h1:U.an.aG.length=U.aG.length:=by simp[RV.an]
   exact G4
  obtain⟨z,hz⟩:∃z:List AV,z=bO (y.1,t):=⟨_,rfl⟩;have TJ:[AV.str y.1.name,AV.str y.1.mod,t]=z:=by rw[hz];rfl
  rw[TJ];have Yg:aH (W4++[ak.cells z true true]) (AV.slice W4.length 0 1 3) 3 [z]:=by
   exact Qs
  refine WR.fG (h0:=h) (cs:=U.aG.map bO) (ys:=[z]) ((s4.bk.o.i4).app _) Yg De Si (by simp only[YY,YV,YX];omega) (s4.ex.trans Xx) ?_;intro g' RT hff hkp;have hrow:U.aG.map bO++[z]=(U.aG++[(y.1,t)]).map bO:=by rw[Y5,hz];rfl
  rw[hrow]at hff;rw[hrow];obtain⟨s',RH⟩:∃s',s' =AV.slice (W4++[ak.cells z true true]).length 0 ((U.aG++[(y.1,t)]).map bO).length 3:=⟨_,rfl⟩;rw[<-RH]at hff;rw[<-RH];have TK:sB s' =some (W4.length+1):=by rw[RH];simp[sB]
  have q1:s'.one=true:=by rw[RH];rfl
  obtain⟨W5,Ug⟩:∃W5,W5=h++g':=⟨_,rfl⟩;rw[<-Ug]at RT hff hkp ⊢;have hk1:∀i,i<W4.length->sB U.s4≠some i->W5[i]? =W4[i]? :=λi hi hne=>by
   exact M6
  have hl5:W4.length<=W5.length:=by rw[RT];simp only[YP];omega
  have htb:∀i,sB t=some i->W.length<=i/\i<W4.length:=λi hi=>by have:=f4.bN hi;omega
  have bU:∀i,sB t=some i->sB U.s4≠some i:=λi hi e=>by
   exact Nq
  have f5:Fr h.length W5 t 1 (y.1.bB.map aK):=(f4.aD λi hi=>hk1 i (htb i hi).2 (bU i hi)).low (by have:=s.bk.lt;omega);have XP:W.length<=W4.length:=e4.len;have s5:wS h r (W5.set h.length (.b (U.row.set 5 s'))) {U with aG:=U.aG++[(y.1,t)],s4:=s'}:=
   s.p4 hff f5 (λi hi=>.inr (by rw[TK]at hi;cases hi;omega)) (λi hi=>⟨(htb i hi).1,λe=>by rw[TK]at e;cases e;have:=(htb _ hi).2;omega⟩) (λi hi hne=>(hk1 i Om hne).trans (e4.get hi)) (by rw[Ug];exact⟨_,rfl⟩) Om
  have mB:W5[h.length]? =some (.b U.row):=(hk1 _ s4.bk.lt (λz=>s4.bk.ne (by rw[<-z];simp[RV.bl]))).trans s4.bk.m;have Tu:aW 1 (.ptr h.length 5) s' (λz=>W5[z]?)=some (az,.set h.length (.b (U.row.set 5 s'))):=(aL mB).trans (bX q1 (by show 5+1<=7;omega));refine Rs (A7 t1 t2 t5 t10 @Tu q1 e5) ?_;refine⟨_,Om,k+1,_,Om,rfl,s5,?_,rfl⟩;have:V.an.aG.take (k+1)=V.an.aG.take k++[y.1]:=by
   exact Nr
  rw[this];have hf:(U.aG++[(y.1,t)]).map Prod.fst=V.an.aG.take k++[y.1]:=by
   have h1:U.an.aG=V.an.aG.take k:=by rw[hr]
   rw[Y5,<-h1];rfl
  have e:({U with aG:=U.aG++[(y.1,t)],s4:=s'}:RV).an={U.an with aG:=(U.aG++[(y.1,t)]).map Prod.fst}:=rfl;rw[e,hf,hr]
 ·have e3:decide ((k:Int)<V.aG.length)=false:=YS Om;have e4:k=V.aG.length:=Om
  rw[e4,<-hRl,ZA]at hr;refine Rs (A6 t1 t2 t5 t10 oW.i4.aJ e3) ?_;refine Rk T s hr Sn (Sq t1) (Sq t2)
def Oz(o:aC h V)(w:eJ V.an)(hm:∀x∈V.aE,x.1.bA.length<=2^30)(hj:∀x∈V.aG,x.1.bB.length<=2^30)(s:wS h r W U)(hr:U.an={V.an with aE:=V.an.aE.take 0,aG:=[] })(hlen:ts.length=100)(t1:slot ts 1=.ptr h.length 0)(t2:slot ts 2=.ptr (h.length+1) 0)(t4:slot ts 4=V.s3)(t5:slot ts 5=V.s4):
  WC P bL (qq 7) [] ts W (FQ [(2,some (some 7))] (JB h V)):=by
 have hL:V.aE.length<=32:=by have:=w.l3;simpa [RV.an]using this
 have hRl:V.an.aE.length=V.aE.length:=by simp[RV.an]
 rw[Ol];unfold ow fn224 gA;simp only[ai.j,ai.s,ai.r,ai.dr,ai.tl,ai.hd];refine Rs (A3 t1 t2 t4) ?_;refine WL.inv T.mix (λm ts h'=>∃(k:Nat) (U:RV),k<=V.aE.length/\m=V.aE.length-k/\wS h r h' U/\U.an={V.an with aE:=V.an.aE.take k,aG:=[] }/\ts.length=100/\slot ts 1=.ptr h.length 0/\slot ts 2=.ptr (h.length+1) 0/\slot ts 4=V.s3/\slot ts 5=V.s4/\slot ts 8=.i k) V.aE.length
  ⟨0,U,Om,rfl,s,hr,Sn,(Sq t1),(Sq t2),(Sq t4),(Sq t5),gM⟩ ?_
 clear t1 t2 t4 t5 hlen s hr;rintro _ ts W ⟨k,U,hk,rfl,s,hr,hlen,t1,t2,t4,t5,t8⟩;have oW:=o.ext s.ex;by_cases hlt:k<V.aE.length
 ·have e3:=ee hlt;have e5:=wrapN (n:=k) Om;have ix:=oW.i3.dG (kk:=.i64) hlt;obtain⟨y,hy⟩:∃y,y=V.aE[k]:=⟨_,rfl⟩;have Ty:y∈V.aE:=by rw[hy];exact Za _
  have ld:∀{k':ah},Ext W k'->aq (some 4) (cN V.s3 4 k) (λb=>k'[b]?)=some (.agg (aV y),.au):=λ{k'} e=>by rw[hy];exact oW.i3.jD hlt e
  have oy:=oW.e3 y Ty;have Sv:=oy.one;unfold aV at ld;obtain⟨n,hn⟩:∃n,n=W.length:=⟨_,rfl⟩;refine Rs (lQ t1 t2 t4 t5 t8 oW.i3.aJ e3 ix @ld @Sv) ?_;refine WR.ql (N:=n+1) a8 (by rw[hn];simp) (oy.ext Xx) (by have:=hm y Ty;simp only[YY];omega) λt g f=>?_
  have p1:=f.ba.one;rw[<-hn];obtain⟨W3,RZ⟩:∃W3,W3=W++[ak.b [AV.str y.1.name,AV.str y.1.gives,AV.str y.1.line,y.2]]++[.b []]++g:=⟨_,rfl⟩;rw[<-RZ]at f ⊢;have XQ:Ext W W3:=by rw[RZ];exact Xx
  have l3:n+2<=W3.length:=by rw[RZ,hn];simp only[YP,YV,YX];omega
  have m3:W3[n]? =some (.b [AV.str y.1.name,AV.str y.1.gives,AV.str y.1.line,y.2]):=by rw[RZ,hn];exact(show Ext (W++[ak.b [AV.str y.1.name,AV.str y.1.gives,AV.str y.1.line,y.2]]) _ from Xx).some a8
  have Xm:aW 1 (.ptr n 3) t (λz=>W3[z]?)=some (az,.set n (.b [AV.str y.1.name,AV.str y.1.gives,AV.str y.1.line,t])):=(aL m3).trans (bX p1 (by show 3+1<=4;omega));refine Rs (A7 t1 t2 t4 t5 t8 @Xm @p1) ?_;obtain⟨W4,SE⟩:∃W4,W4=W3.set n (.b [AV.str y.1.name,AV.str y.1.gives,AV.str y.1.line,t]):=⟨_,rfl⟩;rw[<-SE];have l4:W4.length=W3.length:=by rw[SE,ZI]
  have k4:∀i,i≠n->W4[i]? =W3[i]? :=λi hi=>by rw[SE,Zc (aam hi)]
  have m4:W4[n]? =some (.b [AV.str y.1.name,AV.str y.1.gives,AV.str y.1.line,t]):=by rw[SE,Zd Om]
  have e4:Ext W W4:=by rw[SE];exact XQ.iQ Om
  have s4:wS h r W4 U:=s.grow e4;have f4:Fr (n+1) W4 t 1 (y.1.bA.map ao):=f.aD λi hi=>k4 i (by have:=(f.bN hi).1;omega)
  have lr:=@eE _ _ _ s4.bk.m;have ln4:=@eE _ _ _ m4;clear XQ m3 Xm f SE RZ;refine Rs (A9 t1 t2 t4 t5 t8 @lr @ln4 @fP @p1) ?_;have TF:U.aE.length<=32:=by
   have h1:U.an.aE.length=U.aE.length:=by simp[RV.an]
   exact G4
  obtain⟨z,hz⟩:∃z:List AV,z=aV (y.1,t):=⟨_,rfl⟩;have TJ:[AV.str y.1.name,AV.str y.1.gives,AV.str y.1.line,t]=z:=by rw[hz];rfl
  rw[TJ];have Yg:aH (W4++[ak.cells z true true]) (AV.slice W4.length 0 1 4) 4 [z]:=by
   have:=(Fr.push (N:=0) (es:=4) (h:=W4) (Zw _) [z] (λx hx=>by rw[Zm]at hx;rw[hx,hz];rfl)).ba
   simpa using this
  refine WR.fG (h0:=h) (cs:=U.aE.map aV) (ys:=[z]) ((s4.bk.o.i3).app _) Yg De Si (by simp only[YY,YV,YX];omega) (s4.ex.trans Xx) ?_;intro g' RT hff hkp;have hrow:U.aE.map aV++[z]=(U.aE++[(y.1,t)]).map aV:=by rw[Y5,hz];rfl
  rw[hrow]at hff;rw[hrow];obtain⟨s',RH⟩:∃s',s' =AV.slice (W4++[ak.cells z true true]).length 0 ((U.aE++[(y.1,t)]).map aV).length 4:=⟨_,rfl⟩;rw[<-RH]at hff;rw[<-RH];have TK:sB s' =some (W4.length+1):=by rw[RH];simp[sB]
  have q1:s'.one=true:=by rw[RH];rfl
  obtain⟨W5,Ug⟩:∃W5,W5=h++g':=⟨_,rfl⟩;rw[<-Ug]at RT hff hkp ⊢;have hk1:∀i,i<W4.length->sB U.s3≠some i->W5[i]? =W4[i]? :=λi hi hne=>by
   exact M6
  have hl5:W4.length<=W5.length:=by rw[RT];simp only[YP];omega
  have htb:∀i,sB t=some i->W.length<=i/\i<W4.length:=λi hi=>by have:=f4.bN hi;omega
  have bU:∀i,sB t=some i->sB U.s3≠some i:=λi hi e=>by
   exact Nq
  have f5:Fr h.length W5 t 1 (y.1.bA.map ao):=(f4.aD λi hi=>hk1 i (htb i hi).2 (bU i hi)).low (by have:=s.bk.lt;omega);have XP:W.length<=W4.length:=e4.len;have s5:wS h r (W5.set h.length (.b (U.row.set 4 s'))) {U with aE:=U.aE++[(y.1,t)],s3:=s'}:=
   s.p3 hff f5 (λi hi=>.inr (by rw[TK]at hi;cases hi;omega)) (λi hi=>⟨(htb i hi).1,λe=>by rw[TK]at e;cases e;have:=(htb _ hi).2;omega⟩) (λi hi hne=>(hk1 i Om hne).trans (e4.get hi)) (by rw[Ug];exact⟨_,rfl⟩) Om
  have mB:W5[h.length]? =some (.b U.row):=(hk1 _ s4.bk.lt (λz=>s4.bk.ne (by rw[<-z];simp[RV.bl]))).trans s4.bk.m;have Tu:aW 1 (.ptr h.length 4) s' (λz=>W5[z]?)=some (az,.set h.length (.b (U.row.set 4 s'))):=(aL mB).trans (bX q1 (by show 4+1<=7;omega));refine Rs (A8 t1 t2 t4 t5 t8 @Tu q1 e5) ?_;refine⟨_,Om,k+1,_,Om,rfl,s5,?_,rfl⟩;have:V.an.aE.take (k+1)=V.an.aE.take k++[y.1]:=by
   exact Nr
  rw[this];have hf:(U.aE++[(y.1,t)]).map Prod.fst=V.an.aE.take k++[y.1]:=by
   have h1:U.an.aE=V.an.aE.take k:=by rw[hr]
   rw[Y5,<-h1];rfl
  have e:({U with aE:=U.aE++[(y.1,t)],s3:=s'}:RV).an={U.an with aE:=(U.aE++[(y.1,t)]).map Prod.fst}:=rfl;rw[e,hf,hr]
 ·have e3:decide ((k:Int)<V.aE.length)=false:=YS Om;have e4:k=V.aE.length:=Om
  rw[e4,<-hRl,ZA]at hr;refine Rs (A7 t1 t2 t4 t5 t8 oW.i3.aJ e3) ?_;refine Oy T o w hj s hr Sn (Sq t1) (Sq t2) (Sq t5)
def OA(o:aC h V)(w:eJ V.an)(hs:∀x∈V.aj,x.1.aB.length<=2^30)(hm:∀x∈V.aE,x.1.bA.length<=2^30)(hj:∀x∈V.aG,x.1.bB.length<=2^30)(s:wS h r W U)(hr:U.an={V.an with aj:=V.an.aj.take 0,aE:=[],aG:=[] })(hlen:ts.length=100)(t1:slot ts 1=.ptr h.length 0)(t2:slot ts 2=.ptr (h.length+1) 0)(t3:slot ts 3=V.s2)(t4:slot ts 4=V.s3)(t5:slot ts 5=V.s4):
  WC P bL (qq 6) [] ts W (FQ [(2,some (some 7))] (JB h V)):=by
 have hL:V.aj.length<=64:=by have:=w.l2;simpa [RV.an]using this
 have hRl:V.an.aj.length=V.aj.length:=by simp[RV.an]
 rw[On];unfold ow fn224 gA;simp only[ai.j,ai.s,ai.r,ai.dr,ai.tl,ai.hd];refine Rs (A3 t1 t2 t3) ?_;refine WL.inv T.mix (λm ts h'=>∃(k:Nat) (U:RV),k<=V.aj.length/\m=V.aj.length-k/\wS h r h' U/\U.an={V.an with aj:=V.an.aj.take k,aE:=[],aG:=[] }/\ts.length=100/\slot ts 1=.ptr h.length 0/\slot ts 2=.ptr (h.length+1) 0/\slot ts 3=V.s2/\slot ts 4=V.s3/\slot ts 5=V.s4/\slot ts 6=.i k) V.aj.length
  ⟨0,U,Om,rfl,s,hr,Sn,(Sq t1),(Sq t2),(Sq t3),(Sq t4),(Sq t5),gM⟩ ?_
 clear t1 t2 t3 t4 t5 hlen s hr;rintro _ ts W ⟨k,U,hk,rfl,s,hr,hlen,t1,t2,t3,t4,t5,t6⟩;have oW:=o.ext s.ex;by_cases hlt:k<V.aj.length
 ·have e3:=ee hlt;have e5:=wrapN (n:=k) Om;have ix:=oW.i2.dG (kk:=.i64) hlt;obtain⟨y,hy⟩:∃y,y=V.aj[k]:=⟨_,rfl⟩;have Ty:y∈V.aj:=by rw[hy];exact Za _
  have ld:∀{k':ah},Ext W k'->aq (some 3) (cN V.s2 3 k) (λb=>k'[b]?)=some (.agg (aX y),.au):=λ{k'} e=>by rw[hy];exact oW.i2.jD hlt e
  have oy:=oW.e2 y Ty;have Sv:=oy.one;unfold aX at ld;obtain⟨n,hn⟩:∃n,n=W.length:=⟨_,rfl⟩;refine Rs (kS t1 t2 t3 t4 t5 t6 oW.i2.aJ e3 ix @ld @Sv) ?_;refine WR.ql (N:=n+1) a8 (by rw[hn];simp) (oy.ext Xx) (by have:=hs y Ty;simp only[YY];omega) λt g f=>?_
  have p1:=f.ba.one;rw[<-hn];obtain⟨W3,RZ⟩:∃W3,W3=W++[ak.b [AV.str y.1.name,AV.str y.1.line,y.2]]++[.b []]++g:=⟨_,rfl⟩;rw[<-RZ]at f ⊢;have XQ:Ext W W3:=by rw[RZ];exact Xx
  have l3:n+2<=W3.length:=by rw[RZ,hn];simp only[YP,YV,YX];omega
  have m3:W3[n]? =some (.b [AV.str y.1.name,AV.str y.1.line,y.2]):=by rw[RZ,hn];exact(show Ext (W++[ak.b [AV.str y.1.name,AV.str y.1.line,y.2]]) _ from Xx).some a8
  have Xm:aW 1 (.ptr n 2) t (λz=>W3[z]?)=some (az,.set n (.b [AV.str y.1.name,AV.str y.1.line,t])):=(aL m3).trans (bX p1 (by show 2+1<=3;omega));refine Rs (A8 t1 t2 t3 t4 t5 t6 @Xm @p1) ?_;obtain⟨W4,SE⟩:∃W4,W4=W3.set n (.b [AV.str y.1.name,AV.str y.1.line,t]):=⟨_,rfl⟩;rw[<-SE];have l4:W4.length=W3.length:=by rw[SE,ZI]
  have k4:∀i,i≠n->W4[i]? =W3[i]? :=λi hi=>by rw[SE,Zc (aam hi)]
  have m4:W4[n]? =some (.b [AV.str y.1.name,AV.str y.1.line,t]):=by rw[SE,Zd Om]
  have e4:Ext W W4:=by rw[SE];exact XQ.iQ Om
  have s4:wS h r W4 U:=s.grow e4;have f4:Fr (n+1) W4 t 1 (y.1.aB.map ao):=f.aD λi hi=>k4 i (by have:=(f.bN hi).1;omega)
  have lr:=@eE _ _ _ s4.bk.m;have ln4:=@eE _ _ _ m4;clear XQ m3 Xm f SE RZ;refine Rs (lQ t1 t2 t3 t4 t5 t6 @lr @ln4 @dy @p1) ?_;have TF:U.aj.length<=64:=by
   have h1:U.an.aj.length=U.aj.length:=by simp[RV.an]
   exact G4
  obtain⟨z,hz⟩:∃z:List AV,z=aX (y.1,t):=⟨_,rfl⟩;have TJ:[AV.str y.1.name,AV.str y.1.line,t]=z:=by rw[hz];rfl
  rw[TJ];have Yg:aH (W4++[ak.cells z true true]) (AV.slice W4.length 0 1 3) 3 [z]:=by
   exact Qs
  refine WR.fG (h0:=h) (cs:=U.aj.map aX) (ys:=[z]) ((s4.bk.o.i2).app _) Yg De Si (by simp only[YY,YV,YX];omega) (s4.ex.trans Xx) ?_;intro g' RT hff hkp;have hrow:U.aj.map aX++[z]=(U.aj++[(y.1,t)]).map aX:=by rw[Y5,hz];rfl
  rw[hrow]at hff;rw[hrow];obtain⟨s',RH⟩:∃s',s' =AV.slice (W4++[ak.cells z true true]).length 0 ((U.aj++[(y.1,t)]).map aX).length 3:=⟨_,rfl⟩;rw[<-RH]at hff;rw[<-RH];have TK:sB s' =some (W4.length+1):=by rw[RH];simp[sB]
  have q1:s'.one=true:=by rw[RH];rfl
  obtain⟨W5,Ug⟩:∃W5,W5=h++g':=⟨_,rfl⟩;rw[<-Ug]at RT hff hkp ⊢;have hk1:∀i,i<W4.length->sB U.s2≠some i->W5[i]? =W4[i]? :=λi hi hne=>by
   exact M6
  have hl5:W4.length<=W5.length:=by rw[RT];simp only[YP];omega
  have htb:∀i,sB t=some i->W.length<=i/\i<W4.length:=λi hi=>by have:=f4.bN hi;omega
  have bU:∀i,sB t=some i->sB U.s2≠some i:=λi hi e=>by
   exact Nq
  have f5:Fr h.length W5 t 1 (y.1.aB.map ao):=(f4.aD λi hi=>hk1 i (htb i hi).2 (bU i hi)).low (by have:=s.bk.lt;omega);have XP:W.length<=W4.length:=e4.len;have s5:wS h r (W5.set h.length (.b (U.row.set 3 s'))) {U with aj:=U.aj++[(y.1,t)],s2:=s'}:=
   s.p2 hff f5 (λi hi=>.inr (by rw[TK]at hi;cases hi;omega)) (λi hi=>⟨(htb i hi).1,λe=>by rw[TK]at e;cases e;have:=(htb _ hi).2;omega⟩) (λi hi hne=>(hk1 i Om hne).trans (e4.get hi)) (by rw[Ug];exact⟨_,rfl⟩) Om
  have mB:W5[h.length]? =some (.b U.row):=(hk1 _ s4.bk.lt (λz=>s4.bk.ne (by rw[<-z];simp[RV.bl]))).trans s4.bk.m;have Tu:aW 1 (.ptr h.length 3) s' (λz=>W5[z]?)=some (az,.set h.length (.b (U.row.set 3 s'))):=(aL mB).trans (bX q1 (by show 3+1<=7;omega));refine Rs (A9 t1 t2 t3 t4 t5 t6 @Tu q1 e5) ?_;refine⟨_,Om,k+1,_,Om,rfl,s5,?_,rfl⟩;have:V.an.aj.take (k+1)=V.an.aj.take k++[y.1]:=by
   exact Nr
  rw[this];have hf:(U.aj++[(y.1,t)]).map Prod.fst=V.an.aj.take k++[y.1]:=by
   have h1:U.an.aj=V.an.aj.take k:=by rw[hr]
   rw[Y5,<-h1];rfl
  have e:({U with aj:=U.aj++[(y.1,t)],s2:=s'}:RV).an={U.an with aj:=(U.aj++[(y.1,t)]).map Prod.fst}:=rfl;rw[e,hf,hr]
 ·have e3:decide ((k:Int)<V.aj.length)=false:=YS Om;have e4:k=V.aj.length:=Om
  rw[e4,<-hRl,ZA]at hr;refine Rs (A8 t1 t2 t3 t4 t5 t6 oW.i2.aJ e3) ?_;refine Oz T o w hm hj s hr Sn (Sq t1) (Sq t2) (Sq t4) (Sq t5)
def OB(o:aC h V)(w:eJ V.an)(hs:∀x∈V.aj,x.1.aB.length<=2^30)(hm:∀x∈V.aE,x.1.bA.length<=2^30)(hj:∀x∈V.aG,x.1.bB.length<=2^30)
  {W0}(hW0:W0=h++[.b V.row]++[.b kT]) (hlen:ts.length=100) (t1:slot ts 1=.ptr h.length 0) (t2:slot ts 2=.ptr (h.length+1) 0):
  WC P bL (qq 1) [] ts W0 (FQ [(2,some (some 7))] (JB h V)):=by
 have nb0:V.lines.length<=16:=w.l0;have nb5:V.aN.length<=16:=w.l5;have nb1:V.aB.length<=16:=w.l1;have o0:=o.i0.one;have o1:=o.i1.one;have o2:=o.i2.one;have o3:=o.i3.one;have o4:=o.i4.one;have o5:=o.i5.one;have m0:W0[h.length]? =some (.b [AV.i V.tick,V.s0,V.s1,V.s2,V.s3,V.s4,V.s5]):=by rw[hW0];simp;rfl
 have z0:W0[h.length+1]? =some (.b kT):=by rw[hW0];simp
 have e0:Ext h W0:=by rw[hW0];exact Xx
 rw[Ov,Ou,Ot,Oq,Oo];unfold ow fn224 gA;simp only[ai.j,ai.s,ai.r,ai.dr,ai.tl,ai.hd];obtain⟨n0,Wc⟩:∃n,n=W0.length:=⟨_,rfl⟩;have lr0:=@eE _ _ _ m0;refine Rs (A4 t1 t2 @lr0 @o0) ?_;refine WR.ql (N:=n0) (w:=32) a8 (Nat.le_of_eq Wc) ((o.i0.ext e0).ext Xx) (by simp only[YY];omega) λa0 g0 f0=>?_
 have p0:=f0.ba.one;obtain⟨Y0,hY0⟩:∃Y,Y=W0++[ak.b []]++g0:=⟨_,rfl⟩;rw[<-hY0]at f0 ⊢;have eY0:Ext W0 Y0:=by rw[hY0];exact Xx
 have sb0:aW 1 (.ptr h.length 1) a0 (λz=>Y0[z]?)=some (az,.set h.length (.b [AV.i V.tick,a0,V.s1,V.s2,V.s3,V.s4,V.s5])):=(aL (eY0.some m0)).trans (bX p0 (by show 1+1<=7;omega));refine Rs (A4 t1 t2 @sb0 @p0) ?_;obtain⟨W1,Uy⟩:∃W,W=Y0.set h.length (.b [AV.i V.tick,a0,V.s1,V.s2,V.s3,V.s4,V.s5]):=⟨_,rfl⟩;rw[<-Uy];have l1:W0.length<=W1.length:=by rw[Uy,ZI];exact eY0.len
 have k1:∀i,i<W0.length->i≠h.length->W1[i]? =W0[i]? :=λi hi hne=>by rw[Uy,Zc (aam hne),eY0.get hi]
 have m1:W1[h.length]? =some (.b [AV.i V.tick,a0,V.s1,V.s2,V.s3,V.s4,V.s5]):=by rw[Uy,Zd (by have:=eY0.len;have:=(YQ.1 m0).1;omega)]
 have e1:Ext h W1:=by rw[Uy];exact(e0.trans eY0).iQ (Y9 _)
 have z1:W1[h.length+1]? =some (.b kT):=(k1 _ (YQ.1 z0).1 Om).trans z0;have c0:Fr n0 W1 a0 3 (V.lines.map bV):=f0.aD λi hi=>by
  have:=(f0.bN hi).1;have:=(YQ.1 z0).1;rw[Uy,Zc Om]
 clear f0 sb0 lr0;obtain⟨n1,hn1⟩:∃n,n=W1.length:=⟨_,rfl⟩;have lr1:=@eE _ _ _ m1;refine Rs (A4 t1 t2 @lr1 @o1) ?_;refine WR.ql (N:=n1) (w:=24) a8 (Nat.le_of_eq hn1) ((o.i1.ext e1).ext Xx) (by simp only[YY];omega) λa1 g1 f1=>?_
 have p1:=f1.ba.one;obtain⟨Y1,VP⟩:∃Y,Y=W1++[ak.b []]++g1:=⟨_,rfl⟩;rw[<-VP]at f1 ⊢;have eY1:Ext W1 Y1:=by rw[VP];exact Xx
 have sb1:aW 1 (.ptr h.length 2) a1 (λz=>Y1[z]?)=some (az,.set h.length (.b [AV.i V.tick,a0,a1,V.s2,V.s3,V.s4,V.s5])):=(aL (eY1.some m1)).trans (bX p1 (by show 2+1<=7;omega));refine Rs (A4 t1 t2 @sb1 @p1) ?_;obtain⟨W2,So⟩:∃W,W=Y1.set h.length (.b [AV.i V.tick,a0,a1,V.s2,V.s3,V.s4,V.s5]):=⟨_,rfl⟩;rw[<-So];have l2:W1.length<=W2.length:=by rw[So,ZI];exact eY1.len
 have k2:∀i,i<W1.length->i≠h.length->W2[i]? =W1[i]? :=λi hi hne=>by rw[So,Zc (aam hne),eY1.get hi]
 have m2:W2[h.length]? =some (.b [AV.i V.tick,a0,a1,V.s2,V.s3,V.s4,V.s5]):=by rw[So,Zd (by have:=eY1.len;have:=(YQ.1 m1).1;omega)]
 have e2:Ext h W2:=by rw[So];exact(e1.trans eY1).iQ (Y9 _)
 have z2:W2[h.length+1]? =some (.b kT):=(k2 _ (YQ.1 z1).1 Om).trans z1;have c1:Fr n1 W2 a1 2 (V.aB.map dt):=f1.aD λi hi=>by
  have:=(f1.bN hi).1;have:=(YQ.1 z1).1;rw[So,Zc Om]
 clear f1 sb1 lr1;obtain⟨n2,hn2⟩:∃n,n=W2.length:=⟨_,rfl⟩;have lr2:=@eE _ _ _ m2;refine Rs (A4 t1 t2 @lr2 @o5) ?_;refine WR.ql (N:=n2) (w:=48) a8 (Nat.le_of_eq hn2) ((o.i5.ext e2).ext Xx) (by simp only[YY];omega) λa5 g2 f5=>?_
 have p5:=f5.ba.one;obtain⟨Y2,Uf⟩:∃Y,Y=W2++[ak.b []]++g2:=⟨_,rfl⟩;rw[<-Uf]at f5 ⊢;have UC:Ext W2 Y2:=by rw[Uf];exact Xx
 have sb2:aW 1 (.ptr h.length 6) a5 (λz=>Y2[z]?)=some (az,.set h.length (.b [AV.i V.tick,a0,a1,V.s2,V.s3,V.s4,a5])):=(aL (UC.some m2)).trans (bX p5 (by show 6+1<=7;omega));refine Rs (A4 t1 t2 @sb2 @p5) ?_;obtain⟨W3,RZ⟩:∃W,W=Y2.set h.length (.b [AV.i V.tick,a0,a1,V.s2,V.s3,V.s4,a5]):=⟨_,rfl⟩;rw[<-RZ];have l3:W2.length<=W3.length:=by rw[RZ,ZI];exact UC.len
 have k3:∀i,i<W2.length->i≠h.length->W3[i]? =W2[i]? :=λi hi hne=>by rw[RZ,Zc (aam hne),UC.get hi]
 have m3:W3[h.length]? =some (.b [AV.i V.tick,a0,a1,V.s2,V.s3,V.s4,a5]):=by rw[RZ,Zd (by have:=UC.len;have:=(YQ.1 m2).1;omega)]
 have e3:Ext h W3:=by rw[RZ];exact(e2.trans UC).iQ (Y9 _)
 have z3:W3[h.length+1]? =some (.b kT):=(k3 _ (YQ.1 z2).1 Om).trans z2;have c5:Fr n2 W3 a5 4 (V.aN.map dh):=f5.aD λi hi=>by
  have:=(f5.bN hi).1;have:=(YQ.1 z2).1;rw[RZ,Zc Om]
 clear f5 sb2 lr2;have lr3:=@eE _ _ _ m3;have Ue:=(YQ.1 m3).1;have s3:aW 1 (.ptr h.length 3) .af (λz=>W3[z]?)=some (az,.set h.length (.b [AV.i V.tick,a0,a1,.af,V.s3,V.s4,a5])):=(aL m3).trans (bX rfl (by show 3+1<=7;omega));have m4:(W3.set h.length (.b [AV.i V.tick,a0,a1,.af,V.s3,V.s4,a5]))[h.length]? =some (.b [AV.i V.tick,a0,a1,.af,V.s3,V.s4,a5]):=Zd Ue;have s4:aW 1 (.ptr h.length 4) .af (λz=>(W3.set h.length (.b [AV.i V.tick,a0,a1,.af,V.s3,V.s4,a5]))[z]?)=some (az,.set h.length (.b [AV.i V.tick,a0,a1,.af,.af,V.s4,a5])):=(aL m4).trans (bX rfl (by show 4+1<=7;omega));have m5:((W3.set h.length (.b [AV.i V.tick,a0,a1,.af,V.s3,V.s4,a5])).set h.length (.b [AV.i V.tick,a0,a1,.af,.af,V.s4,a5]))[h.length]? =some (.b [AV.i V.tick,a0,a1,.af,.af,V.s4,a5]):=Zd (by rw[ZI];exact Ue)
 have s5:aW 1 (.ptr h.length 5) .af (λz=>((W3.set h.length (.b [AV.i V.tick,a0,a1,.af,V.s3,V.s4,a5])).set h.length (.b [AV.i V.tick,a0,a1,.af,.af,V.s4,a5]))[z]?)=some (az,.set h.length (.b [AV.i V.tick,a0,a1,.af,.af,.af,a5])):=(aL m5).trans (bX rfl (by show 5+1<=7;omega));obtain⟨W6,TC⟩:∃W,W=W3.set h.length (.b [AV.i V.tick,a0,a1,.af,.af,.af,a5]):=⟨_,rfl⟩;have k6:∀i,i≠h.length->W6[i]? =W3[i]? :=λi hi=>by rw[TC,Zc (aam hi)]
 have m6:W6[h.length]? =some (.b [AV.i V.tick,a0,a1,.af,.af,.af,a5]):=by rw[TC,Zd Ue]
 have l0:n0=h.length+2:=by rw[Wc,hW0];simp
 have r0:∀i,sB a0=some i->n0<=i/\i<W1.length:=λi hi=>c0.bN hi
 have r1:∀i,sB a1=some i->n1<=i/\i<W2.length:=λi hi=>c1.bN hi
 have r5:∀i,sB a5=some i->n2<=i/\i<W3.length:=λi hi=>c5.bN hi
 have fa0:Fr h.length W6 a0 3 (V.lines.map bV):=(c0.aD λi hi=>by
  have:=r0 i hi;rw[k6 i Om,k3 i Om Om,k2 i Om Om]).low Om
 have fa1:Fr h.length W6 a1 2 (V.aB.map dt):=(c1.aD λi hi=>by
  have:=r1 i hi;rw[k6 i Om,k3 i Om Om]).low Om
 have fa5:Fr h.length W6 a5 4 (V.aN.map dh):=(c5.aD λi hi=>by
  have:=r5 i hi;rw[k6 i Om]).low Om
 obtain⟨U,hU⟩:∃U:RV,U=⟨V.tick,V.lines,V.aB,[],[],[],V.aN,a0,a1,.af,.af,.af,a5⟩:=⟨_,rfl⟩;have hbl:U.bl=[sB a0,sB a1,none,none,none,sB a5]:=by rw[hU];rfl
 have hlo:∀i,some i∈U.bl->h.length+2<=i:=λi hi=>by
  rw[hbl]at hi;simp only[ZC,ZY,aay,reduceCtorEq,false_or]at hi;rcases hi with hi|hi|hi
  ·have:=r0 i hi.symm;omega
  ·have:=r1 i hi.symm;omega
  ·have:=r5 i hi.symm;omega
 have SC:lq U.bl:=by
  rw[hbl];refine Z0.2 ⟨λy hy b hb e=>?_,Z0.2 ⟨λy hy b hb e=>?_,Z0.2 ⟨(λy hy b hb e=>by cases hb),Z0.2 ⟨(λy hy b hb e=>by cases hb),Z0.2 ⟨(λy hy b hb e=>by cases hb),aax _ _⟩⟩⟩⟩⟩
  ·have h1:=r0 b hb;subst e;simp only[ZC,ZY,aay,reduceCtorEq,false_or]at hy;rcases hy with hy|hy
   ·have:=r1 b hy.symm;omega
   ·have:=r5 b hy.symm;omega
  ·have h1:=r1 b hb;subst e;simp only[ZC,ZY,aay,reduceCtorEq,false_or]at hy;have:=r5 b hy.symm;omega
 have own:cH h.length W6 U:=by
  rw[hU]at SC ⊢;exact⟨fa0,fa1,.nil,.nil,.nil,fa5,(λx hx=>by cases hx),(λx hx=>by cases hx),(λx hx=>by cases hx),SC⟩
 have s:wS h (.b V.row) W6 U:=by
  refine⟨⟨own,Y9 _,by rw[hU];exact m6,λhi=>by have:=hlo _ hi;omega⟩,by rw[TC];exact e3.iQ (Y9 _),by rw[<-hW0,TC,ZI];omega,λi hi=>?_,λi hi=>⟨?_,?_,λhm=>?_⟩⟩
  ·have:i≠h.length/\i<W0.length:=by rcases hi with hi|hi<;>omega
   rw[<-hW0,k6 i this.1,k3 i Om this.1,k2 i Om this.1,k1 i Om this.1]
  ·simp only[YP,YV,YX];rcases hi with hi|hi<;>omega
  ·rcases hi with hi|hi<;>omega
  ·have:=hlo _ hm;rcases hi with hi|hi<;>omega
 clear c0 c1 c5 fa0 fa1 fa5 own SC;refine Rs (A9 t1 t2 @lr3 @o2 @o3 @o4 @s3 @s4 @s5) ?_;have aT:((W3.set h.length (.b [AV.i V.tick,a0,a1,.af,V.s3,V.s4,a5])).set h.length (.b [AV.i V.tick,a0,a1,.af,.af,V.s4,a5])).set h.length (.b [AV.i V.tick,a0,a1,.af,.af,.af,a5])=W6:=by rw[TC,List.set_set,List.set_set]
 rw[aT];exact OA T o w hs hm hj s (by rw[hU];rfl) Sn (Sq t1) (Sq t2) Sw Sw Sw
def r224(o:aC h V)(w:eJ V.an):ay P 224 [.agg V.row] h (λv h'=>∃V':RV,V'.an=V.an/\v=.agg V'.row/\cH h.length h' V'):=by
 have i:=w.ue;have hs:∀x∈V.aj,x.1.aB.length<=2^30:=λx hx=>by have:=(i.sh x hx).2;omega
 have hm:∀x∈V.aE,x.1.bA.length<=2^30:=λx hx=>by have:=(w.md x.1 (Zo hx)).2.1;omega
 have hj:∀x∈V.aG,x.1.bB.length<=2^30:=λx hx=>by have:=(w.jb x.1 (Zo hx)).2.2.1;omega
 refine .of T.mix (abq T.c224 (Zz some Ox)) ?_;obtain⟨ts,RG⟩:∃ts,ts=aR 100 [.agg V.row]:=⟨_,rfl⟩;have hlen:ts.length=100:=by rw[RG];rfl
 have t0:slot ts 0=.agg V.row:=by rw[RG];rfl
 show WC P bL (.seq (ow 0) (qq 1)) [] (aR 100 [.agg V.row]) h (FQ [(2,some (some 7))] (JB h V));rw[<-RG];clear RG;have RF:=@aC.box _ _ o;unfold ow fn224 gA;simp only[ai.j,ai.s,ai.r,ai.dr,ai.tl,ai.hd];refine Rs (A2 t0 @RF) ?_;refine OB T o w hs hm hj rfl Sn Sw (by simp only[aQ,aT,bo,bp,reduceAdd,reduceMul,reduceLeDiff,reduceEqDiff,bz,hlen,Zf,Zi];simp)
end
end Go.Abs
namespace Go.Abs
def Rx(X:ah)(V:RV)(i:Nat):Prop:=(i<X.length/\some i∉V.bl)\/i=X.length+1\/i=X.length+2
def cE(B X:ah)(x:EV)(V:RV)(W:ah)(U:RV):Prop:=
 eX B (X++[.b V.row]++[.b x.row]++[.b kT]) X.length (Rx X V) W U
def rW(B X:ah)(V:RV)(c:Int)(R':eM):AV->ah->Prop:=λv k=>
 Ext B k/\X.length<=k.length/\(∀i,i<X.length->some i∉V.bl->k[i]? =X[i]?)/\∃V':RV,v=.dM [.agg V'.row,.i c]/\cH B.length k V'/\(c=0->V'.an=R')/\∀i,some i∈V'.bl->some i∈V.bl\/X.length<=i
section
variable {B X W:ah}{x:EV}{V U:RV}(s:cE B X x V W U)
include s
def cE.lr{k n a}(e:Ext W k):aq n (.ptr X.length a) (λz=>k[z]?)=dE n a (.b U.row):=aA (e.some s.bk.m)
def cE.Md:W[X.length+1]? =some (.b x.row):=by rw[eX.kp s _ (.inr (.inl rfl))];simp
def cE.Mc:W[X.length+2]? =some (.b kT):=by rw[eX.kp s _ (.inr (.inr rfl))];simp
def cE.le{k n a}(e:Ext W k):aq n (.ptr (X.length+1) a) (λz=>k[z]?)=dE n a (.b x.row):=aA (e.some s.Md)
def cE.sb{k}(e:Ext W k):aW 7 (.ptr (X.length+2) 0) (.agg U.row) (λz=>k[z]?)=some (az,.set (X.length+2) (.b U.row)):=by
 have h1:=@aL 7 (X.length+2) 0 (.agg U.row) (λz=>k[z]?) _ (e.some s.Mc);have st:=@aC.st _ _ s.bk.o.ok;unfold kT at h1;rw[st]at h1;exact h1
def cE.gm{k}(e:Ext W k):aq (some 7) (.ptr (X.length+2) 0) (λz=>(k.set (X.length+2) (.b U.row))[z]?)=some (.agg U.row,.au):=by
 have hl:=(YQ.1 (e.some s.Mc)).1;rw[aA (Zd hl)];rfl
def cE.fa:=A4 (@cE.lr _ _ _ _ _ _ s) (@cE.le _ _ _ _ _ _ s) (@cE.sb _ _ _ _ _ _ s) (@cE.gm _ _ _ _ _ _ s)
def cE.fin{c R'}(hc:c=0->U.an=R'):rW B X V c R' (.dM [.agg U.row,.i c]) (W.set (X.length+2) (.b U.row)):=by
 have hN:B.length<=X.length:=s.bk.hN;have WJ:X.length+3<=W.length:=by have:=eX.ln s;simpa using this
 refine⟨s.ex.iQ Om,by rw[ZI];omega,λi hi hv=>?_,U,rfl,s.bk.o.au λi hi=>?_,hc,λi hi=>?_⟩
 ·rw[Zc Om,eX.kp s i (.inl ⟨hi,hv⟩)];simp only[YR];exact YT hi
 ·have:i≠X.length+2:=λe=>(eX.kl s _ (.inr (.inr rfl))).2.2 (e▸hi)
  rw[Zc (aam this)]
 ·by_cases h1:some i∈V.bl
  ·exact .inl h1
  ·by_cases h2:i<X.length
   ·exact absurd hi (eX.kl s i (.inl ⟨h2,h1⟩)).2.2
   ·exact .inr Om
end
def wo{h x d}(o:bw h x)(we:ko x.ev d){i:Nat}(hi:i<(bK d).length):aS 1 x.sn (.i (i:Int))=some (cN x.sn 1 i,.au)/\∀{k},Ext h k->aq none (cN x.sn 1 i) (λb=>k[b]?)=some (.str (aM x.ev i),.au):=by
 have hi':i<x.ev.names.length:=by rw[we.nl];exact hi
 refine⟨o.n.dG hi',λ{k} e=>?_⟩;have:aM x.ev i=x.ev.names[i]:=by rw[aM,ZH,YU hi'];rfl
 rw[this];exact o.n.kY hi' rfl e
def bM{h x d}(o:bw h x)(we:ko x.ev d)(i:Nat)(z:Int)(hz:(i:Int)=z)(hi:i<(bK d).length):aS 1 x.sn (.i z)=some (cN x.sn 1 i,.au)/\∀{k},Ext h k->aq none (cN x.sn 1 i) (λb=>k[b]?)=some (.str (aM x.ev i),.au):=hz▸wo o we hi
def Mn{h x d}(o:bw h x)(we:ko x.ev d){i:Nat}(hi:i<cC d):aS 1 x.sv (.i (i:Int))=some (cN x.sv 1 i,.au)/\(∀{k},Ext h k->aq none (cN x.sv 1 i) (λb=>k[b]?)=some (.i (bH x.ev i),.au))/\0<=bH x.ev i/\bH x.ev i<=999999999:=by
 have hi':i<x.ev.cB.length:=by rw[we.vl];exact hi
 have:bH x.ev i=x.ev.cB[i]:=by rw[bH,ZH,YU hi'];rfl
 refine⟨o.v.dG hi',λ{k} e=>?_,we.vr _ (nF hi')⟩;rw[this];exact o.v.kY hi' rfl e
def cU{h x d}(o:bw h x)(we:ko x.ev d)(i:Nat)(z:Int)(hz:(i:Int)=z)(hi:i<cC d):aS 1 x.sv (.i z)=some (cN x.sv 1 i,.au)/\(∀{k},Ext h k->aq none (cN x.sv 1 i) (λb=>k[b]?)=some (.i (bH x.ev i),.au))/\0<=bH x.ev i/\bH x.ev i<=999999999:=hz▸Mn o we hi
def WR.qm{P ro ks ts Q B Y s es w cs z d l}
  (hs:Fr B.length Y s es cs) (hz:z.length=es) (he:Ext B Y) (hes:0<es) (ep:(cs.length+1)*w<=2^46)
  (K:∀(W5:ah) (s':AV),Ext B W5->Fr B.length W5 s' es (cs++[z])->(∀i,sB s' =some i->Y.length<i)->s'.one=true->Y.length<=W5.length->(∀i,i<Y.length->sB s≠some i->W5[i]? =Y[i]?)->WP P ro l ks (put ts d s') W5 Q):
  WR P ro (pF es w s (.slice Y.length 0 1 es) (λb=>(Y++[ak.cells z true true])[b]?) (Y++[ak.cells z true true]).length) false d l ks ts (Y++[ak.cells z true true]) Q:=by
 have Yg:aH (Y++[ak.cells z true true]) (AV.slice Y.length 0 1 es) es [z]:=by
  have:=(Fr.push (N:=0) (es:=es) (h:=Y) (Zw _) [z] (λx hx=>by rw[Zm]at hx;rw[hx,hz])).ba
  simpa using this
 refine WR.fG (h0:=B) (cs:=cs) (ys:=[z]) (hs.app _) Yg hes Si (by simpa using ep) (he.trans (Ext.app _ (Ext.refl _))) ?_;intro g' RT hff hkp;refine K _ _ ⟨_,rfl⟩ hff (λi hi=>by cases hi;simp) rfl (by rw[RT];simp only[YP,Zp];omega) (λi hi hne=>?_);exact M6
def zN:ai:=(fn225).body.tl
def Of:fn225=⟨250,2,[(4,some (some 7)),(5,none)],.seq ((fn225).body.hd) zN⟩:=rfl
set_option maxRecDepth 10000
attribute [local irreducible] WP WC WE WB WR WF WL WG fU WM
section
variable {P:Program}(T:fp P) {B X W:ah}{ts:TS}{V:RV}{x:EV}
include T
def D4(w:eJ V.an)(ox:bw B x)(we:ko x.ev .line)(nk:sI V.an x.ev .line)(s:cE B X x V W V)(hlen:ts.length=250)(t2:slot ts 2=.ptr X.length 0)(t3:slot ts 3=.ptr (X.length+1) 0)(t4:slot ts 4=.ptr (X.length+2) 0):
  WC P bL zN [] ts W (FQ [(4,some (some 7)),(5,none)] (rW B X V (bC V.an x.ev .line) (dq V.an x.ev .line))):=by
 have ow:=ox.ext s.ex;have oV:=s.bk.o.ok;have RM:x.ev.kind=bh .line:=bW we.kd;obtain⟨lr,le,sb,gm⟩:=cE.fa s;obtain⟨i0,d0⟩:=bM ow we 0 0 rfl De;obtain⟨j0,f0,q0⟩:=cU ow we 0 0 rfl De;obtain⟨j1,f1,q1⟩:=cU ow we 1 1 rfl De;unfold zN fn225;simp only[ai.tl];refine Rs (Jl t2 t3 t4 @le @lr @bj @aI @aY @fI @aF @RM @gG @j0 @f0 @j1 @f1 @Zl) ?_;refine WF.ce T.c20 (r20 T _ _ _) λg1=>?_
 obtain⟨W2,So⟩:∃Z,Z=W++g1:=⟨_,rfl⟩;rw[<-So];have R5:cE B X x V W2 V:=by rw[So];exact eX.grow s ⟨g1,rfl⟩
 have ow:=ox.ext R5.ex;have oV:=R5.bk.o.ok;obtain⟨lr,le,sb,gm⟩:=cE.fa R5;by_cases h1:bg (bH x.ev 1) 1 64=0
 case neg=>
  have e1:decide (bg (bH x.ev 1) 1 64≠0)=true:=YW h1;refine Rs (A8 t2 t3 t4 e1 @lr @aF @sb @gm) ?_;rw[bC,Zb h1];exact JF
 have e1:decide (bg (bH x.ev 1) 1 64≠0)=false:=YS (λz=>z h1);by_cases h2:16<=V.lines.length
 case pos=>
  have e2:decide ((16:Int)<=(V.lines.length:Int))=true:=YW Om;refine Rs (kS t2 t3 t4 e1 @fI oV.i0.aJ e2 @lr @aF @sb @gm) ?_;rw[bC,Y6 (λz=>z h1),Zb (show 16<=V.an.lines.length from h2)];exact JF
 have e2:decide ((16:Int)<=(V.lines.length:Int))=false:=YS Om;obtain⟨i0,d0⟩:=bM ow we 0 0 rfl De;obtain⟨j1,f1,q1⟩:=cU ow we 1 1 rfl De;refine Rs (yu t2 t3 t4 e1 @le @lr @fI oV.i0.aJ e2 @aI @aY @i0 @d0 @j1 @f1) ?_;have Td:bC V.an x.ev .line=0:=by rw[bC,Y6 (λz=>z h1),Y6 (show ¬16<=V.an.lines.length from h2)]
 obtain⟨y,hy⟩:∃y:gZ,y=⟨aM x.ev 0,bH x.ev 1,false⟩:=⟨_,rfl⟩;obtain⟨z,hz⟩:∃z:List AV,z=bV y:=⟨_,rfl⟩;have TJ:[AV.str (aM x.ev 0),.i (bH x.ev 1),.bool false]=z:=by rw[hz,hy];rfl
 rw[TJ];refine WR.qm (B:=B) (cs:=V.lines.map bV) (R5.bk.o.i0) (by rw[hz];rfl) R5.ex De (by have:=w.len.l0;rw[YY];omega) ?_;intro W5 s' x5 hff hn5 q5 l5 hk5;have hrow:V.lines.map bV++[z]=(V.lines++[y]).map bV:=by rw[Y5,hz];rfl
 rw[hrow]at hff;have s5:cE B X x V (W5.set X.length (.b (V.row.set 1 s'))) {V with lines:=V.lines++[y],s0:=s'}:=eX.p0 R5 hff (λi hi=>.inr (aaS (hn5 i hi))) hk5 x5 l5;have mB:W5[X.length]? =some (.b V.row):=(hk5 _ R5.bk.lt (λz=>R5.bk.ne (by rw[<-z];simp[RV.bl]))).trans R5.bk.m;have Tu:aW 1 (.ptr X.length 1) s' (λz=>W5[z]?)=some (az,.set X.length (.b (V.row.set 1 s'))):=(aL mB).trans (bX q5 (by show 1+1<=7;omega));refine Rs (A5 t2 t3 t4 @Tu q5) ?_;obtain⟨W6,TC⟩:∃Z,Z=W5.set X.length (.b (V.row.set 1 s')):=⟨_,rfl⟩;rw[<-TC]at s5 ⊢;obtain⟨lr,le,sb,gm⟩:=cE.fa s5;refine Rs (A7 t2 t3 t4 @lr @aF @sb @gm) ?_
 rw[Td];exact cE.fin s5 (λ_=>by rw[hy];rfl)
theorem D2(w:eJ V.an)(ox:bw B x)(we:ko x.ev .tape)(nk:sI V.an x.ev .tape)(s:cE B X x V W V)(hlen:ts.length=250)(t2:slot ts 2=.ptr X.length 0)(t3:slot ts 3=.ptr (X.length+1) 0)(t4:slot ts 4=.ptr (X.length+2) 0):
  WC P bL zN [] ts W (FQ [(4,some (some 7)),(5,none)] (rW B X V (bC V.an x.ev .tape) (dq V.an x.ev .tape))):=by
 have ow:=ox.ext s.ex;have oV:=s.bk.o.ok;have RM:x.ev.kind=bh .tape:=bW we.kd;obtain⟨lr,le,sb,gm⟩:=cE.fa s;obtain⟨i0,d0⟩:=bM ow we 0 0 rfl De;obtain⟨j0,f0,q0⟩:=cU ow we 0 0 rfl De;obtain⟨j1,f1,q1⟩:=cU ow we 1 1 rfl De;unfold zN fn225;simp only[ai.tl];by_cases h1:999999999<bH x.ev 0+bH x.ev 1
 case pos=>
  have e1:decide ((999999999:Int)<bH x.ev 0+bH x.ev 1)=true:=YW h1;have hw:IntKind.i64.wrap (bH x.ev 0+bH x.ev 1)=bH x.ev 0+bH x.ev 1:=bu Om Om;refine ph (M0 @t2 @t3 @t4 @le @lr @bj @aI @aY @aF @RM @gG @iK @Zt @j0 @f0 @j1 @f1 @Zl @hw @e1 @sb @gm) ?_;rw[bC,Zb h1];exact G1
 have e1:decide ((999999999:Int)<bH x.ev 0+bH x.ev 1)=false:=YS h1;have hw:IntKind.i64.wrap (bH x.ev 0+bH x.ev 1)=bH x.ev 0+bH x.ev 1:=bu Om Om;by_cases h2:16<=V.aB.length
 case pos=>
  have e2:decide ((16:Int)<=(V.aB.length:Int))=true:=YW Om
  repeat (first|simp (config:={maxSteps:=1000000}) only[aQ,aT,bo,bp,reduceAdd,reduceMul,reduceLeDiff,reduceEqDiff,bz,hlen,Zf,Zi,t2,t3,t4,le,lr,bj,aI,aY,aF,jX,RM,gG,iK,reduceCtorEq,Zt,j0,f0,j1,f1,Zl,hw,e1,oV.i1.aJ,e2,sb,gm]|simp (config:={maxSteps:=1000000}) (disch:=first|(simp only[YP,YV,YX]<;>omega)|rfl|omega|fail) only[fc,aQ,aT,bo,bp,reduceAdd,reduceMul,reduceLeDiff,reduceEqDiff,bz,hlen,Zf,Zi,t2,t3,t4,le,lr,bj,aI,aY,aF,jX,RM,gG,iK,reduceCtorEq,Zt,j0,f0,j1,f1,Zl,hw,e1,oV.i1.aJ,e2,sb,gm])
  rw[bC,Y6 h1,Zb (show 16<=V.an.aB.length from h2)];exact G1
 have e2:decide ((16:Int)<=(V.aB.length:Int))=false:=YS Om
 repeat (first|simp (config:={maxSteps:=1000000}) only[aQ,aT,bo,bp,reduceAdd,reduceMul,reduceLeDiff,reduceEqDiff,bz,hlen,Zf,Zi,t2,t3,t4,le,lr,bj,aI,aY,aF,jX,RM,gG,iK,reduceCtorEq,Zt,j0,f0,j1,f1,Zl,hw,e1,oV.i1.aJ,e2,i0,d0]|simp (config:={maxSteps:=1000000}) (disch:=first|(simp only[YP,YV,YX]<;>omega)|rfl|omega|fail) only[fc,aQ,aT,bo,bp,reduceAdd,reduceMul,reduceLeDiff,reduceEqDiff,bz,hlen,Zf,Zi,t2,t3,t4,le,lr,bj,aI,aY,aF,jX,RM,gG,iK,reduceCtorEq,Zt,j0,f0,j1,f1,Zl,hw,e1,oV.i1.aJ,e2,i0,d0])
 have Td:bC V.an x.ev .tape=0:=by rw[bC,Y6 h1,Y6 (show ¬16<=V.an.aB.length from h2)]
 obtain⟨y,hy⟩:∃y:qH,y=⟨aM x.ev 0,bH x.ev 0+bH x.ev 1⟩:=⟨_,rfl⟩;obtain⟨z,hz⟩:∃z:List AV,z=dt y:=⟨_,rfl⟩;have TJ:[AV.str (aM x.ev 0),.i (bH x.ev 0+bH x.ev 1)]=z:=by rw[hz,hy];rfl
 rw[TJ];refine WR.qm (B:=B) (cs:=V.aB.map dt) (s.bk.o.i1) (by rw[hz];rfl) s.ex De (by have:=w.len.l1;rw[YY];omega) ?_;intro W5 s' x5 hff hn5 q5 l5 hk5;have hrow:V.aB.map dt++[z]=(V.aB++[y]).map dt:=by rw[Y5,hz];rfl
 rw[hrow]at hff;have s5:cE B X x V (W5.set X.length (.b (V.row.set 2 s'))) {V with aB:=V.aB++[y],s1:=s'}:=eX.p1 s hff (λi hi=>.inr (aaS (hn5 i hi))) hk5 x5 l5;have mB:W5[X.length]? =some (.b V.row):=(hk5 _ s.bk.lt (λz=>s.bk.ne (by rw[<-z];simp[RV.bl]))).trans s.bk.m;have Tu:aW 1 (.ptr X.length 2) s' (λz=>W5[z]?)=some (az,.set X.length (.b (V.row.set 2 s'))):=(aL mB).trans (bX q5 (by show 2+1<=7;omega));refine Rs (A5 t2 t3 t4 @Tu q5) ?_;obtain⟨W6,TC⟩:∃Z,Z=W5.set X.length (.b (V.row.set 2 s')):=⟨_,rfl⟩;rw[<-TC]at s5 ⊢;obtain⟨lr,le,sb,gm⟩:=cE.fa s5;refine Rs (A7 t2 t3 t4 @lr @aF @sb @gm) ?_
 rw[Td];exact cE.fin s5 (λ_=>by rw[hy];rfl)
def D3(w:eJ V.an)(ox:bw B x)(we:ko x.ev .gx)(nk:sI V.an x.ev .gx)(s:cE B X x V W V)(hlen:ts.length=250)(t2:slot ts 2=.ptr X.length 0)(t3:slot ts 3=.ptr (X.length+1) 0)(t4:slot ts 4=.ptr (X.length+2) 0):
  WC P bL zN [] ts W (FQ [(4,some (some 7)),(5,none)] (rW B X V (bC V.an x.ev .gx) (dq V.an x.ev .gx))):=by
 have ow:=ox.ext s.ex;have oV:=s.bk.o.ok;have RM:x.ev.kind=bh .gx:=bW we.kd;obtain⟨lr,le,sb,gm⟩:=cE.fa s;obtain⟨i0,d0⟩:=bM ow we 0 0 rfl De;obtain⟨i1,d1⟩:=bM ow we 1 1 rfl De;obtain⟨i2,d2⟩:=bM ow we 2 2 rfl De;obtain⟨j0,f0,q0⟩:=cU ow we 0 0 rfl De;unfold zN fn225;simp only[ai.tl];have k1:aM x.ev 1∈gP V.an:=nk.kn 1 0 rfl;have k2:aM x.ev 2∈jG V.an:=nk.kn 2 1 rfl;have hlt:bn (gP V.an) (aM x.ev 1)<V.lines.length:=by have:=cR k1;simpa [gP,RV.an]using this
 have ei:cT (λy:gZ=>decide (y.name=aM x.ev 1)) V.lines=(bn (gP V.an) (aM x.ev 1):Int):=eT (f:=gZ.name) k1;have sp:du V.an (aM x.ev 1)=V.lines[bn (gP V.an) (aM x.ev 1)]:=de k1;refine ph (Nn @t2 @t3 @t4 @le @lr @bj @aI @aY @aF @fI @RM @gG @iK @rB @Zt @j0 @f0 @i1 @d1 @Zl) ?_;refine WF.ce T.c28 (r28 T (oV.ext Xx) w.len _) λg1=>?_
 rw[ei];obtain⟨W2,So⟩:∃Z,Z=W++g1:=⟨_,rfl⟩;rw[<-So];have R5:cE B X x V W2 V:=by rw[So];exact eX.grow s ⟨g1,rfl⟩
 have ow:=ox.ext R5.ex;have oV:=R5.bk.o.ok;obtain⟨lr,le,sb,gm⟩:=cE.fa R5;obtain⟨i0,d0⟩:=bM ow we 0 0 rfl De;obtain⟨i1,d1⟩:=bM ow we 1 1 rfl De;obtain⟨i2,d2⟩:=bM ow we 2 2 rfl De;obtain⟨j0,f0,q0⟩:=cU ow we 0 0 rfl De;have ix:aS 3 V.s0 (.i (bn (gP V.an) (aM x.ev 1):Int))=some (cN V.s0 3 (bn (gP V.an) (aM x.ev 1)),.au):=oV.i0.dG hlt;have l2:∀{k:ah},Ext W2 k->aq none (lL V.s0 3 (bn (gP V.an) (aM x.ev 1)) 2) (λb=>k[b]?)=some (.bool (du V.an (aM x.ev 1)).acc,.au):=λ{k} e=>by rw[sp];exact oV.i0.pW hlt rfl e
 cases h1:(du V.an (aM x.ev 1)).acc with
 |true=>
  rw[h1]at l2;refine Rs (A9 t2 t3 t4 ix @l2 @lr @aF @sb @gm) ?_;rw[bC,Zb h1];exact JF
 |false=>
 rw[h1]at l2;refine Rs (kS t2 t3 t4 ix @l2 @le @lr @aF @aI @i2 @d2) ?_;refine WF.ce T.c84 (r84 T (oV.ext Xx) w.len k2 _) λg2=>?_
 obtain⟨W3,RZ⟩:∃Z,Z=W2++g2:=⟨_,rfl⟩;rw[<-RZ];have Sa:cE B X x V W3 V:=by rw[RZ];exact eX.grow R5 ⟨g2,rfl⟩
 have ow:=ox.ext Sa.ex;have oV:=Sa.bk.o.ok;obtain⟨lr,le,sb,gm⟩:=cE.fa Sa;obtain⟨i0,d0⟩:=bM ow we 0 0 rfl De;obtain⟨i1,d1⟩:=bM ow we 1 1 rfl De;obtain⟨i2,d2⟩:=bM ow we 2 2 rfl De;obtain⟨j0,f0,q0⟩:=cU ow we 0 0 rfl De;cases h2:fR V.an (bH x.ev 0) (aM x.ev 2)with
 |false=>
  refine Rs (A8 t2 t3 t4 @Zq @lr @aF @sb @gm) ?_;rw[bC,Y6 (by rw[h1];decide),Zb (by rw[h2];rfl)];exact z40
 |true=>
 by_cases h3:64<=V.aj.length
 case pos=>
  have e3:decide ((64:Int)<=(V.aj.length:Int))=true:=YW Om;refine Rs (kS t2 t3 t4 @Zg @dy oV.i2.aJ e3 @lr @aF @sb @gm) ?_;rw[bC,Y6 (by rw[h1];decide),Y6 (by rw[h2];decide),Zb (show 64<=V.an.aj.length by simpa [RV.an]using h3)];exact z40
 have e3:decide ((64:Int)<=(V.aj.length:Int))=false:=YS Om;have Td:bC V.an x.ev .gx=0:=by rw[bC,Y6 (by rw[h1];decide),Y6 (by rw[h2];decide),Y6 (show ¬64<=V.an.aj.length by simpa [RV.an]using h3)]
 obtain⟨t,ht⟩:∃t,t=AV.slice W3.length 0 1 1:=⟨_,rfl⟩;have ot:t.one=true:=by rw[ht];rfl
 refine Rs (Dr t2 t3 t4 @Zg @le @lr @dy oV.i2.aJ e3 @aI @i0 @d0 @i1 @d1 @i2 @d2) ?_;rw[<-ht];refine Rs (A4 t2 t3 t4 @ot) ?_;obtain⟨y,hy⟩:∃y:gN,y=⟨aM x.ev 0,aM x.ev 1,[aM x.ev 2]⟩:=⟨_,rfl⟩;obtain⟨z,hz⟩:∃z:List AV,z=aX (y,t):=⟨_,rfl⟩;have TJ:[AV.str (aM x.ev 0),.str (aM x.ev 1),t]=z:=by rw[hz,hy];rfl
 rw[TJ];obtain⟨Y,hY⟩:∃Z,Z=W3++[ak.cells [.str (aM x.ev 2)] true true]:=⟨_,rfl⟩;rw[<-hY];have SL:Fr W3.length Y t 1 (y.aB.map ao):=by
  rw[ht,hy,hY];exact(Fr.push (h:=W3) (N:=W3.length) (Y9 _) [ao (aM x.ev 2)] (by simp[ao]))
 have sY:cE B X x V Y V:=by rw[hY];exact eX.grow Sa ⟨_,rfl⟩
 have lY:W3.length<Y.length:=by rw[hY];simp
 have eY:Ext W3 Y:=by rw[hY];exact⟨_,rfl⟩
 refine WR.qm (B:=B) (cs:=V.aj.map aX) (sY.bk.o.i2) (by rw[hz];rfl) sY.ex De (by have:=w.len.l2;rw[YY];omega) ?_;intro W5 s' x5 hff hn5 q5 l5 hk5;have hrow:V.aj.map aX++[z]=(V.aj++[(y,t)]).map aX:=by rw[Y5,hz];rfl
 rw[hrow]at hff;have bU:∀i,sB t=some i->sB V.s2≠some i:=λi hi e=>by
  have h1:=(SL.bN hi).1;have h2:=(Sa.bk.o.dR (b:=i) (by rw[<-e];simp[RV.bl])).2;omega
 have f5:Fr B.length W5 t 1 (y.aB.map ao):=(SL.aD λi hi=>hk5 i (SL.bN hi).2 (bU i hi)).low Sa.ex.len;have s5:cE B X x V (W5.set X.length (.b (V.row.set 3 s'))) {V with aj:=V.aj++[(y,t)],s2:=s'}:=eX.p2 Sa hff f5 (λi hi=>.inr (by have:=hn5 i hi;omega)) (λi hi=>⟨(SL.bN hi).1,λe=>by have:=hn5 i e;have:=(SL.bN hi).2;omega⟩) (λi hi hne=>(hk5 i Om hne).trans (eY.get hi)) x5 Om;have mB:W5[X.length]? =some (.b V.row):=(hk5 _ sY.bk.lt (λz=>sY.bk.ne (by rw[<-z];simp[RV.bl]))).trans sY.bk.m;have Tu:aW 1 (.ptr X.length 3) s' (λz=>W5[z]?)=some (az,.set X.length (.b (V.row.set 3 s'))):=(aL mB).trans (bX q5 (by show 3+1<=7;omega))
 refine Rs (A5 t2 t3 t4 @Tu q5) ?_;obtain⟨W6,TC⟩:∃Z,Z=W5.set X.length (.b (V.row.set 3 s')):=⟨_,rfl⟩;rw[<-TC]at s5 ⊢;obtain⟨lr,le,sb,gm⟩:=cE.fa s5;refine Rs (A7 t2 t3 t4 @lr @aF @sb @gm) ?_;rw[Td];exact cE.fin s5 (λ_=>by simp only[RV.an,Y5,dq,ZP,aaF,hy])
end
def gB:List AV:=[.int .i64 0,.str [],.af,.af,.str []]
def CA(kd:By)(sn sv:AV):ak:=.cells [.int .i64 0,.str kd,sn,sv,.str []] true false
structure uP(A:ah)(kd:By)(b8:Nat)(kb:ak)(sw:AV)(wr:Bool)(ws:List (By))(sn sv:AV)(ns:List (By))(vs:List Int)(B:ah):Prop where
 m7:(A++[gQ sw wr]++B)[A.length+1]? =some (CA kd sn sv)
 m8:(A++[gQ sw wr]++B)[b8]? =some kb
 l8:A.length+1<b8
 s:aH A sw 1 (ws.map ao)
 wl:∀x∈ws,x.length<=2^40
 n:Fr (A.length+1) (A++[gQ sw wr]++B) sn 1 (ns.map ao)
 v:Fr (A.length+1) (A++[gQ sw wr]++B) sv 1 (vs.map aK)
 dn:∀i,sB sn=some i->A.length+1<i/\i≠b8
 dv:∀i,sB sv=some i->A.length+1<i/\i≠b8
 dd:∀i,sB sn=some i->sB sv≠some i
section
variable {A B:ah}{kd:By}{b8:Nat}{kb:ak}{sw:AV}{wr:Bool}{ws:List (By)}{sn sv:AV}{ns:List (By)}{vs:List Int}
def vL{x}:(A++[x]).length=A.length+1:=Si
def uP.tk(o:uP A kd b8 kb sw wr ws sn sv ns vs B){sw' wr' ws'}(hs:aH A sw' 1 (ws'.map ao))(hw:∀x∈ws',x.length<=2^40):uP A kd b8 kb sw' wr' ws' sn sv ns vs B:=
 ⟨by rw[qy (K':=gQ sw wr) Om];exact o.m7,by rw[qy (K':=gQ sw wr) (by have:=o.l8;omega)];exact o.m8,o.l8,hs,hw,o.n.swap' vL vL,o.v.swap' vL vL,o.dn,o.dv,o.dd⟩
theorem uP.app(o:uP A kd b8 kb sw wr ws sn sv ns vs B)(g:ah):uP A kd b8 kb sw wr ws sn sv ns vs (B++g):=by
 have e:A++[gQ sw wr]++(B++g)=A++[gQ sw wr]++B++g:=(YR _ _ _).symm;exact⟨by rw[e];exact(Ext.app g (Ext.refl _)).some o.m7,by rw[e];exact(Ext.app g (Ext.refl _)).some o.m8,o.l8,o.s,o.wl,by rw[e];exact o.n.app g,by rw[e];exact o.v.app g,o.dn,o.dv,o.dd⟩
def nT{K X g}:(A++[K]++g).set (A.length+1) X=A++[K]++g.set 0 X:=by
 rw[ZV _ _ Si];simp
def uP.Oi(o:uP A kd b8 kb sw wr ws sn sv ns vs B){V3 ns' g}(hF:Fr (A.length+1) (A++[gQ sw wr]++g) V3 1 (ns'.map ao))(hlo:∀i,sB V3=some i->(A++[gQ sw wr]++B).length<i)
  (hle:(A++[gQ sw wr]++B).length<=(A++[gQ sw wr]++g).length) (hk:∀i,i<(A++[gQ sw wr]++B).length->sB sn≠some i->(A++[gQ sw wr]++g)[i]? =(A++[gQ sw wr]++B)[i]?):
  uP A kd b8 kb sw wr ws V3 sv ns' vs (g.set 0 (CA kd V3 sv)):=by
 have l7:=(YQ.1 o.m7).1;have l8:=(YQ.1 o.m8).1;have h8:=o.l8;have ne:∀i,i≠A.length+1->((A++[gQ sw wr]++g).set (A.length+1) (CA kd V3 sv))[i]? =(A++[gQ sw wr]++g)[i]? :=λi hi=>Zc (λe=>hi e.symm)
 refine⟨?_,?_,h8,o.s,o.wl,?_,?_,λi hi=>?_,o.dv,λi hi e=>?_⟩
 ·rw[<-nT,Zd Om]
 ·rw[<-nT,ne _ Om,hk _ l8 (λe=>(o.dn _ e).2 rfl)];exact o.m8
 ·exact z167
 ·rw[<-nT];exact o.v.aD λj hj=>by rw[ne j (by have:=(o.dv j hj).1;omega),hk j (o.v.bN hj).2 (λe=>o.dd j e hj)]
 ·have:=hlo i hi;exact⟨Om,Om⟩
 ·have h1:=hlo i hi;have h2:=(o.v.bN e).2;omega
def uP.Oh(o:uP A kd b8 kb sw wr ws sn sv ns vs B){VY vs' g}(hF:Fr (A.length+1) (A++[gQ sw wr]++g) VY 1 (vs'.map aK))(hlo:∀i,sB VY=some i->(A++[gQ sw wr]++B).length<i)
  (hle:(A++[gQ sw wr]++B).length<=(A++[gQ sw wr]++g).length) (hk:∀i,i<(A++[gQ sw wr]++B).length->sB sv≠some i->(A++[gQ sw wr]++g)[i]? =(A++[gQ sw wr]++B)[i]?):
  uP A kd b8 kb sw wr ws sn VY ns vs' (g.set 0 (CA kd sn VY)):=by
 have l7:=(YQ.1 o.m7).1;have l8:=(YQ.1 o.m8).1;have h8:=o.l8;have ne:∀i,i≠A.length+1->((A++[gQ sw wr]++g).set (A.length+1) (CA kd sn VY))[i]? =(A++[gQ sw wr]++g)[i]? :=λi hi=>Zc (λe=>hi e.symm)
 refine⟨?_,?_,h8,o.s,o.wl,?_,?_,o.dn,λi hi=>?_,λi hi e=>?_⟩
 ·rw[<-nT,Zd Om]
 ·rw[<-nT,ne _ Om,hk _ l8 (λe=>(o.dv _ e).2 rfl)];exact o.m8
 ·rw[<-nT];exact o.n.aD λj hj=>by rw[ne j (by have:=(o.dn j hj).1;omega),hk j (o.n.bN hj).2 (λe=>o.dd j hj e)]
 ·exact z167
 ·have:=hlo i hi;exact⟨Om,Om⟩
 ·have h1:=hlo i e;have h2:=(o.n.bN hi).2;omega
end
def qI{ws wr}:∀x∈(bR ws wr).2.1,x∈ws:=by
 intro x hx;cases ws with
 |nil=>simp[bR]at hx
 |cons w r=>
  by_cases hw:w=[]
  ·rw[bR,Zb hw]at hx;simp at hx
  ·rw[bR,Y6 hw]at hx;exact ZG _ hx
def MZ(h:ah)(ws:List (By))(v:AV)(k:ah):Prop:=Ext h k/\∃x:EV,x.ev=(eA ws).1/\v=.dM [.agg x.row,.bool (eA ws).2]/\Fr h.length k x.sn 1 (x.ev.names.map ao)/\Fr h.length k x.sv 1 (x.ev.cB.map aK)
def vk{h k}(e:Ext (h++[ak.cells [.int .i64 0,.str [],.af,.af,.str []] true false]) k):k[h.length]? =some (.cells [.int .i64 0,.str [],.af,.af,.str []] true false):=e.some (by rw[Y7 (Y9 _)];simp)
def K6{h k}(e:Ext (h++[ak.cells [.int .i64 0,.str [],.af,.af,.str []] true false]) k):aW 5 (.ptr h.length 0) (.agg [.int .i64 0,.str [],.af,.af,.str []]) (λz=>k[z]?)=some (az,.set h.length (.cells [.int .i64 0,.str [],.af,.af,.str []] true false)):=by rw[aL (vk e)];rfl
def K8{h k}(e:Ext (h++[ak.cells [.int .i64 0,.str [],.af,.af,.str []] true false]) k):aq (some 5) (.ptr h.length 0) (λz=>k[z]?)=some (.agg [.int .i64 0,.str [],.af,.af,.str []],.au):=by rw[aA (vk e)];rfl
def K7{h k}(e:Ext (h++[ak.cells [.int .i64 0,.str [],.af,.af,.str []] true false]) k):k.set h.length (.cells [.int .i64 0,.str [],.af,.af,.str []] true false)=k:=by
 have:=vk e;exact Ky
def K5{h k x}(ox:bw k x)(e:Ext (h++[ak.cells [.int .i64 0,.str [],.af,.af,.str []] true false]) k):aW 5 (.ptr h.length 0) (.agg x.row) (λz=>k[z]?)=some (az,.set h.length (.cells x.row true false)):=by rw[aL (vk e)];exact ox.st
def K4{h k:ah}{x:EV}(e:Ext (h++[ak.cells [.int .i64 0,.str [],.af,.af,.str []] true false]) k):aq (some 5) (.ptr h.length 0) (λz=>(k.set h.length (.cells x.row true false))[z]?)=some (.agg x.row,.au):=by
 rw[aA (Zd (YQ.1 (vk e)).1)];rfl
theorem sM:∀{n}{ws}{wr},(da n ws wr).1.length=n
 | 0,_,_=>rfl
 |n+1,ws,wr=>by rw[da,YV,sM]
theorem vA:∀{n}{ws}{wr},(fx n ws wr).1.length=n
 | 0,_,_=>rfl
 |n+1,ws,wr=>by rw[fx,YV,vA]
def vq(ws:List (By)):(eA ws).1.names.length<=3/\(eA ws).1.cB.length<=3:=by
 unfold eA;cases gT (bR ws false).1 with
 |none=>exact⟨Zw _,Zw _⟩
 |some d=>
  have h3:(bK d).length<=3/\cC d<=3:=by cases d<;>decide
  exact⟨by show(da _ _ _).1.length<=3;rw[sM];exact h3.1,by show(fx _ _ _).1.length<=3;rw[vA];exact h3.2⟩
def wQ(k:Nat):ai:=(fn111).body.dr k
def BV(k:Nat):ai:=(wQ k).hd
def Oe:fn111=⟨73,1,[(2,some (some 5)),(3,none)],.seq (BV 0) (.seq (BV 1) (.seq (BV 2) (.seq (BV 3) (.seq (BV 4) (.seq (BV 5) (wQ 6))))))⟩:=rfl
def Od:wQ 6=.seq (BV 6) (wQ 7):=rfl
def Oc:wQ 7=.seq (BV 7) (wQ 8):=rfl
attribute [local irreducible] WQ
section
variable {P:Program}(T:fp P) {h A B:ah}{kd:By}{b8:Nat}{kb:ak}{sw:AV}{wr:Bool}{ws XX:List (By)}{sn sv:AV}{ns:List (By)}{vs:List Int}{ts:TS}
include T
theorem HB(hA:A=h++[.cells gB true false])(o:uP A kd b8 kb sw wr ws sn sv ns vs B)(hlen:ts.length=73)(t2:slot ts 2=.ptr h.length 0)(t4:slot ts 4=.ptr A.length 0)(t7:slot ts 7=.ptr (A.length+1) 0)
  (hw:eA XX=(⟨0,kd,ns,vs,[]⟩,!wr&&decide (ws.length=0))):WC P bL (wQ 8) [] ts (A++[gQ sw wr]++B) (FQ [(2,some (some 5)),(3,none)] (MZ h XX)):=by
 have hAl:A.length=h.length+1:=by rw[hA];simp
 obtain⟨Y,hY⟩:∃Y,Y=A++[gQ sw wr]++B:=⟨_,rfl⟩;have Uf:Y=h++([ak.cells gB true false]++[gQ sw wr]++B):=by rw[hY,hA];simp
 have m2:Y[h.length]? =some (.cells gB true false):=by rw[Uf,Y7 (Y9 _)];simp
 have m4:Y[A.length]? =some (.cells [sw,.bool wr] true false):=by rw[hY];exact IV
 have m7:Y[A.length+1]? =some (.cells [.int .i64 0,.str kd,sn,sv,.str []] true false):=by rw[hY];exact o.m7
 have ln:=o.n;have lv:=o.v;rw[<-hY]at ln lv ⊢;have x:∃x:EV,x=⟨⟨0,kd,ns,vs,[]⟩,sn,sv⟩:=⟨_,rfl⟩;obtain⟨x,hx⟩:=x;have hrow:x.row=[.int .i64 0,.str kd,sn,sv,.str []]:=by rw[hx];rfl
 have ox:Fr h.length (Y.set h.length (.cells x.row true false)) x.sn 1 (x.ev.names.map ao)/\Fr h.length (Y.set h.length (.cells x.row true false)) x.sv 1 (x.ev.cB.map aK):=by
  rw[hx];exact⟨(ln.aD λj hj=>Zc (by have:=(o.dn j hj).1;omega)).low Om,(lv.aD λj hj=>Zc (by have:=(o.dv j hj).1;omega)).low Om⟩
 have oy:bw Y x:=by rw[hx];exact⟨ln.ba,lv.ba⟩
 have l4:∀{n:Option Nat}{a:Nat},aq n (.ptr A.length a) (λz=>Y[z]?)=dE n a (.cells [sw,.bool wr] true false):=aA m4;have l7:aq (some 5) (.ptr (A.length+1) 0) (λz=>Y[z]?)=some (.agg x.row,.au):=by rw[aA m7,hrow];rfl
 have s2:aW 5 (.ptr h.length 0) (.agg x.row) (λz=>Y[z]?)=some (az,.set h.length (.cells x.row true false)):=by rw[aL m2];exact oy.st
 have l2:aq (some 5) (.ptr h.length 0) (λz=>(Y.set h.length (.cells x.row true false))[z]?)=some (.agg x.row,.au):=by rw[aA (Zd (YQ.1 m2).1)];rfl
 have hlw:=(o.s.aJ (row:=ao));have fin:∀b,b=(!wr&&decide (ws.length=0))->MZ h XX (.dM [.agg x.row,.bool b]) (Y.set h.length (.cells x.row true false)):=λb hb=>by
  refine⟨⟨([ak.cells gB true false]++[gQ sw wr]++B).set 0 (.cells x.row true false),by rw[Uf,ZV _ _ (Y9 _),Z2]⟩,x,by rw[hw,hx],by rw[hw,hb],ox⟩
 unfold wQ fn111;simp only[ai.j,ai.s,ai.r,ai.dr,ai.tl,ai.hd];cases wr with
 |true=>
  repeat (first|simp (config:={maxSteps:=1000000}) only[aQ,aT,bo,bp,reduceAdd,reduceMul,reduceLeDiff,reduceEqDiff,bz,hlen,Zf,Zi,t2,t4,t7,l4,l7,s2,Zg,Zq,qG,o6,o8,o7,qC,oT,uD,zl,uE,qD,mA,zm,uF,uG,qB,oX,uB,uA]|simp (config:={maxSteps:=1000000}) (disch:=first|(simp only[YP,YV,YX]<;>omega)|rfl|omega|fail) only[fc,aQ,aT,bo,bp,reduceAdd,reduceMul,reduceLeDiff,reduceEqDiff,bz,hlen,Zf,Zi,t2,t4,t7,l4,l7,s2,Zg,Zq,qG,o6,o8,o7,qC,oT,uD,zl,uE,qD,mA,zm,uF,uG,qB,oX,uB,uA])
  rw[Da];refine⟨?_,?_⟩
  ·exact Qy
  ·repeat (first|simp (config:={maxSteps:=1000000}) only[aQ,aT,bo,bp,reduceAdd,reduceMul,reduceLeDiff,reduceEqDiff,bz,hlen,Zf,Zi,t2,l2,oQ,oR,oS,aaz,Z5]|simp (config:={maxSteps:=1000000}) (disch:=first|(simp only[YP,YV,YX]<;>omega)|rfl|omega|fail) only[fc,aQ,aT,bo,bp,reduceAdd,reduceMul,reduceLeDiff,reduceEqDiff,bz,hlen,Zf,Zi,t2,l2,oQ,oR,oS,aaz,Z5])
   exact fin _ rfl
 |false=>
  repeat (first|simp (config:={maxSteps:=1000000}) only[aQ,aT,bo,bp,reduceAdd,reduceMul,reduceLeDiff,reduceEqDiff,bz,hlen,Zf,Zi,t2,t4,t7,l4,l7,s2,hlw,Zg,Zq,qG,o6,o8,o7,qC,oT,uD,zl,uE,qD,mA,zm,uF,uG,qB,oX,uB,uA]|simp (config:={maxSteps:=1000000}) (disch:=first|(simp only[YP,YV,YX]<;>omega)|rfl|omega|fail) only[fc,aQ,aT,bo,bp,reduceAdd,reduceMul,reduceLeDiff,reduceEqDiff,bz,hlen,Zf,Zi,t2,t4,t7,l4,l7,s2,hlw,Zg,Zq,qG,o6,o8,o7,qC,oT,uD,zl,uE,qD,mA,zm,uF,uG,qB,oX,uB,uA])
  rw[Da];refine⟨?_,?_⟩
  ·exact Qy
  ·repeat (first|simp (config:={maxSteps:=1000000}) only[aQ,aT,bo,bp,reduceAdd,reduceMul,reduceLeDiff,reduceEqDiff,bz,hlen,Zf,Zi,t2,l2,oQ,oR,oS,aaz,Z5]|simp (config:={maxSteps:=1000000}) (disch:=first|(simp only[YP,YV,YX]<;>omega)|rfl|omega|fail) only[fc,aQ,aT,bo,bp,reduceAdd,reduceMul,reduceLeDiff,reduceEqDiff,bz,hlen,Zf,Zi,t2,l2,oQ,oR,oS,aaz,Z5])
   refine fin _ ?_;cases ws<;>simp
   try omega
def Oa(Z:qn P){vN rs c2 c3 a4}(hA:A=h++[.cells gB true false])(hkb:kb=.cells [rs,.int .i64 (vN:Nat),c2,c3,a4] true false)(hvN:vN<=100)(o:uP A kd b8 kb sw wr ws sn sv ns [] B)(hlen:ts.length=73)(t2:slot ts 2=.ptr h.length 0)(t4:slot ts 4=.ptr A.length 0)(t6:slot ts 6=.func (.func 208) [.ptr A.length 0] [])(t7:slot ts 7=.ptr (A.length+1) 0)(t8:slot ts 8=.ptr b8 0)
  (hw:eA XX=(⟨0,kd,ns,(fx vN ws wr).1,[]⟩,!(fx vN ws wr).2.2&&decide ((fx vN ws wr).2.1.length=0))):WC P bL (wQ 7) [] ts (A++[gQ sw wr]++B) (FQ [(2,some (some 5)),(3,none)] (MZ h XX)):=by
 have m8:=o.m8;rw[hkb]at m8;have l8:∀{n:Option Nat}{a:Nat},aq n (.ptr b8 a) (λz=>(A++[gQ sw wr]++B)[z]?)=dE n a (.cells [rs,.int .i64 (vN:Nat),c2,c3,a4] true false):=aA m8;obtain⟨RR,SJ⟩:∃RR,RR=wQ 8:=⟨_,rfl⟩;rw[Oc,<-SJ];unfold BV wQ fn111;simp only[ai.j,ai.s,ai.r,ai.dr,ai.tl,ai.hd];refine Rs (A6 t2 t4 t6 t7 t8 @l8) ?_;refine WL.inv T.mix (λn ts' h'=>∃(k:Nat) (sw' VY:AV) (wr':Bool) (ws':List (By)) (vs':List Int) (B':ah),k<=vN/\n=vN-k/\h' =A++[gQ sw' wr']++B'/\uP A kd b8 kb sw' wr' ws' sn VY ns vs' B'/\vs'.length=k/\fx vN ws wr=(vs'++(fx (vN-k) ws' wr').1,(fx (vN-k) ws' wr').2)/\
   ts'.length=73/\slot ts' 2=.ptr h.length 0/\slot ts' 4=.ptr A.length 0/\slot ts' 6=.func (.func 208) [.ptr A.length 0] []/\slot ts' 7=.ptr (A.length+1) 0/\slot ts' 47=.int .i64 vN/\slot ts' 48=.int .i64 k) vN
  ⟨0,sw,sv,wr,ws,[],B,Om,rfl,rfl,o,rfl,rfl,(Sq t2),(Sq t2),(Sq t4),(Sq t6),(Sq t7),(Sq t2),gM⟩ ?_
 clear hlen t2 t4 t6 t7 t8 l8 m8 o;rintro _ ts' _ ⟨k,sw',VY,wr',ws',vs',B',hk,rfl,rfl,o,SB,Tx,hlen,u2,u4,u6,u7,u47,u48⟩;by_cases hlt:k<vN
 ·have e3:decide ((k:Int)<vN)=true:=YW Om;refine Rs (A7 @u2 @u4 @u6 @u7 @u47 @u48 e3) ?_;refine WF.gen T.c208 (O7 T Z o.s o.wl) ?_;rintro _ _ ⟨TW,g,rfl,rfl,Se⟩;obtain⟨SW,Vm⟩:∃SW,SW=((bR ws' wr').2.2 || !iY (bR ws' wr').1):=⟨_,rfl⟩;obtain⟨y,hy⟩:∃y,y=kZ (bR ws' wr').1:=⟨_,rfl⟩;rw[<-Vm,<-hy];have o2:=(o.tk (wr':=SW) Se (λx hx=>o.wl x (qI x hx))).app g;have bU:fx vN ws wr=((vs'++[y])++(fx (vN-(k+1)) (bR ws' wr').2.1 SW).1,(fx (vN-(k+1)) (bR ws' wr').2.1 SW).2):=by
   rw[Tx,show vN-k=(vN-(k+1))+1 by omega,fx,hy,Vm];simp
  have l7:∀{kk:ah}{n:Option Nat}{a:Nat},Ext (A++[gQ TW SW]++(B'++g)) kk->aq n (.ptr (A.length+1) a) (λz=>kk[z]?)=dE n a (.cells [.int .i64 0,.str kd,sn,VY,.str []] true false):=λe=>aA (e.some o2.m7)
  refine Rs (A7 @u2 @u4 @u6 @u7 @u47 @u48 @l7) ?_;refine WR.qm (B:=A++[gQ TW SW]) (cs:=vs'.map aK) (z:=aK y) (by rw[vL];exact o2.v) rfl ⟨_,rfl⟩ De (by simp;omega) ?_;rintro _ s' ⟨g2,rfl⟩ hF hlo hone hle hkp;rw[vL]at hF;have er:vs'.map aK++[aK y]=(vs'++[y]).map aK:=by rw[Y5];rfl
  rw[er]at hF;have q7:=(YQ.1 o2.m7).1;have m7':(A++[gQ TW SW]++g2)[A.length+1]? =some (.cells [.int .i64 0,.str kd,sn,VY,.str []] true false):=by
   rw[hkp _ q7 (λe=>by have:=(o2.dv _ e).1;omega)];exact o2.m7
  have s7:aW 1 (.ptr (A.length+1) 3) s' (λz=>(A++[gQ TW SW]++g2)[z]?)=some (az,.set (A.length+1) (.cells [.int .i64 0,.str kd,sn,s',.str []] true false)):=by
   rw[aL m7'];exact bX hone Si
  have o3:=o2.Oh hF hlo hle hkp;refine Rs (A8 @u2 @u4 @u6 @u7 @u47 @u48 @s7 (wrapN (show k+1<2^63 by omega))) ?_;exact⟨vN-(k+1),Om,k+1,TW,s',SW,_,vs'++[y],_,Om,rfl,nT,o3,by simp[SB],bU,rfl⟩
 ·have e3:decide ((k:Int)<vN)=false:=YS Om;have ek:k=vN:=Om
  subst ek;rw[Z2,fx,Zr]at Tx;rw[Tx]at hw;refine Rs (A7 @u2 @u4 @u6 @u7 @u47 @u48 e3) ?_;rw[SJ];exact HB T hA o (Sq @u2) (Sq @u2) (Sq @u4) (Sq @u7) hw
def Ob(Z:qn P){nN vN rs c2 c3 a4}(hA:A=h++[.cells gB true false])(hkb:kb=.cells [rs,.int .i64 (vN:Nat),c2,c3,a4] true false)(hnN:nN<=100)(hrs:∀G,jh .sl G rs=some nN)(hvN:vN<=100)(o:uP A kd b8 kb sw wr ws sn sv [] [] B)(hlen:ts.length=73)(t2:slot ts 2=.ptr h.length 0)(t4:slot ts 4=.ptr A.length 0)
  (t5:slot ts 5=.func (.func 207) [.ptr A.length 0] []) (t6:slot ts 6=.func (.func 208) [.ptr A.length 0] []) (t7:slot ts 7=.ptr (A.length+1) 0) (t8:slot ts 8=.ptr b8 0)
  (hw:eA XX=(⟨0,kd,(da nN ws wr).1,(fx vN (da nN ws wr).2.1 (da nN ws wr).2.2).1,[]⟩,!(fx vN (da nN ws wr).2.1 (da nN ws wr).2.2).2.2&&decide ((fx vN (da nN ws wr).2.1 (da nN ws wr).2.2).2.1.length=0))):WC P bL (wQ 6) [] ts (A++[gQ sw wr]++B) (FQ [(2,some (some 5)),(3,none)] (MZ h XX)):=by
 have m8:=o.m8;rw[hkb]at m8;have l8:∀{n:Option Nat}{a:Nat},aq n (.ptr b8 a) (λz=>(A++[gQ sw wr]++B)[z]?)=dE n a (.cells [rs,.int .i64 (vN:Nat),c2,c3,a4] true false):=aA m8;obtain⟨RR,SJ⟩:∃RR,RR=wQ 7:=⟨_,rfl⟩;rw[Od,<-SJ];unfold BV wQ fn111;simp only[ai.j,ai.s,ai.r,ai.dr,ai.tl,ai.hd];refine Rs (A8 t2 t4 t5 t6 t7 t8 @l8 @hrs) ?_;refine WL.inv T.mix (λn ts' h'=>∃(k:Nat) (sw' V3:AV) (wr':Bool) (ws' ns':List (By)) (B':ah),k<=nN/\n=nN-k/\h' =A++[gQ sw' wr']++B'/\uP A kd b8 kb sw' wr' ws' V3 sv ns' [] B'/\ns'.length=k/\da nN ws wr=(ns'++(da (nN-k) ws' wr').1,(da (nN-k) ws' wr').2)/\
   ts'.length=73/\slot ts' 2=.ptr h.length 0/\slot ts' 4=.ptr A.length 0/\slot ts' 5=.func (.func 207) [.ptr A.length 0] []/\slot ts' 6=.func (.func 208) [.ptr A.length 0] []/\slot ts' 7=.ptr (A.length+1) 0/\slot ts' 8=.ptr b8 0/\slot ts' 34=.int .i64 nN/\slot ts' 35=.int .i64 k) nN
  ⟨0,sw,sn,wr,ws,[],B,Om,rfl,rfl,o,rfl,rfl,(Sq t2),(Sq t2),(Sq t4),(Sq t5),(Sq t6),(Sq t7),(Sq t8),(Sq t2),gM⟩ ?_
 clear hlen t2 t4 t5 t6 t7 t8 l8 m8 o;rintro _ ts' _ ⟨k,sw',V3,wr',ws',ns',B',hk,rfl,rfl,o,SB,Tx,hlen,u2,u4,u5,u6,u7,u8,u34,u35⟩;by_cases hlt:k<nN
 ·have e3:decide ((k:Int)<nN)=true:=YW Om;refine Rs (A9 @u2 @u4 @u5 @u6 @u7 @u8 @u34 @u35 e3) ?_;refine WF.gen T.c207 (Ik T o.s) ?_;rintro _ _ ⟨TW,rfl,rfl,Se⟩;obtain⟨SW,Vm⟩:∃SW,SW=(bR ws' wr').2.2:=⟨_,rfl⟩;obtain⟨y,hy⟩:∃y,y=(bR ws' wr').1:=⟨_,rfl⟩;rw[<-Vm,<-hy];have o2:=o.tk (wr':=SW) Se (λx hx=>o.wl x (qI x hx));have bU:da nN ws wr=((ns'++[y])++(da (nN-(k+1)) (bR ws' wr').2.1 SW).1,(da (nN-(k+1)) (bR ws' wr').2.1 SW).2):=by
   rw[Tx,show nN-k=(nN-(k+1))+1 by omega,da,hy,Vm];simp
  have l7:∀{kk:ah}{n:Option Nat}{a:Nat},Ext (A++[gQ TW SW]++B') kk->aq n (.ptr (A.length+1) a) (λz=>kk[z]?)=dE n a (.cells [.int .i64 0,.str kd,V3,sv,.str []] true false):=λe=>aA (e.some o2.m7)
  refine Rs (A9 @u2 @u4 @u5 @u6 @u7 @u8 @u34 @u35 @l7) ?_;refine WR.qm (B:=A++[gQ TW SW]) (cs:=ns'.map ao) (z:=ao y) (by rw[vL];exact o2.n) rfl ⟨_,rfl⟩ De (by simp;omega) ?_;rintro _ s' ⟨g2,rfl⟩ hF hlo hone hle hkp;rw[vL]at hF;have er:ns'.map ao++[ao y]=(ns'++[y]).map ao:=by rw[Y5];rfl
  rw[er]at hF;have q7:=(YQ.1 o2.m7).1;have m7':(A++[gQ TW SW]++g2)[A.length+1]? =some (.cells [.int .i64 0,.str kd,V3,sv,.str []] true false):=by
   rw[hkp _ q7 (λe=>by have:=(o2.dn _ e).1;omega)];exact o2.m7
  have s7:aW 1 (.ptr (A.length+1) 2) s' (λz=>(A++[gQ TW SW]++g2)[z]?)=some (az,.set (A.length+1) (.cells [.int .i64 0,.str kd,s',sv,.str []] true false)):=by
   rw[aL m7'];exact bX hone Si
  have o3:=o2.Oi hF hlo hle hkp;refine Rs (lQ @u2 @u4 @u5 @u6 @u7 @u8 @u34 @u35 @s7 (wrapN (show k+1<2^63 by omega))) ?_;exact⟨nN-(k+1),Om,k+1,TW,s',SW,_,ns'++[y],_,Om,rfl,nT,o3,by simp[SB],bU,rfl⟩
 ·have e3:decide ((k:Int)<nN)=false:=YS Om;have ek:k=nN:=Om
  subst ek;rw[Z2,da,Zr]at Tx;rw[Tx]at hw;refine Rs (A9 @u2 @u4 @u5 @u6 @u7 @u8 @u34 @u35 e3) ?_;rw[SJ];exact Oa T Z hA hkb hvN o (Sq @u2) (Sq @u2) (Sq @u4) (Sq @u6) (Sq @u7) (Sq @u8) hw
def r111(Z:qn P){s ws}(hs:aH h s 1 (ws.map ao))(hwl:∀x∈ws,x.length<=2^40):ay P 111 [s] h (λv k=>∃x:EV,x.ev=(eA ws).1/\v=.dM [.agg x.row,.bool (eA ws).2]/\Fr h.length k x.sn 1 (x.ev.names.map ao)/\Fr h.length k x.sv 1 (x.ev.cB.map aK)):=by
 refine .of T.mix (abq T.c111 (Zz some Oe)) ?_;obtain⟨ts,RG⟩:∃ts,ts=aR 73 [s]:=⟨_,rfl⟩;have hlen:ts.length=73:=by rw[RG];rfl
 have t0:slot ts 0=s:=by rw[RG];rfl
 obtain⟨RR,SJ⟩:∃RR,RR=wQ 6:=⟨_,rfl⟩;show WC P bL _ [] (aR 73 [s]) h (FQ _ (MZ h ws));rw[<-RG,<-SJ];clear RG;have hso:=hs.one;unfold BV wQ fn111;simp only[ai.j,ai.s,ai.r,ai.dr,ai.tl,ai.hd];refine Rs (A2 t0 @hso) ?_;obtain⟨A,hA⟩:∃A,A=h++[ak.cells gB true false]:=⟨_,rfl⟩;have hAl:A.length=h.length+1:=by rw[hA];simp
 have gw:=Ik T (A:=A) (B:=[]) (wr:=false) (hs.ext (k:=A) ⟨_,hA⟩);rw[Zr,hA]at gw;refine WF.gen T.c207 gw ?_;rintro _ _ ⟨TW,rfl,rfl,Se⟩;rw[Zr];rw[<-hA]at Se;have hwl2:∀x∈(bR ws false).2.1,x.length<=2^40:=λx hx=>hwl x (qI x hx)
 have Tb:eA ws=match gT (bR ws false).1 with
  |none=>(lG,false)
  |some d=>(⟨0,bh d,(da (bK d).length (bR ws false).2.1 (bR ws false).2.2).1,(fx (cC d) (da (bK d).length (bR ws false).2.1 (bR ws false).2.2).2.1 (da (bK d).length (bR ws false).2.1 (bR ws false).2.2).2.2).1,[]⟩,!(fx (cC d) (da (bK d).length (bR ws false).2.1 (bR ws false).2.2).2.1 (da (bK d).length (bR ws false).2.1 (bR ws false).2.2).2.2).2.2&&decide ((fx (cC d) (da (bK d).length (bR ws false).2.1 (bR ws false).2.2).2.1 (da (bK d).length (bR ws false).2.1 (bR ws false).2.2).2.2).2.1.length=0)):=by
  unfold eA;cases gT (bR ws false).1<;>rfl
 generalize (bR ws false).1=kd at *;generalize (bR ws false).2.1=ws2 at *;generalize (bR ws false).2.2=SW at *;refine Rs t0 ?_;refine WF.res T.c90 (r90 T) ?_;rintro _ g2 ⟨vf,rfl,hk⟩;have lk:∀{z:AV},gX .s z true (.map (h++[ak.cells gB true false]++[gQ TW SW]++[CA kd .af .af]).length) (.str kd) (λb=>(h++[ak.cells gB true false]++[gQ TW SW]++[CA kd .af .af]++g2)[b]?)=lH z true ((gT kd).map vf):=hk.look;unfold CA at lk;cases hd:gT kd with
 |none=>
  rw[hd]at lk Tb;have Sl:∀{z:AV},_=some (AV.dM [z,.bool false],iT.au):=@lk;have z2:∀{k:ah},Ext (h++[ak.cells gB true false]) k->k[h.length]? =some (.cells gB true false):=λe=>e.some (by rw[Y7 (Y9 _)];simp)
  have s2:∀{k:ah},Ext (h++[ak.cells gB true false]) k->aW 5 (.ptr h.length 0) (.agg [.int .i64 0,.str [],.af,.af,.str []]) (λz=>k[z]?)=some (az,.set h.length (.cells gB true false)):=λe=>by rw[aL (z2 e)];rfl
  have l2:∀{k:ah},Ext (h++[ak.cells gB true false]) k->aq (some 5) (.ptr h.length 0) (λz=>k[z]?)=some (.agg gB,.au):=λe=>by rw[aA (z2 e)];rfl
  have sq:∀{k:ah},Ext (h++[ak.cells gB true false]) k->k.set h.length (.cells gB true false)=k:=λ{k} e=>by
   have:=z2 e;exact Ky
  refine Rs (A8 t0 @bS @Sl @iR @Zq @s2 @sq @l2) ?_;exact⟨Xx,⟨lG,.af,.af⟩,by rw[Tb],by rw[Tb];rfl,.nil,.nil⟩
 |some d=>
  rw[hd]at lk Tb;have Sl:∀{z:AV},_=some (AV.dM [vf d,.bool true],iT.au):=@lk;obtain⟨rs,a,hv,hr,ha,hab⟩:=(hk.k d).ex;rw[hv]at Sl;have hlr:=hr.aJ;have c1:=mg d;have c2:=lJ d;have c3:=hr.one;have h3:(bK d).length<=3/\cC d<=3:=by cases d<;>decide
  refine Rs (A8 t0 @bS @Sl @Zg @c1 @c2 @c3 @ha) ?_;rw[SJ];obtain⟨kb,hkb⟩:∃kb,kb=ak.cells [rs,.int .i64 (cC d:Nat),j7 d,pv d,a] true false:=⟨_,rfl⟩;obtain⟨b8,hb8⟩:∃b8,b8=(h++[ak.cells gB true false]++[gQ TW SW]++[ak.cells [.int .i64 0,.str kd,.af,.af,.str []] true false]++g2).length:=⟨_,rfl⟩;rw[<-hkb,<-hb8];have eh:h++[ak.cells gB true false]++[gQ TW SW]++[ak.cells [.int .i64 0,.str kd,.af,.af,.str []] true false]++g2++[kb]=A++[gQ TW SW]++([CA kd .af .af]++g2++[kb]):=by rw[hA];unfold CA;simp
  rw[eh];have o:uP A kd b8 kb TW SW ws2 .af .af [] [] ([CA kd .af .af]++g2++[kb]):=by
   refine⟨?_,?_,?_,Se,hwl2,.nil,.nil,λi hi=>(by cases hi),λi hi=>(by cases hi),λi hi=>(by cases hi)⟩
   ·rw[Y7 Si];simp
   ·rw[<-eh,hb8,Y7 (Y9 _),Z2];rfl
   ·rw[hb8,hAl];simp only[YP,Zp];omega
  refine Ob T Z (nN:=(bK d).length) (vN:=cC d) hA hkb Om hlr Om o (Sq t0) (Sq t0) ?_ ?_ ?_ ?_ (Sq t0) ?_
  all_goals first|(rw[Tb,bW hd];done)|skip
  ·refine Zs t0 ?_;rw[hA];rfl
  ·refine Zs t0 ?_;rw[hA];rfl
  ·refine Zs t0 ?_;rw[hA];rfl
  ·refine Zs t0 ?_;rw[hA];simp
end
def sQ{c s n}(hs:s.length<=n):∀x∈bJ c s,x.length<=n:=λx hx=>ZL (sS x hx) hs
theorem rJ{c}:∀{s},(ff c s).1.length<=s.length/\(ff c s).2.1.length<=s.length
 |[]=>⟨Y9 _,Y9 _⟩
 |x::r=>by
  have ih:=rJ (c:=c) (s:=r);rw[ff];split
  ·simp
  ·simp only[YV];omega
def F5{h G:ah}{X Y:ak}{j:Nat}(hj:j≠h.length):(h++([X]++G))[j]? =(h++([Y]++G))[j]? :=by
 rw[<-YR,<-YR];exact qy hj
section
variable {P:Program}(T:fp P) {h:ah}
include T
def r99(X:C9 P)(Z:qn P)(w:Pw h)(s:By)(hsl:s.length<=2^38)(n:Int):ay P 99 [.str s,.i n] h (λv k=>∃x:EV,x.ev=(fN s n).1/\v=.dM [.agg x.row,.i (fN s n).2]/\Fr h.length k x.sn 1 (x.ev.names.map ao)/\Fr h.length k x.sv 1 (x.ev.cB.map aK)):=by
 refine .eP 83 T.mix T.c99 ?_;intro ts hlen t0 t1;unfold fn99 gA;have w1:IntKind.i64.wrap ((s.length:Int)-7)=(s.length:Int)-7:=bu Om Om;have w2:IntKind.i64.wrap ((s.length:Int)-7-1)=(s.length:Int)-8:=by rw[bu Om Om];omega
 have s2:=@K6 h;have l2:=@K8 h;have sq:=@K7 h;have bad:∀{c:Int}{k:ah},fN s n=(lG,c)->Ext h k->(Ext h k/\∃x:EV,x.ev=(fN s n).1/\AV.dM [.agg [.i 0,.str [],.af,.af,.str []],.i c]=.dM [.agg x.row,.i (fN s n).2]/\Fr h.length k x.sn 1 (x.ev.names.map ao)/\Fr h.length k x.sv 1 (x.ev.cB.map aK)):=
  λhe e=>⟨e,⟨lG,.af,.af⟩,by rw[he],by rw[he];rfl,.nil,.nil⟩
 by_cases h8:s.length<8
 ·have d1:decide ((s.length:Int)-8<0)=true:=YW Om;refine Rs (A8 t0 t1 @w1 @w2 @d1 @s2 @l2 @sq) ?_;exact(bad (by rw[fN,Zb h8]) Xx).2
 have d1:decide ((s.length:Int)-8<0)=false:=YS Om;have ea:(s.length:Int)-8=((s.length-8:Nat):Int):=Om
 rw[ea]at w2 d1;have hlt:s.length-8<s.length:=Om
 have w3:IntKind.i64.wrap (((s.length-8:Nat):Int)+1)=((s.length-7:Nat):Int):=by rw[bu Om Om];omega
 have gd:s.getD (s.length-8) 0=s[s.length-8]:=by rw[ZH,YU hlt];rfl
 by_cases hh:s[s.length-8]=35
 case neg=>
  have d2:decide ((s[s.length-8].toNat:Int)≠35)=true:=YW λe=>hh (UInt8.toNat_inj.1 (by simpa using (by omega:s[s.length-8].toNat=35)))
  repeat (first|simp (config:={maxSteps:=1000000}) only[aQ,aT,bo,bp,reduceAdd,reduceMul,reduceLeDiff,reduceEqDiff,bz,hlen,Zf,Zi,t0,t1,w1,w2,d1,jQ hlt,d2,s2,l2,sq]|simp (config:={maxSteps:=1000000}) (disch:=first|(simp only[YP,YV,YX]<;>omega)|rfl|omega|fail) only[fc,aQ,aT,bo,bp,reduceAdd,reduceMul,reduceLeDiff,reduceEqDiff,bz,hlen,Zf,Zi,t0,t1,w1,w2,d1,jQ hlt,d2,s2,l2,sq])
  exact(bad (by rw[fN,Y6 h8,Zb (.inl (by rw[gd];exact hh))]) Xx).2
 have d2:decide ((s[s.length-8].toNat:Int)≠35)=false:=YS (by rw[hh];decide)
 repeat (first|simp (config:={maxSteps:=1000000}) only[aQ,aT,bo,bp,reduceAdd,reduceMul,reduceLeDiff,reduceEqDiff,bz,hlen,Zf,Zi,t0,t1,w1,w2,d1,jQ hlt,d2,w3,ku (show s.length-7<=s.length by omega)]|simp (config:={maxSteps:=1000000}) (disch:=first|(simp only[YP,YV,YX]<;>omega)|rfl|omega|fail) only[fc,aQ,aT,bo,bp,reduceAdd,reduceMul,reduceLeDiff,reduceEqDiff,bz,hlen,Zf,Zi,t0,t1,w1,w2,d1,jQ hlt,d2,w3,ku (show s.length-7<=s.length by omega)])
 refine WF.ce T.c189 (r189 T _ (by rw[aa7];omega)) λg1=>?_
 cases hd:rI (s.drop (s.length-7))with
 |false=>
  refine Rs (A7 t0 t1 @hd @Zq @s2 @l2 @sq) ?_;exact(bad (by rw[fN,Y6 h8,Zb (.inr (by rw[hd];simp))]) Xx).2
 |true=>
 repeat (first|simp (config:={maxSteps:=1000000}) only[aQ,aT,bo,bp,reduceAdd,reduceMul,reduceLeDiff,reduceEqDiff,bz,hlen,Zf,Zi,t0,t1,hd,Zg,qR (show s.length-8<=s.length by omega)]|simp (config:={maxSteps:=1000000}) (disch:=first|(simp only[YP,YV,YX]<;>omega)|rfl|omega|fail) only[fc,aQ,aT,bo,bp,reduceAdd,reduceMul,reduceLeDiff,reduceEqDiff,bz,hlen,Zf,Zi,t0,t1,hd,Zg,qR (show s.length-8<=s.length by omega)])
 have UW:∀{α:Type}{a b:α},(if s.getD (s.length-8) 0≠35\/¬rI (s.drop (s.length-7))=true then a else b)=b:=λ{_ _ _}=>Y6 (by rw[gd,hd];simp[hh])
 refine WF.ce T.c187 (r187 T Z _ (by rw[ZR];omega) (w.ext Xx)) λg2=>?_
 by_cases hc:nH (s.take (s.length-8))=s.drop (s.length-7)
 case neg=>
  have d3:decide (nH (s.take (s.length-8))≠s.drop (s.length-7))=true:=YW hc
  repeat (first|simp (config:={maxSteps:=1000000}) only[aQ,aT,bo,bp,reduceAdd,reduceMul,reduceLeDiff,reduceEqDiff,bz,hlen,Zf,Zi,t0,t1,w3,ku (show s.length-7<=s.length by omega),d3,s2,l2,sq]|simp (config:={maxSteps:=1000000}) (disch:=first|(simp only[YP,YV,YX]<;>omega)|rfl|omega|fail) only[fc,aQ,aT,bo,bp,reduceAdd,reduceMul,reduceLeDiff,reduceEqDiff,bz,hlen,Zf,Zi,t0,t1,w3,ku (show s.length-7<=s.length by omega),d3,s2,l2,sq])
  exact(bad (by rw[fN,Y6 h8,UW,Zb hc]) Xx).2
 have d3:decide (nH (s.take (s.length-8))≠s.drop (s.length-7))=false:=YS (λz=>z hc);have hes:fN s n=if !iY (ff 32 (s.take (s.length-8))).1 || !(eA (bJ 32 (ff 32 (s.take (s.length-8))).2.1)).2||decide (gV { (eA (bJ 32 (ff 32 (s.take (s.length-8))).2.1)).1 with num:=kZ (ff 32 (s.take (s.length-8))).1}≠0)then(lG,25)else({ (eA (bJ 32 (ff 32 (s.take (s.length-8))).2.1)).1 with num:=kZ (ff 32 (s.take (s.length-8))).1},bZ (decide (kZ (ff 32 (s.take (s.length-8))).1≠n)) 11):=(Y6 h8).trans (UW.trans (Y6 (λz=>z hc)))
 have htl:(s.take (s.length-8)).length<=2^38:=by rw[ZR];omega
 have hcl:=rJ (c:=32) (s:=s.take (s.length-8))
 repeat (first|simp (config:={maxSteps:=1000000}) only[aQ,aT,bo,bp,reduceAdd,reduceMul,reduceLeDiff,reduceEqDiff,bz,hlen,Zf,Zi,t0,t1,w3,ku (show s.length-7<=s.length by omega),d3,qR (show s.length-8<=s.length by omega)]|simp (config:={maxSteps:=1000000}) (disch:=first|(simp only[YP,YV,YX]<;>omega)|rfl|omega|fail) only[fc,aQ,aT,bo,bp,reduceAdd,reduceMul,reduceLeDiff,reduceEqDiff,bz,hlen,Zf,Zi,t0,t1,w3,ku (show s.length-7<=s.length by omega),d3,qR (show s.length-8<=s.length by omega)])
 refine WF.ce T.c98 (r98 T X _ 32 Om) λg3=>?_
 generalize hq1:(ff 32 (s.take (s.length-8))).1=a1 at hes hcl ⊢;generalize hq2:(ff 32 (s.take (s.length-8))).2.1=a2 at hes hcl ⊢;refine Rs (A2 t0 t1) ?_;refine WF.ce T.c190 (r190 T Z a1 Om) λg4=>?_
 refine Rs (A2 t0 t1) ?_;refine WF.res T.c64 (r64 T X a2 32 Om) ?_;intro v g5 hv;refine Rs (A2 t0 t1) ?_;have Tl:=vq (bJ 32 a2);refine WF.res T.c111 (r111 T Z hv (sQ Om)) ?_;rintro _ g6 ⟨x,hx,rfl,fn,fv⟩;have ox:bw _ x:=⟨fn.ba,fv.ba⟩;rw[<-hx]at hes Tl;generalize (eA (bJ 32 a2)).2=fm at hes ⊢;obtain⟨x',RN⟩:∃x':EV,x' =⟨{x.ev with num:=kZ a1},x.sn,x.sv⟩:=⟨_,rfl⟩;have Sx:x'.sn=x.sn:=by rw[RN]
 have hsv:x'.sv=x.sv:=by rw[RN]
 have T2:x'.ev.names=x.ev.names:=by rw[RN]
 have SB:x'.ev.cB=x.ev.cB:=by rw[RN]
 have hrow:x'.row=x.row.set 0 (.i (kZ a1)):=by rw[RN];rfl
 have hev:({x.ev with num:=kZ a1}:ed)=x'.ev:=by rw[RN]
 rw[hev]at hes;have SZ:fN s n=if !iY a1 || !fm||decide (gV x'.ev≠0)then(lG,25)else(x'.ev,bZ (decide (kZ a1≠n)) 11):=hes
 rw[<-Sx,<-T2]at fn;rw[<-hsv,<-SB]at fv;have Xn:bw _ x':=⟨fn.ba,fv.ba⟩;have st:∀{b':Nat}{a0 a1 a2 a3 a4:AV},km 5 0 (.agg x.row) b' (.b [a0,a1,a2,a3,a4])=some (az,.set b' (.b x.row)):=λ{_ _ _ _ _ _}=>ox.st
 have kU:∀{b':Nat},km 1 0 (.i (kZ a1)) b' (.b x.row)=some (az,.set b' (.b x'.row)):=λ{b'}=>by
  rw[hrow];exact bX rfl (by show 0+1<=5;omega)
 cases hdg:iY a1 with
 |false=>
  rw[hdg]at SZ;refine Rs (A9 t0 t1 @st @kU @cp @Zq @s2 @l2 @sq) ?_;exact GY
 |true=>
 cases fm with
 |false=>
  rw[hdg]at SZ;refine Rs (lQ t0 t1 @st @kU @cp @Zq @Zg @s2 @l2 @sq) ?_;exact GY
 |true=>
 rw[hdg]at SZ;refine Rs (A7 t0 t1 @st @kU @cp @Zq @Zg) ?_;refine WF.ce T.c67 (r67 T (Xn.ext Xx) ⟨by rw[T2];omega,by rw[SB];omega⟩) λg7=>?_
 by_cases Td:gV x'.ev=0
 case neg=>
  have d4:decide (gV x'.ev≠0)=true:=YW Td;rw[d4]at SZ;refine Rs (A6 t0 t1 @d4 @s2 @l2 @sq) ?_;exact GY
 have d4:decide (gV x'.ev≠0)=false:=YS (λz=>z Td);rw[d4]at SZ;have key:∀{k:ah}{W:ah},bw W x'->Ext (h++[ak.b [.i 0,.str [],.af,.af,.str []]]) W->Ext W k->aW 5 (.ptr h.length 0) (.agg x'.row) (λz=>k[z]?)=some (az,.set h.length (.b x'.row)):=λo e1 e2=>K5 (o.ext e2) (e1.trans e2)
 have sx:=λ{k:ah}=>@key k _ Xn Xx
 have ly:=@K4 h;refine Rs (A4 t0 t1 @d4 @cp) ?_;refine WF.ce T.c85 (r85 T _ _) λg8=>?_
 have fn3:=((fn.app [ak.b x'.row]).app g7).app g8;have fv3:=((fv.app [ak.b x'.row]).app g7).app g8;refine Rs (A4 t0 t1 @sx @ly) ?_;refine⟨Xx,x',by rw[SZ];rfl,by rw[SZ];rfl,(fn3.aD λj hj=>?_).low ?_,(fv3.aD λj hj=>?_).low ?_⟩
 ·simp only[YR];refine F5 λe=>?_
  have:=(fn3.bN hj).1;simp only[YP,Zp]at this;omega
 ·exact JH
 ·simp only[YR];refine F5 λe=>?_
  have:=(fv3.bN hj).1;simp only[YP,Zp]at this;omega
 ·exact JH
end
end Go.Abs
