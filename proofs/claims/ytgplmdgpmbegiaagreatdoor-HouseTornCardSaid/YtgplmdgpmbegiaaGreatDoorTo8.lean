/- A part of the proof that HouseTorn holds. No condition. -/
import Derived.Test.YtgplmdgpmbegiaaGreatDoorTo7
import Derived.Lib.Bytealg
import Derived.Test.YtgplmdgpmbegiaaGreatDoorTo6
import Derived.Lib.ItoaNum
import Derived.Lib.ItoaLen
import Derived.Lib.ItoaMem
import Derived.Lib.Join
import Derived.Test.YtgplmdgpmbegiaaGreatDoorTo0
set_option maxHeartbeats 4000000
set_option linter.all false
open Nat (reduceAdd reduceMul reduceLeDiff reduceEqDiff)
namespace Go.Abs
theorem rO:∀(l m:List cQ) (H:iZ) (i:Nat),fW H (l++m) i=if(fW H l i).2.2≠0 then fW H l i else fW (fW H l i).1 m (i+l.length)
 |[],m,H,i=>by simp[fW]
 |e::l,m,H,i=>by
  rw[abm,fW,fW];by_cases h:eM H e≠0
  ·simp only[aas h]
  ·simp only[aao h];rw[rO l m (iY H e) (i+1)];have:i+1+l.length=i+(e::l).length:=by simp only[aah];omega
   rw[this]
def A0{l:List cQ}{e:cQ}(h:(bF l).2.2=0)(hl:l.length<1000):bF (l++[e])=if eM (bF l).1 e≠0 then(iZ.zero,(l.length:Int)+1,eM (bF l).1 e)else(iY (bF l).1 e,0,0):=by
 have e1:bF l=fW iZ.zero l 0:=by rw[bF,aao Om]
 have e2:bF (l++[e])=fW iZ.zero (l++[e]) 0:=by rw[bF,aao (by simp;omega)]
 rw[e2,rO,<-e1,aao (λz=>z h),fW,aa4];rfl
def jc(R:fN):List cQ->List fN
 |[]=>[]
 |e::l=>oP R e (mO e)::jc (oP R e (mO e)) l
def HP(R:fN):List cQ->Prop
 |[]=>True
 |e::l=>(∃d,jf e d/\d≠.fg)/\jd R e (mO e)=0/\HP (oP R e (mO e)) l
theorem l9:∀(l:List cQ) (R:fN) (e:cQ),jc R (l++[e])=jc R l++[oP ((jc R l).getLastD R) e (mO e)]
 |[],R,e=>rfl
 |x::l,R,e=>by
  rw[abm,jc,jc,l9 l,List.getLastD_cons];rfl
theorem rY:∀(l:List cQ) (R:fN) (e:cQ),HP R (l++[e])↔HP R l/\(∃d,jf e d/\d≠.fg)/\jd ((jc R l).getLastD R) e (mO e)=0
 |[],R,e=>by simp[HP,jc]
 |x::l,R,e=>by
  rw[abm,HP,HP,rY l,jc,List.getLastD_cons];exact⟨λ⟨a,b,c,d,f⟩=>⟨⟨a,b,c⟩,d,f⟩,λ⟨⟨a,b,c⟩,d,f⟩=>⟨a,b,c,d,f⟩⟩
def kV{α:Type}(l:List α):l=[]\/∃m x,l=m++[x]:=by
 rcases List.eq_nil_or_concat l with h|⟨m,x,h⟩
 ·exact .inl h
 ·exact .inr ⟨m,x,by rw[h,List.concat_eq_append]⟩
structure Is(H:iZ):Prop where
 rg:H.cO=jc fN.zero H.fe
 ok:HP fN.zero H.fe
theorem Is.zero:Is iZ.zero:=⟨rfl,trivial⟩
def Is.add{H:iZ}{e:cQ}(c:Is H)(w:jU H)(h:eM H e=0):Is (iY H e):=by
 obtain⟨h1,h2⟩:=tg h;obtain⟨d,we⟩:=ko h1;obtain⟨h3,h4,h5⟩:=vG h2;unfold iY;split
 case isTrue hu=>
  rcases kV H.fe with hn|⟨m,x,hm⟩
  ·exact absurd hn (h4 hu)
  ·have e1:=c.rg;have e2:=c.ok;rw[hm,l9]at e1;rw[hm,rY]at e2;exact⟨by rw[e1,hm,List.dropLast_concat,List.dropLast_concat],by rw[hm,List.dropLast_concat];exact e2.1⟩
 case isFalse hu=>
  have Xy:H.now=(jc fN.zero H.fe).getLastD fN.zero:=by rw[iZ.now,c.rg]
  refine⟨?_,?_⟩
  ·show H.cO++_=jc fN.zero (H.fe++[e]);rw[l9,<-Xy,c.rg]
  ·show HP fN.zero (H.fe++[e]);rw[rY,<-Xy];exact⟨c.ok,⟨d,we,λz=>hu (by rw[we.mO,z])⟩,h5 hu⟩
theorem zO:∀(l:List cQ) (H:iZ) (i:Nat),Is H->jU H->(fW H l i).2.2=0->Is (fW H l i).1/\jU (fW H l i).1
 |[],H,_,c,w,_=>⟨c,w⟩
 |e::l,H,i,c,w,h=>by
  rw[fW]at h ⊢;by_cases hb:eM H e=0
  ·rw[aao (λz=>z hb)]at h ⊢;exact zO l _ _ (c.add w hb) (w.add hb) h
  ·rw[aas hb]at h;exact absurd h hb
def zP{l:List cQ}(h:(bF l).2.2=0):Is (bF l).1/\jU (bF l).1:=by
 unfold bF at h ⊢;split at h
 ·exact absurd h De
 case isFalse hl=>
 rw[aao hl];exact zO l _ _ .zero .zero h
def kf(l:List cQ)(n:Int):Bool:=decide ((l.length:Int)<=n)&&l.all λe=>decide (e.kind.length<=40)&&decide (e.names.length<=6)&&decide (e.bK.length<=8)&&decide (e.text.length<=200)&&e.names.all λx=>decide (x.length<=40)
def bh(c:UInt8):By->List (By)
 |[]=>[[]]
 |x::r=>
  if x=c then []::bh c r
  else match bh c r with
   |p::ps=>(x::p)::ps
   |[]=>[[x]]
def iD{c:UInt8}:∀{s:By},bh c s≠[]
 |[]=>by simp[bh]
 |x::r=>by
  unfold bh;split
  ·simp
  ·split<;>simp
theorem pT{c:UInt8}:∀{s:By},c∉s->bh c s=[s]
 |[],_=>rfl
 |x::r,h=>by
  unfold bh;rw[aao (λe=>h (by simp[e])),pT (λhr=>h (aaP _ hr))]
theorem nF{c:UInt8}{q:By}:∀{p:By},c∉p->bh c (p++c::q)=p::bh c q
 |[],_=>by simp[bh]
 |x::r,h=>by
  rw[abm,bh,aao (λe=>h (by simp[e])),nF (λhr=>h (aaP _ hr))]
theorem rJ{c:UInt8}:∀{s:By},(bh c s).length=s.count c+1
 |[]=>rfl
 |x::r=>by
  have ih:=rJ (c:=c) (s:=r);unfold bh;by_cases h:x=c
  ·subst h;rw[aas rfl,aah,ih,List.count_cons_self]
  ·rw[aao h,List.count_cons_of_ne h];cases hs:bh c r with
   |nil=>exact absurd hs iD
   |cons p ps=>rw[hs]at ih;simpa using ih
theorem tR{c:UInt8}:∀{s:By},∀p∈bh c s,p.length<=s.length
 |[]=>by simp[bh]
 |x::r=>by
  have ih:=tR (c:=c) (s:=r);intro p hp;unfold bh at hp;rw[aah];by_cases h:x=c
  ·rw[aas h]at hp;rcases aaN.1 hp with rfl|hp
   ·simp
   ·have:=ih p hp;omega
  ·rw[aao h]at hp;cases hs:bh c r with
   |nil=>exact absurd hs iD
   |cons q qs=>
    rw[hs]at hp ih;rcases aaN.1 hp with rfl|hp
    ·have:=ih q Si;rw[aah];omega
    ·have:=ih p (by simp[hp]);omega
def fy(c:UInt8):List (By)->By
 |[]=>[]
 |[p]=>p
 |p::ps=>p++c::fy c ps
def fL{c:UInt8}{p:By}{r:List (By)}(h:r≠[]):fy c (p::r)=p++c::fy c r:=by
 cases r with
 |nil=>exact absurd rfl h
 |cons=>rfl
theorem iT{c:UInt8}:∀{s:By},fy c (bh c s)=s
 |[]=>rfl
 |x::r=>by
  have ih:=iT (c:=c) (s:=r);unfold bh;by_cases h:x=c
  ·subst h;rw[aas rfl];cases hs:bh x r with
   |nil=>exact absurd hs iD
   |cons p ps=>rw[hs]at ih;rw[fy,ih]<;>simp
  ·rw[aao h];cases hs:bh c r with
   |nil=>exact absurd hs iD
   |cons p ps=>
    rw[hs]at ih;cases ps with
    |nil=>rw[fy]at ih ⊢;rw[ih]
    |cons q qs=>
     rw[fy]at ih ⊢<;>first|(rw[<-ih];rfl)|simp
theorem HY{c:UInt8}:∀{s:By},c∉s->Lib.indexByte s c= -1
 |[],_=>rfl
 |x::r,h=>by
  unfold Lib.indexByte;have h1:(x==c)=false:=by simp;exactλe=>h (by simp[e])
  rw[h1,HY (λhr=>h (aaP _ hr))];rfl
theorem DJ{c:UInt8}{q:By}:∀{p:By},c∉p->Lib.indexByte (p++c::q) c=p.length
 |[],_=>by simp[Lib.indexByte]
 |x::r,h=>by
  have ih:=DJ (q:=q) (λhr=>h (aaP _ hr):c∉r);rw[abm,Lib.indexByte];have h1:(x==c)=false:=by simp;exactλe=>h (by simp[e])
  rw[h1,ih];have h2:((r.length:Int) == -1)=false:=Si
  rw[h2];simp
def xD(c:UInt8)(s:By):(c∉s/\Lib.indexByte s c= -1)\/∃p q,c∉p/\s=p++c::q/\Lib.indexByte s c=p.length:=by
 by_cases h:c∈s
 ·right
  obtain⟨p,q,rfl,hp⟩:=List.eq_append_cons_of_mem h;exact⟨p,q,hp,rfl,DJ hp⟩
 ·exact .inl ⟨h,HY h⟩
def jT(s:By):Int:=s.foldl (λn c=>10*n+((c.toNat:Int)-48)) 0
def dA(s:By):Bool:=!decide (s.length=0)&&decide (s.length<=9) && !(decide (1<s.length)&&decide (s.head? =some 48))&&s.all du
def nU(s:By):Bool:=!decide (s=[])&&s.all du
def fQ(s:By):Int:=if dA s then jT s else 0
def Gj:Nat->Nat->By
 | 0,u=>[UInt8.ofNat (48+u)]
 |f+1,u=>
  match Nat.blt u 10 with
  |true=>[UInt8.ofNat (48+u)]
  |false=>Gj f (u / 10)++[UInt8.ofNat (48+u%10)]
theorem Ap:∀(f u:Nat),u<10^(f+1)->Gj f u=Lib.decDigits u
 | 0,u,h=>by rw[Lib.decDigits,dif_pos (by simpa using h)];rfl
 |f+1,u,h=>by
  unfold Gj;cases hb:Nat.blt u 10 with
  |true=>rw[Lib.decDigits,dif_pos (by rw[Nat.blt_eq]at hb;exact hb)]
  |false=>
   have hn:¬u<10:=λx=>by rw[<-Nat.blt_eq,hb]at x;cases x
   rw[Lib.decDigits,dif_neg hn,Ap f (u / 10) (by rw[Nat.pow_succ]at h;omega)]
def dS(n:Int):By:=Gj n.toNat n.toNat
def gD(n:Int):dS n=Lib.decDigits n.toNat:=Ap _ _ (Nat.lt_trans (Nat.lt_succ_self _) (Nat.lt_pow_self De))
def gg(s:By):Int:=s.foldl (λx c=>(339*x+(c.toNat:Int)).tmod 9999749) 1
def hP(s:By):By:=List.replicate (7-(dS (gg s)).length) 48++dS (gg s)
def td(e:cQ):List (By):=[dS e.num,e.kind]++e.names++e.bK.map dS
def cC(e:cQ):By:=fy 32 (td e)
def fB(e:cQ):By:=cC e++[35]++hP (cC e)++[10]
def aJ(l:List cQ):By:=(l.map fB).flatten
def bI:List (By)->Bool->By×List (By)×Bool
 |[],_=>([],[],true)
 |w::r,wr=>if w=[]then([],[],true)else(w,r,wr)
def cA:Nat->List (By)->Bool->List (By)×List (By)×Bool
 | 0,ws,b=>([],ws,b)
 |n+1,ws,b=>((bI ws b).1:: (cA n (bI ws b).2.1 (bI ws b).2.2).1,(cA n (bI ws b).2.1 (bI ws b).2.2).2)
def dh:Nat->List (By)->Bool->List Int×List (By)×Bool
 | 0,ws,b=>([],ws,b)
 |n+1,ws,b=>(fQ (bI ws b).1:: (dh n (bI ws b).2.1 ((bI ws b).2.2 || !dA (bI ws b).1)).1,(dh n (bI ws b).2.1 ((bI ws b).2.2 || !dA (bI ws b).1)).2)
def lJ:cQ:=⟨0,[],[],[],[]⟩
def de(ws:List (By)):cQ×Bool:=
 match fk (bI ws false).1 with
 |none=>(lJ,false)
 |some d=>
  let n:=cA (aM d).length (bI ws false).2.1 (bI ws false).2.2
  let v:=dh (bQ d) n.2.1 n.2.2
  (⟨0,bf d,n.1,v.1,[]⟩,!v.2.2&&decide (v.2.1.length=0))
def dw(c:UInt8):By->By×By×Bool
 |[]=>([],[],false)
 |x::r=>if x=c then([],r,true)else(x:: (dw c r).1,(dw c r).2)
def cV(s:By)(n:Int):cQ×Int:=
 if s.length<8 then(lJ,25)else
 if s.getD (s.length-8) 0≠35\/¬nU (s.drop (s.length-7))=true then(lJ,25)else
 if hP (s.take (s.length-8))≠s.drop (s.length-7)then(lJ,27)else
 let h:=dw 32 (s.take (s.length-8))
 let e:=de (bh 32 h.2.1)
 if !dA h.1 || !e.2||decide (eJ {e.1 with num:=fQ h.1}≠0)then(lJ,25)else
 ({e.1 with num:=fQ h.1},bX (decide (fQ h.1≠n)) 11)
def gk:Nat->By->List cQ->Nat->List cQ×Int×Int
 | 0,_,l,a=>(l,(a:Int),0)
 |f+1,s,l,a=>
  if s=[]then(l,(a:Int),0)else
  if !(dw 10 s).2.2 then(l,(a:Int),28)else
  let e:=cV (dw 10 s).1 ((l.length:Int)+1)
  if e.2≠0 then(l,(a:Int),e.2)else gk f (dw 10 s).2.1 (l++[e.1]) (a+(dw 10 s).1.length+1)
def cD(s:By):List cQ×Int×Int:=if 1000000<s.length then([],0,26)else gk (s.length+1) s [] 0
def jI(w:By):Option (Nat×Bool×Nat):=
 if w=[108,101,102,116]then some (0,true,4)else
 if w=[102,114,111,109]then some (1,true,5)else
 if w=[108,105,110,101,115]then some (2,true,3)else
 if w=[117,110,115,97,102,101]then some (3,false,2)else
 if w=[116,97,112,101,115]then some (4,true,2)else
 if w=[114,101,108,101,97,115,101,100]then some (5,false,5)else
 if w=[119,97,110,116]then some (6,true,0)else none
def tA(l:List qR):List (By):=(l.map λp=>if p.rel then [p.name,dS p.nT]else []).flatten
def lB(R:fN)(n:By):Nat->List (By)
 | 0=>(cY (gR R n).bu 0).map dS
 | 1=>tZ R n
 | 2=>(jn R n).map iO.name
 | 3=>kR R R.tick
 | 4=>(rK R n).aG
 | 5=>tA R.aP
 |_=>[dS (Bj R n).length,dS (dU R n).want,if(dU R n).acc then [97,99,99,101,112,116,101,100]else [111,112,101,110]]
def zj(l:List (By)):By:=if l=[]then [110,111,110,101]else fy 32 l
def nX(R:fN)(ws:List (By))(q:Nat×Bool×Nat):By×Int:=
 let n:=if q.2.1=true/\ws.length=2 then ws.getD 1 []else []
 if(q.2.1=true/\¬(ws.length=2/\n≠[]))\/(q.2.1=false/\ws.length≠1)then([],25)else
 if q.2.1=true/\ez R q.2.2 n=false then([],10)else(zj (lB R n q.1),0)
def sR(H:iZ)(s:By):iZ×By×Int:=
 if 4096<s.length then(H,[],26)else
 if s=[]then(H,[],25)else
 match jI ((bh 32 s).headD [])with
 |some q=>(H,nX H.now (bh 32 s) q)
 |none=>
  match fk ((bh 32 s).headD [])with
  |none=>(H,[],13)
  |some _=>
   if !(de (bh 32 s)).2 then(H,[],25)else
   if 1000<=H.cK.length then(H,[],5)else
   let e:={ (de (bh 32 s)).1 with num:=(H.cK.length:Int)+1}
   if eM H e≠0 then(H,[],eM H e)else(iY H e,[100,111,110,101,32]++dS e.num,0)
structure vW(P:Program):Prop where
 ib:∀(args:Array Value) (w:World),(callFunc 288 args).run P w=((Extern.BytealgIndexByte.indexByte args).run P w).andThen λv w'=>.ok (.value v) w'
 ct:∀(args:Array Value) (w:World),(callFunc 262 args).run P w=((Extern.BytealgCount.count args).run P w).andThen λv w'=>.ok (.value v) w'
def Co(c:UInt8):(c.toNat:Int).toNat.toUInt8=c:=Si
def kW{s}{n:Nat}{kk}(hn:n<=s.length):nG (.str s) none (some (.int kk (n:Int)))=some (.str (s.take n)):=by
 simp only[nG,ju hn,abH,Nat.sub_zero]
def jH{s}{n:Nat}{kk}(hn:n<=s.length):nG (.str s) (some (.int kk (n:Int))) none=some (.str (s.drop n)):=by
 simp only[nG,lA hn];rw[aaV Si]
def uP{p r kk}:nG (.str (p++r)) none (some (.int kk (p.length:Int)))=some (.str p):=by
 rw[kW Si];simp
def mI{p r c kk}:nG (.str (p++c::r)) (some (.int kk ((p.length+1:Nat):Int))) none=some (.str r):=by
 rw[jH Si];simp
def zJ{α:Type}{don:List α}{z q:α}{m k:Nat}(hk:don.length=k)(hm:0<m):(don++List.replicate m z).set k q=(don++[q])++List.replicate (m-1) z:=by
 subst hk;obtain⟨n,rfl⟩:∃n,m=n+1:=⟨m-1,Om⟩;rw[abW,aa9 _ _ (aar _),abi];simp
section
variable {P:Program}(X:vW P) {h:ah}
include X
def Pj(s:By)(c:UInt8):bH P (.func (.func 288) [] []) [.str s,.int .u8 c.toNat] h (λv h'=>v=.int .i64 (Lib.indexByte s c)/\h' =h):=by
 refine⟨_,[],?_,rfl,Si⟩;rw[aaF];intro m w cv vs hr hf hargs;rw[VR]at hf;obtain⟨f',a',c',rfl,hfn,ha,hc⟩:=hf;simp only[B3]at hfn;subst hfn;rw[bE]at ha hc;subst ha;subst hc;obtain⟨v1,vs1,rfl,h1,hargs⟩:=aQ.1 hargs;obtain⟨v2,vs2,rfl,h2,hargs⟩:=aQ.1 hargs;rw[bE]at hargs;subst hargs;have h1:v1=.string ⟨⟨s⟩⟩:=h1;have h2:v2=.int .u8 (c.toNat:Int):=h2;subst h1;subst h2;refine⟨_,λw=>rfl,?_⟩;simp only[invoke];rw[X.ib];have e:=Lib.run_indexByteString (P:=P) ⟨⟨s⟩⟩ (c.toNat:Int) w;rw[Co]at e;have e':(Extern.BytealgIndexByte.indexByte (#[]++#[.string ⟨⟨s⟩⟩,.int .u8 (c.toNat:Int)]++#[])).run P w=.ok (.int .i64 (Lib.indexByte s c)) w:=by simpa using e
 exact z53
def Pk(s:By)(c:UInt8):bH P (.func (.func 262) [] []) [.str s,.int .u8 c.toNat] h (λv h'=>v=.int .i64 (s.count c:Nat)/\h' =h):=by
 refine⟨_,[],?_,rfl,Si⟩;rw[aaF];intro m w cv vs hr hf hargs;rw[VR]at hf;obtain⟨f',a',c',rfl,hfn,ha,hc⟩:=hf;simp only[B3]at hfn;subst hfn;rw[bE]at ha hc;subst ha;subst hc;obtain⟨v1,vs1,rfl,h1,hargs⟩:=aQ.1 hargs;obtain⟨v2,vs2,rfl,h2,hargs⟩:=aQ.1 hargs;rw[bE]at hargs;subst hargs;have h1:v1=.string ⟨⟨s⟩⟩:=h1;have h2:v2=.int .u8 (c.toNat:Int):=h2;subst h1;subst h2;refine⟨_,λw=>rfl,?_⟩;simp only[invoke];rw[X.ct];have e:=Lib.run_countString (P:=P) ⟨⟨s⟩⟩ (c.toNat:Int) w;rw[Co]at e;have e':(Extern.BytealgCount.count (#[]++#[.string ⟨⟨s⟩⟩,.int .u8 (c.toNat:Int)]++#[])).run P w=.ok (.int .i64 (s.count c:Nat)) w:=by simpa [Lib.countByte]using e
 exact z53
end
attribute [local irreducible] WP WC WE WB WR WF WL WG eZ
section
variable {P:Program}(T:eD P) (X:vW P) {h:ah}
include T X
def r272(s:By)(c:UInt8):ay P 272 [.str s,.int .u8 c.toNat] h (λv _=>v=.int .i64 (Lib.indexByte s c)):=by
 refine .of T.mix T.c272 ?_;unfold fn272 Ml;refine Wn ?_;refine WF.val (Pj X s c) ?_;rintro _ g ⟨rfl,hg⟩;exact Wn Tv
def r221(s:By)(c:UInt8):ay P 221 [.str s,.str [c]] h (λv _=>v=.int .i64 (s.count c:Nat)):=by
 refine .of T.mix T.c221 ?_;unfold fn221 gA;simp only[aU,aX,bz,bA,reduceAdd,reduceMul,reduceLeDiff,reduceEqDiff,aav,show decide (((1:Nat):Int)=0)=false from rfl,show decide (((1:Nat):Int)=1)=true from rfl,xB];refine WF.val (Pk X s c) ?_;rintro _ g ⟨rfl,hg⟩;exact Wn Tv
def r253(s:By)(c:UInt8):ay P 253 [.str s,.str [c]] h (λv _=>v=.int .i64 (Lib.indexByte s c)):=by
 refine .of T.mix T.c253 ?_;unfold fn253 gA;by_cases hs:[c]=s
 ·have d1:decide ([c]=s)=true:=aaj hs;have e:Lib.indexByte s c=0:=by rw[<-hs];simp[Lib.indexByte]
  simp only[aU,aX,bz,bA,reduceAdd,reduceMul,reduceLeDiff,reduceEqDiff,aav,show decide (((1:Nat):Int)=0)=false from rfl,d1,e]
 ·have d1:decide ([c]=s)=false:=aaf hs;simp only[aU,aX,bz,bA,reduceAdd,reduceMul,reduceLeDiff,reduceEqDiff,aav,show decide (((1:Nat):Int)=0)=false from rfl,show decide (((1:Nat):Int)=1)=true from rfl,d1,xB];refine WF.ce T.c272 (r272 T X s c) λg=>?_
  exact Wn Tv
def r222(s:By)(c:UInt8):ay P 222 [.str s,.str [c]] h (λv _=>v=.int .i64 (Lib.indexByte s c)):=by
 refine .of T.mix T.c222 ?_;unfold fn222 gA;refine Wn ?_;refine WF.ce T.c253 (r253 T X s c) λg=>?_
 exact Wn Tv
set_option maxRecDepth 10000 in
def r128(s:By)(c:UInt8)(hs:s.length<=2^40):ay P 128 [.str s,.str [c],.int .i64 0,.int .i64 (-1)] h (λv h'=>aI h' v 1 ((bh c s).map aq)):=by
 refine .of T.mix T.c128 ?_;obtain⟨ts,Tp⟩:∃ts,ts=aR 66 [.str s,.str [c],.int .i64 0,.int .i64 (-1)]:=⟨_,rfl⟩;have hlen:ts.length=66:=by rw[Tp];rfl
 have t0:slot ts 0=.str s:=by rw[Tp];rfl
 have t1:slot ts 1=.str [c]:=by rw[Tp];rfl
 have t2:slot ts 2=.int .i64 0:=by rw[Tp];rfl
 have t3:slot ts 3=.int .i64 (-1):=by rw[Tp];rfl
 unfold fn128 gA;show WC P bP _ [] (aR 66 [.str s,.str [c],.int .i64 0,.int .i64 (-1)]) h _;rw[<-Tp];clear Tp;have hcnt:s.count c<=s.length:=List.count_le_length;have w1:IntKind.i64.wrap ((s.count c:Int)+1)=((s.count c+1:Nat):Int):=by rw[aY Om Om];omega
 have w2:IntKind.i64.wrap ((s.length:Int)+1)=((s.length+1:Nat):Int):=by rw[aY Om Om];omega
 have e1:min ((s.count c+1:Nat):Int) ((s.length+1:Nat):Int)=((s.count c+1:Nat):Int):=Om
 have w3:IntKind.i64.wrap (((s.count c+1:Nat):Int)-1)=((s.count c:Nat):Int):=by rw[aY Om Om];omega
 have dn:decide ([c]=([] :By))=false:=aaf Si;have d1:decide ((-1:Int)=0)=false:=rfl;have d2:decide (-1<(0:Int))=true:=rfl;refine Rs (A7 t0 t1 t2 t3 @dn @d1 @d2) ?_;refine WF.ce T.c221 (r221 T X s c) λg1=>?_
 repeat (first|simp (config:={maxSteps:=1000000}) only[aU,aX,bz,bA,reduceAdd,reduceMul,reduceLeDiff,reduceEqDiff,bC,hlen,aay,aaB,t0,t1,t2,t3,w1,w2,e1,w3,oX (es:=1) (w:=16) (N0:=(h++g1).length) (n:=s.count c+1) (z:=[AV.str []]) (k:=.i64) (k':=.i64) Om Om]|simp (config:={maxSteps:=1000000}) (disch:=first|(simp only[aac,aah,aal]<;>omega)|rfl|omega|fail) only[gp,aU,aX,bz,bA,reduceAdd,reduceMul,reduceLeDiff,reduceEqDiff,bC,hlen,aay,aaB,t0,t1,t2,t3,w1,w2,e1,w3,oX (es:=1) (w:=16) (N0:=(h++g1).length) (n:=s.count c+1) (z:=[AV.str []]) (k:=.i64) (k':=.i64) Om Om])
 have hF:=Fr.Ch (N:=h.length) (n:=s.count c+1) (h:=h++g1) (z:=[AV.str []]) (es:=1) Si rfl;obtain⟨sv,hsv⟩:∃sv,sv=AV.slice (h++g1).length 0 (s.count c+1) 1:=⟨_,rfl⟩;rw[<-hsv]at hF ⊢;have er:List.replicate (s.count c+1) [AV.str []]=(List.replicate (s.count c+1) ([] :By)).map aq:=by simp[aq]
 rw[er,aae]at hF;rw[aae];refine WL.inv T.mix (λn ts' h'=>∃(k:Nat) (don:List (By)) (q:By) (g':ah),don.length=k/\bh c s=don++bh c q/\k+q.count c=s.count c/\n=s.count c-k/\h' =h++g'/\Fr h.length h' sv 1 ((don++List.replicate (s.count c+1-k) ([] :By)).map aq)/\ts'.length=66/\slot ts' 0=.str q/\slot ts' 1=.str [c]/\slot ts' 2=.int .i64 0/\slot ts' 3=.int .i64 ((s.count c:Nat):Int)/\slot ts' 9=sv/\slot ts' 10=.int .i64 k) (s.count c)
  ⟨0,[],s,_,rfl,rfl,Om,rfl,rfl,hF,(Sq t0),(Sq t0),(Sq t1),(Sq t2),(Sq t0),(Sq t0),gX⟩ ?_
 rintro _ ts' _ ⟨k,don,q,g',hdl,hsp,hkc,rfl,rfl,hF',UH,u0,u1,u2,u3,u9,Zw⟩;clear hlen t0 t1 t2 t3;have hlen:=UH;have Ye:k<(don++List.replicate (s.count c+1-k) ([] :By)).length:=by simp;omega
 have hql:q.length<=s.length:=by
  have e1:=iT (c:=c) (s:=s);have:∀(d:List (By)) (z:List (By)),(fy c z).length<=(fy c (d++z)).length:=by
   intro d
   induction d with
   |nil=>intro z;exact aar _
   |cons x d ih=>
    intro z;by_cases hz:d++z=[]
    ·have:z=[]:=by simp at hz;exact hz.2
     subst this;simp[fy]
    ·rw[abm,fL hz];have:=ih z;simp;omega
  have:=this don (bh c q);rw[<-hsp,iT,iT]at this;exact this
 rcases xD c q with⟨hno,hix⟩|⟨p,q',hp,hq,hix⟩
 ·have hc0:q.count c=0:=List.count_eq_zero.2 hno;have e3:¬(k:Int)<((s.count c:Nat):Int):=Om
  have ek:s.count c+1-k=1:=Om
  have ixk:=hF'.aT.dK (kk:=.i64) Ye;have w4:IntKind.i64.wrap ((k:Int)+1)=((k+1:Nat):Int):=by rw[aY Om Om];omega
  refine Rs (A9 @u0 @u1 @u2 @u3 @u9 @Zw e3 @aaJ @ixk) ?_;refine WR.wK (h0:=h) (off:=0) (x':=q) hF' Ye De rfl (by simp[aq]) ?_;intro g3 Z6 Zk _;rw[zJ hdl Om,ek]at Zk;simp only[abi,acR,aaF]at Zk;have esp:don++[q]=bh c s:=by rw[hsp,pT hno]
  rw[esp]at Zk;have U9:jv none (some (AV.int .i64 ((k+1:Nat):Int))) (bh c s).length=some (0,k+1):=ju (by rw[<-esp];simp;omega);obtain⟨s',es',Tq⟩:=Zk.aT.EG U9;refine Rs (A8 @u0 @u1 @u2 @u3 @u9 @Zw @w4 @es') ?_;have et:List.take (k+1-0) (List.drop 0 (bh c s))=bh c s:=by
   rw[abH,aaV (by rw[<-esp];simp;omega)]
  rw[et]at Tq;exact Tq
 ·have hcq:q.count c=q'.count c+1:=by rw[hq,List.count_append,List.count_eq_zero.2 hp,List.count_cons_self];omega
  have e3:(k:Int)<((s.count c:Nat):Int):=Om
  refine Rs (A8 @u0 @u1 @u2 @u3 @u9 @Zw e3 @aaE) ?_;refine WF.ce T.c222 (r222 T X q c) λg2=>?_
  have ixk:=(hF'.app g2).aT.dK (kk:=.i64) Ye;have w4:IntKind.i64.wrap ((k:Int)+1)=((k+1:Nat):Int):=by rw[aY Om Om];omega
  have VD:p.length<q.length:=by rw[hq];simp
  have w5:IntKind.i64.wrap ((p.length:Int)+0)=(p.length:Int):=by rw[aY Om Om];omega
  have w6:IntKind.i64.wrap ((p.length:Int)+((1:Nat):Int))=((p.length+1:Nat):Int):=by rw[aY Om Om];omega
  have dp:decide ((p.length:Int)<0)=false:=aaf Om;have hF2:=hF'.app g2;rw[aae]at hF2 ⊢;rw[hix];subst hq
  repeat (first|simp (config:={maxSteps:=1000000}) only[aU,aX,bz,bA,reduceAdd,reduceMul,reduceLeDiff,reduceEqDiff,bC,hlen,aay,aaB,u0,u1,u2,u3,u9,Zw,dp,w5,ixk,uP,aav,w6,mI]|simp (config:={maxSteps:=1000000}) (disch:=first|(simp only[aac,aah,aal]<;>omega)|rfl|omega|fail) only[gp,aU,aX,bz,bA,reduceAdd,reduceMul,reduceLeDiff,reduceEqDiff,bC,hlen,aay,aaB,u0,u1,u2,u3,u9,Zw,dp,w5,ixk,uP,aav,w6,mI])
  refine WR.wK (h0:=h) (off:=0) (x':=p) hF2 Ye De rfl (by simp[aq]) ?_;intro g3 Z6 Zk _;rw[zJ hdl Om]at Zk
  repeat (first|simp (config:={maxSteps:=1000000}) only[aU,aX,bz,bA,reduceAdd,reduceMul,reduceLeDiff,reduceEqDiff,bC,hlen,aay,aaB,u0,u1,u2,u3,u9,Zw,aav,w6,mI,w4]|simp (config:={maxSteps:=1000000}) (disch:=first|(simp only[aac,aah,aal]<;>omega)|rfl|omega|fail) only[gp,aU,aX,bz,bA,reduceAdd,reduceMul,reduceLeDiff,reduceEqDiff,bC,hlen,aay,aaB,u0,u1,u2,u3,u9,Zw,aav,w6,mI,w4])
  have em:s.count c+1-k-1=s.count c+1-(k+1):=Om
  rw[em]at Zk;exact⟨s.count c-(k+1),Om,k+1,don++[p],q',g3,by simp[hdl],by rw[hsp,nF hp];simp,Om,rfl,rfl,Zk,rfl,rfl⟩
def r64(s:By)(c:UInt8)(hs:s.length<=2^40):ay P 64 [.str s,.str [c]] h (λv h'=>aI h' v 1 ((bh c s).map aq)):=by
 refine .of T.mix T.c64 ?_;unfold fn64 gA;refine Wn ?_;refine WF.res T.c128 (r128 T X s c hs) ?_;intro v g hv;refine Wn ?_;exact hv
omit T X in
theorem At{c}:∀{s},c∉s->dw c s=(s,[],false)
 |[],_=>rfl
 |x::r,h=>by
  simp only[aaN,not_or]at h;rw[dw,aao (λe=>h.1 e.symm),At h.2]
omit T X in
theorem x9{c}:∀{p q},c∉p->dw c (p++c::q)=(p,q,true)
 |[],q,_=>by rw[abF,dw,aas rfl]
 |x::r,q,h=>by
  simp only[aaN,not_or]at h;rw[abm,dw,aao (λe=>h.1 e.symm),x9 h.2]
def r188(s:By)(c:UInt8)(hs:s.length<=2^40):ay P 188 [.str s,.str [c]] h (λv _=>v=.dQ [.str (dw c s).1,.str (dw c s).2.1,.bool (dw c s).2.2]):=by
 refine .of T.mix T.c188 ?_;unfold fn188 gA;refine Wn ?_;refine WF.ce T.c253 (r253 T X s c) λg=>?_
 rcases xD c s with⟨hno,hix⟩|⟨p,q,hp,hq,hix⟩
 ·refine Ws (A2 @hix (show decide ((0:Int)<=-1)=false from rfl)) ?_;rw[At hno]
 ·have d1:decide ((0:Int)<=(p.length:Int))=true:=aaj Om;have VD:p.length<s.length:=by rw[hq];simp
  have w6:IntKind.i64.wrap ((p.length:Int)+((1:Nat):Int))=((p.length+1:Nat):Int):=by rw[aY Om Om];omega
  rw[hix];subst hq;simp only[aU,aX,bz,bA,reduceAdd,reduceMul,reduceLeDiff,reduceEqDiff,d1,aav,w6,uP,mI];rw[x9 hp]
def r98(s:By)(c:UInt8)(hs:s.length<=2^40):ay P 98 [.str s,.str [c]] h (λv _=>v=.dQ [.str (dw c s).1,.str (dw c s).2.1,.bool (dw c s).2.2]):=by
 refine .of T.mix T.c98 ?_;unfold fn98 gA;refine Wn ?_;refine WF.ce T.c188 (r188 T X s c hs) λg=>?_
 exact Wn Tv
end
def Pw(h:ah):Prop:=∃mu tl,h[2]? =some (.cells (Lib.pow10Tab.map (AV.int .u64)) mu tl)
def Pw.ext{h k}(o:Pw h)(e:Ext h k):Pw k:=by
 obtain⟨mu,tl,hb⟩:=o;exact⟨mu,tl,e.some hb⟩
structure nB(P:Program):Prop where
 itoa:∀{h:ah}{n:Int},-9223372036854775808<=n->n<=9223372036854775807->Pw h->ay P 113 [.i n] h (λv _=>v=.str (Lib.itoa n))
 join:∀{h:ah}{s:AV}{sep:By}{xs:List (By)},aI h s 1 (xs.map aq)->(Lib.join xs sep).length<=140737488355328/\xs.length<=140737488355328->ay P 114 [s,.str sep] h (λv _=>v=.str (Lib.join xs sep))
 atoi:∀{h:ah}{s:By},s.all du=true->s≠[]->s.length<=9->ay P 254 [.str s] h (λv _=>v=.dQ [.i (jT s),.k8])
 rep:∀{h:ah}{n:Nat},n<=7->ay P 252 [.str [48],.i (n:Nat)] h (λv _=>v=.str (List.replicate n 48))
def gS{n}(h:0<=n):Lib.itoa n=dS n:=by rw[gD];unfold Lib.itoa;rw[aao Om]
theorem lu:∀{k u},u<10^(k+1)->(Lib.decDigits u).length<=k+1
 | 0,u,h=>by rw[Lib.decDigits,dif_pos (by simpa using h)];simp
 |k+1,u,h=>by
  by_cases hu:u<10
  ·rw[Lib.decDigits,dif_pos hu];simp
  ·rw[Lib.decDigits,dif_neg hu,aac];have:=lu (k:=k) (u:=u / 10) (by rw[Nat.pow_succ]at h;omega);simp;omega
def sU{s c}:jT (s++[c])=10*jT s+((c.toNat:Int)-48):=by simp[jT]
def gB{c}:du c=true↔48<=c.toNat/\c.toNat<=57:=by simp[du]
def fD{α:Type}{s:List α}{k:Nat}(hk:k<s.length):s.take (k+1)=s.take k++[s[k]]:=by
 rw[aa1,aai hk];rfl
def hO(sw:AV)(wr:Bool):ak:=.b [sw,.bool wr]
section
variable {P:Program}(T:eD P) {h A B:ah}
include T
set_option maxRecDepth 10000 in
def r189(s:By)(hs:s.length<=2^40):ay P 189 [.str s] h (λv _=>v=.bool (nU s)):=by
 refine .lI 18 T.mix T.c189 ?_;intro ts hlen t0;unfold fn189 gA;refine Rs t0 ?_;refine WL.inv T.mix (λn ts' h'=>∃k:Nat,k<=s.length/\n=s.length-k/\h' =h++[.iter s k]/\(s.take k).all du=true/\ts'.length=18/\slot ts' 0=.str s/\slot ts' 6=.ptr h.length 0) s.length
  ⟨0,Om,rfl,rfl,rfl,(Sq t0),(Sq t0),(Sq t0)⟩ ?_
 rintro _ ts' _ ⟨k,hk,rfl,rfl,hd,UH,u0,u6⟩;clear hlen t0;have hlen:=UH;by_cases hlt:k<s.length
 ·obtain⟨c,w,VJ,hcw⟩:∃c w,Utf8.decode ⟨⟨s⟩⟩ k=(c,w)/\(c=s[k].toNat/\w=1/\s[k].toNat<128\/128<=c/\128<=s[k].toNat):=by
   by_cases hc:s[k].toNat<128
   ·exact⟨_,_,dec_lt hlt hc,.inl ⟨rfl,rfl,hc⟩⟩
   ·exact z194
  have hall:du s[k]=false->AV.bool false=AV.bool (nU s):=λhx=>by
   have:s.all du=false:=by rw[List.all_eq_false];exact⟨s[k],aat hlt,by simp[hx]⟩
   simp only[nU,this,Bool.and_false]
  by_cases a5:(48:Int)<=c
  ·by_cases a6:(c:Int)<=57
   ·have hc:c=s[k].toNat/\w=1:=Om
    obtain⟨rfl,rfl⟩:=hc;have hy:du s[k]=true:=gB.2 Om;have d1:decide ((s[k].toNat:Int)<48)=false:=aaf Om;have d2:decide ((57:Int)<(s[k].toNat:Int))=false:=aaf Om
    repeat (first|simp (config:={maxSteps:=1000000}) only[aU,aX,bz,bA,reduceAdd,reduceMul,reduceLeDiff,reduceEqDiff,bC,hlen,aay,aaB,u0,u6,eE,hlt,aaB,VJ,d1,d2]|simp (config:={maxSteps:=1000000}) (disch:=first|(simp only[aac,aah,aal]<;>omega)|rfl|omega|fail) only[gp,aU,aX,bz,bA,reduceAdd,reduceMul,reduceLeDiff,reduceEqDiff,bC,hlen,aay,aaB,u0,u6,eE,hlt,aaB,VJ,d1,d2])
    refine⟨s.length-(k+1),Om,k+1,Om,rfl,rfl,?_,trivial⟩;rw[fD hlt,acm,hd];simp[hy]
   ·have d1:decide ((c:Int)<48)=false:=aaf Om;have d2:decide ((57:Int)<(c:Int))=true:=aaj Om
    repeat (first|simp (config:={maxSteps:=1000000}) only[aU,aX,bz,bA,reduceAdd,reduceMul,reduceLeDiff,reduceEqDiff,bC,hlen,aay,aaB,u0,u6,eE,hlt,aaB,VJ,d1,d2]|simp (config:={maxSteps:=1000000}) (disch:=first|(simp only[aac,aah,aal]<;>omega)|rfl|omega|fail) only[gp,aU,aX,bz,bA,reduceAdd,reduceMul,reduceLeDiff,reduceEqDiff,bC,hlen,aay,aaB,u0,u6,eE,hlt,aaB,VJ,d1,d2])
    exact z131
  ·have d1:decide ((c:Int)<48)=true:=aaj Om
   repeat (first|simp (config:={maxSteps:=1000000}) only[aU,aX,bz,bA,reduceAdd,reduceMul,reduceLeDiff,reduceEqDiff,bC,hlen,aay,aaB,u0,u6,eE,hlt,aaB,VJ,d1]|simp (config:={maxSteps:=1000000}) (disch:=first|(simp only[aac,aah,aal]<;>omega)|rfl|omega|fail) only[gp,aU,aX,bz,bA,reduceAdd,reduceMul,reduceLeDiff,reduceEqDiff,bC,hlen,aay,aaB,u0,u6,eE,hlt,aaB,VJ,d1])
   exact z131
 ·have ek:k=s.length:=Om
  rw[ek,aaS]at hd
  repeat (first|simp (config:={maxSteps:=1000000}) only[aU,aX,bz,bA,reduceAdd,reduceMul,reduceLeDiff,reduceEqDiff,bC,hlen,aay,aaB,u0,u6,eE,hlt,aay]|simp (config:={maxSteps:=1000000}) (disch:=first|(simp only[aac,aah,aal]<;>omega)|rfl|omega|fail) only[gp,aU,aX,bz,bA,reduceAdd,reduceMul,reduceLeDiff,reduceEqDiff,bC,hlen,aay,aaB,u0,u6,eE,hlt,aay])
  simp only[nU,hd,Bool.and_true,decide_not]
omit T in
theorem BD{s}:dA s=(nU s&&decide (s.length<=9) && !(decide (1<s.length)&&decide (s.head? =some 48))):=by
 unfold dA nU;cases s with
 |nil=>rfl
 |cons x r=>cases (x::r).all du<;>cases decide ((x::r).length<=9)<;>simp
set_option maxRecDepth 10000 in
def r190(Z:nB P)(s:By)(hs:s.length<=2^40):ay P 190 [.str s] h (λv _=>v=.dQ [.i (fQ s),.bool (dA s)]):=by
 refine .lI 30 T.mix T.c190 ?_;intro ts hlen t0;unfold fn190 gA;refine Rs t0 ?_;refine WF.ce T.c189 (r189 T s hs) λg=>?_
 have bad:dA s=false->AV.dQ [.i 0,.bool false]=AV.dQ [.i (fQ s),.bool (dA s)]:=λhb=>by unfold fQ;rw[hb];rfl
 have e0:=BD (s:=s);cases hd:nU s with
 |false=>
  rw[hd]at e0;refine Rs (A3 t0 @hd @aaI) ?_;exact bad (by rw[e0];rfl)
 |true=>
  rw[hd]at e0;have TW:=hd;unfold nU at TW;simp only[aaM,abt,abL]at TW;by_cases h9:9<s.length
  ·have d9:decide ((9:Int)<s.length)=true:=aaj Om;have q9:decide (s.length<=9)=false:=aaf Om;rw[q9]at e0;refine Rs (A4 t0 @hd @aaD @d9) ?_;exact bad (by rw[e0];rfl)
  ·have d9:decide ((9:Int)<s.length)=false:=aaf Om;have q9:decide (s.length<=9)=true:=aaj Om;rw[q9]at e0;obtain⟨c,r,rfl⟩:∃c r,s=c::r:=by cases s with|nil=>exact absurd rfl TW.1|cons c r=>exact⟨c,r,rfl⟩
   by_cases h1:1<(c::r).length
   ·have d1:decide ((1:Int)<((c::r).length:Int))=true:=aaj Om;have q1:decide (1<(c::r).length)=true:=aaj h1;rw[q1]at e0;by_cases h2:c=48
    ·have d2:decide ((c.toNat:Int)=48)=true:=by rw[h2];rfl
     have q2:decide ((c::r).head? =some 48)=true:=by rw[h2];rfl
     rw[q2]at e0;refine Rs (A7 t0 @hd @aaD @d9 @d1 @xB @d2) ?_;exact bad (by rw[e0];rfl)
    ·have d2:decide ((c.toNat:Int)=48)=false:=aaf λe=>h2 (acF.1 (by simpa using (by omega:c.toNat=48)))
     have q2:decide ((c::r).head? =some 48)=false:=aaf (by simp[h2]);rw[q2]at e0;have e1:dA (c::r)=true:=by rw[e0];rfl
     refine Rs (A7 t0 @hd @aaD @d9 @d1 @xB @d2) ?_;exact LO
   ·have d1:decide ((1:Int)<((c::r).length:Int))=false:=aaf Om;have q1:decide (1<(c::r).length)=false:=aaf h1;rw[q1]at e0;have e1:dA (c::r)=true:=by rw[e0];rfl
    refine Rs (A5 t0 @hd @aaD @d9 @d1) ?_;exact LO
set_option maxRecDepth 10000 in
def JL{sw ws wr}(hs:aI A sw 1 (ws.map aq)):
  dy P 207 [.ptr A.length 0] (A++[hO sw wr]++B) (λv h'=>∃sw',v=.str (bI ws wr).1/\h' =A++[hO sw' (bI ws wr).2.2]++B/\aI A sw' 1 ((bI ws wr).2.1.map aq)):=by
 refine .of T.mix T.c207 ?_;obtain⟨ts,Tp⟩:∃ts,ts=aR 40 [.ptr A.length 0]:=⟨_,rfl⟩;have hlen:ts.length=40:=by rw[Tp];rfl
 have t0:slot ts 0=.ptr A.length 0:=by rw[Tp];rfl
 unfold fn207 gA;show WC P bP _ [] (aR 40 [.ptr A.length 0]) (A++[hO sw wr]++B) _;rw[<-Tp];clear Tp;unfold hO;have c0:=hs.one;have hsE:∀{k:ah},aI (A++k) sw 1 (ws.map aq):=λ{k}=>hs.ext ⟨k,rfl⟩
 cases ws with
 |nil=>
  have d0:decide ((([] :List (By)).length:Int)=0)=true:=rfl;refine Rs (A4 t0 hs.aK @d0 @c0) ?_;exact⟨.af,by rw[bI];exact⟨rfl,rfl,aI.nil⟩⟩
 |cons w r=>
  have d0:decide (((w::r).length:Int)=0)=false:=aaf (by simp;omega);have ix:=hs.n7 (kk:=.i64) Si;have ld:∀{k:ah},Ext A k->ao none (cT sw 1 0) (λb=>k[b]?)=some (.str w,.ar):=λ{k} e=>hs.jS (i:=0) Si rfl e
  by_cases hw:w=[]
  ·have d1:decide (w=[])=true:=aaj hw;refine Rs (A7 t0 hs.aK @d0 ix @ld @d1 @c0) ?_;exact⟨.af,by rw[bI,aas hw];exact⟨rfl,rfl,aI.nil⟩⟩
  ·have d1:decide (w=[])=false:=aaf hw;have U9:jv (some (AV.i 1)) none (w::r).length=some (1,(w::r).length):=lA (k:=1) Si;obtain⟨s',es',Tq⟩:=hs.EG U9;have et:List.take ((w::r).length-1) (List.drop 1 (w::r))=r:=Si
   rw[et]at Tq;refine Rs (A9 t0 hs.aK @d0 ix @ld @d1 @c0 @es' Tq.one) ?_;exact⟨s',by rw[bI,aao hw];exact⟨rfl,rfl,Tq⟩⟩
set_option maxRecDepth 10000 in
def QP(Z:nB P){sw ws wr}(hs:aI A sw 1 (ws.map aq))(hl:∀x∈ws,x.length<=2^40):
  dy P 208 [.ptr A.length 0] (A++[hO sw wr]++B) (λv h'=>∃(sw':AV) (g:ah),v=.i (fQ (bI ws wr).1)/\h' =A++[hO sw' ((bI ws wr).2.2 || !dA (bI ws wr).1)]++(B++g)/\aI A sw' 1 ((bI ws wr).2.1.map aq)):=by
 refine .of T.mix T.c208 ?_;obtain⟨ts,Tp⟩:∃ts,ts=aR 23 [.ptr A.length 0]:=⟨_,rfl⟩;have hlen:ts.length=23:=by rw[Tp];rfl
 have t0:slot ts 0=.ptr A.length 0:=by rw[Tp];rfl
 unfold fn208 gA;show WC P bP _ [] (aR 23 [.ptr A.length 0]) (A++[hO sw wr]++B) _;rw[<-Tp];clear Tp;refine Rs t0 ?_;refine WF.gen T.c207 (JL T hs) ?_;rintro _ _ ⟨sw',rfl,rfl,Tq⟩;have hwl:(bI ws wr).1.length<=2^40:=by
  cases ws with
  |nil=>simp[bI]
  |cons w r=>
   by_cases hw:w=[]
   ·rw[bI,aas hw];simp
   ·rw[bI,aao hw];exact hl w Si
 generalize (bI ws wr).1=w at hwl ⊢;generalize (bI ws wr).2.2=wr' at Tq ⊢;generalize (bI ws wr).2.1=ws' at Tq ⊢;refine Rs t0 ?_;refine WF.ce T.c190 (r190 T Z w hwl) λg=>?_
 unfold hO;have c0:=Tq.one;cases wr' with
 |true=>
  refine Rs (A3 t0 @c0 @acq) ?_;exact⟨sw',g,by rw[aae],Tq⟩
 |false=>
  refine Rs (A3 t0 @c0 @acx) ?_;exact⟨sw',g,by rw[aae],Tq⟩
end
def vk{α:Type}{p:α->Bool}{L:List α}{k:Nat}(hlt:k<L.length)(hi:L.findIdx? p=((L.drop k).findIdx? p).map (· +k)):(p L[k]=true->dt p L=(k:Int))/\(p L[k]=false->L.findIdx? p=((L.drop (k+1)).findIdx? p).map (· +(k+1))):=by
 have hd:L.drop k=L[k]::L.drop (k+1):=Si
 rw[hd,acA]at hi;constructor
 ·intro hp;rw[hp]at hi;rw[dt,hi];simp
 ·intro hp;rw[hp]at hi;rw[hi];exact SA
def xS{α:Type}{p:α->Bool}{L:List α}(hi:L.findIdx? p=((L.drop L.length).findIdx? p).map (· +L.length)):dt p L= -1:=by
 rw[abh]at hi;rw[dt,hi];rfl
set_option maxRecDepth 10000
section
variable {P:Program}(T:eD P) {h:ah}
include T
def r20(n lo hi:Int):ay P 20 [.i n,.i lo,.i hi] h (λv _=>v=.bool (decide (bG n lo hi≠0))):=by
 refine .oh 15 T.mix T.c20 ?_;intro ts hlen t0 t1 t2;unfold fn20 gA;by_cases h1:n<lo
 ·have q1:decide (n<lo)=true:=aaj h1;refine Rs (A4 t0 t1 t2 q1) ?_;rw[bG,aas (.inl h1)];rfl
 ·have q1:decide (n<lo)=false:=aaf h1;by_cases h2:hi<n
  ·have q2:decide (hi<n)=true:=aaj h2;refine Rs (A5 t0 t1 t2 q1 q2) ?_;rw[bG,aas (.inr h2)];rfl
  ·have q2:decide (hi<n)=false:=aaf h2;refine Rs (A5 t0 t1 t2 q1 q2) ?_;rw[bG,aao Om];rfl
def r35{L:List (By)}{s:AV}(hs:aI h s 1 (L.map aq))(hl:L.length<2^40)(n:By):ay P 35 [s,.str n] h (λv _=>v=.bool (decide (n∈L))):=by
 refine .eQ 18 T.mix T.c35 ?_;intro ts hlen t0 t1;unfold fn35 gA;refine Rs (A2 t0 t1) ?_;refine WL.inv T.mix (λm ts h'=>∃k:Nat,k<=L.length/\m=L.length-k/\h' =h/\(n∈L↔n∈L.drop k)/\ts.length=18/\slot ts 0=s/\slot ts 1=.str n/\slot ts 5=.i k) L.length
  ⟨0,Om,rfl,rfl,Iff.rfl,Sn,(Sq t0),(Sq t1),gX⟩ ?_
 rintro _ ts _ ⟨k,hk,rfl,rfl,hi,hlen,t0,t1,t5⟩;by_cases hlt:k<L.length
 ·have hd:L.drop k=L[k]::L.drop (k+1):=Si
  rw[hd,aaN]at hi;have e3:=eO hlt;have ix:=hs.dK (kk:=.i64) hlt;have ld:=hs.jS (i:=k) (x:=.str L[k]) hlt rfl (Ext.refl _);have e5:=wrapN (n:=k) Om;by_cases hp:L[k]=n
  ·have q:decide (L[k]=n)=true:=aaj hp;refine Rs (A8 t0 t1 t5 e3 hs.aK ix @ld q) ?_;exact aaR AV.bool (aaj (hi.2 (.inl hp.symm))).symm
  ·have q:decide (L[k]=n)=false:=aaf hp;refine Rs (A9 t0 t1 t5 e3 hs.aK ix @ld q e5) ?_;exact⟨_,Om,k+1,Om,rfl,⟨λz=>(hi.1 z).resolve_left λe=>hp e.symm,λz=>hi.2 (.inr z)⟩,rfl⟩
 ·have e3:=fC hlt;have e4:k=L.length:=Om
  refine Rs (A5 t0 t1 t5 e3 hs.aK) ?_;rw[e4,abh]at hi;exact aaR AV.bool (aaf (λz=>by simpa using hi.1 z)).symm
def r25{L M:List (By)}{s t:AV}(hs:aI h s 1 (L.map aq))(ht:aI h t 1 (M.map aq))(hl:L.length<2^40)(hm:M.length<2^40):ay P 25 [s,t] h (λv _=>v=.bool (decide (L=M))):=by
 refine .eQ 26 T.mix T.c25 ?_;intro ts hlen t0 t1;unfold fn25 gA;by_cases h1:L.length=M.length
 case neg=>
  exact z70
 have q:decide ((L.length:Int)≠M.length)=false:=aaf Om;refine Rs (A5 t0 t1 hs.aK ht.aK q) ?_;refine WL.inv T.mix (λm ts h'=>∃k:Nat,k<=L.length/\m=L.length-k/\h' =h/\L.take k=M.take k/\ts.length=26/\slot ts 0=s/\slot ts 1=t/\slot ts 5=.i k) L.length
  ⟨0,Om,rfl,rfl,rfl,Sn,(Sq t0),(Sq t1),gX⟩ ?_
 rintro _ ts h' ⟨k,hk,rfl,rfl,hi,hlen,t0,t1,t5⟩;by_cases hlt:k<L.length
 ·have TQ:k<M.length:=Om
  have e3:=eO hlt;have ix:=hs.dK (kk:=.i64) hlt;have iy:=ht.dK (kk:=.i64) TQ;have ld:∀{kk:ah},Ext h' kk->_:=λ{kk} e=>hs.jS (i:=k) (x:=.str L[k]) (k:=kk) hlt rfl e
  have ly:∀{kk:ah},Ext h' kk->_:=λ{kk} e=>ht.jS (i:=k) (x:=.str M[k]) (k:=kk) TQ rfl e
  exact z21
 ·exact z75
def r62{L M:List (Int)}{s t:AV}(hs:aI h s 1 (L.map aH))(ht:aI h t 1 (M.map aH))(hl:L.length<2^40)(hm:M.length<2^40):ay P 62 [s,t] h (λv _=>v=.bool (decide (L=M))):=by
 refine .eQ 26 T.mix T.c62 ?_;intro ts hlen t0 t1;unfold fn62 gA;by_cases h1:L.length=M.length
 case neg=>
  exact z70
 have q:decide ((L.length:Int)≠M.length)=false:=aaf Om;refine Rs (A5 t0 t1 hs.aK ht.aK q) ?_;refine WL.inv T.mix (λm ts h'=>∃k:Nat,k<=L.length/\m=L.length-k/\h' =h/\L.take k=M.take k/\ts.length=26/\slot ts 0=s/\slot ts 1=t/\slot ts 5=.i k) L.length
  ⟨0,Om,rfl,rfl,rfl,Sn,(Sq t0),(Sq t1),gX⟩ ?_
 rintro _ ts h' ⟨k,hk,rfl,rfl,hi,hlen,t0,t1,t5⟩;by_cases hlt:k<L.length
 ·have TQ:k<M.length:=Om
  have e3:=eO hlt;have ix:=hs.dK (kk:=.i64) hlt;have iy:=ht.dK (kk:=.i64) TQ;have ld:∀{kk:ah},Ext h' kk->_:=λ{kk} e=>hs.jS (i:=k) (x:=.i L[k]) (k:=kk) hlt rfl e
  have ly:∀{kk:ah},Ext h' kk->_:=λ{kk} e=>ht.jS (i:=k) (x:=.i M[k]) (k:=kk) TQ rfl e
  exact z21
 ·exact z75
def qd{f i w:Nat}{α:Type}{row:α->List AV}{nm:α->By}{L:List α}{s:AV}{V:RV}(c:bU P f=some (wh i w))(o:aC h V)(hs:aI h s w (L.map row))(hv:V.row[i]? =some s)(hr:∀y,(row y)[0]? =some (.str (nm y)))(hl:L.length<2^30)(n:By):ay P f [.agg V.row,.str n] h (λv _=>v=.i (dt (λy=>decide (nm y=n)) L)):=by
 refine .eQ 22 T.mix c ?_;intro ts hlen t0 t1;unfold wh;have To:=@aC.box _ _ o;refine Rs (A3 t0 t1 @To) ?_;refine WL.inv T.mix (λm ts h'=>∃k:Nat,k<=L.length/\m=L.length-k/\h' =h++[ak.b V.row]/\L.findIdx? (λy=>decide (nm y=n))=((L.drop k).findIdx? (λy=>decide (nm y=n))).map (· +k)/\ts.length=22/\slot ts 1=.str n/\slot ts 2=.ptr h.length 0/\slot ts 5=.i k) L.length
  ⟨0,Om,rfl,rfl,Si,Sn,(Sq t1),Sw,gX⟩ ?_
 rintro _ ts _ ⟨k,hk,rfl,rfl,hi,hlen,t1,t2,t5⟩;have lb:∀{kk n a},Ext (h++[ak.b V.row]) kk->ao n (.ptr h.length a) (λz=>kk[z]?)=dO n a (.b V.row):=λ{_ _ _} e=>aA (e.some ba)
 by_cases hlt:k<L.length
 ·have e3:=eO hlt;have ix:=hs.dK (kk:=.i64) hlt;have e5:=wrapN (n:=k) Om;obtain⟨h1,h2⟩:=vk hlt hi;obtain⟨y,hy⟩:∃y,y=L[k]:=⟨_,rfl⟩;have ld:∀{kk:ah},Ext h kk->ao none (j9 s w k 0) (λb=>kk[b]?)=some (.str (nm y),.ar):=λ{kk} e=>hs.mi hlt (by rw[<-hy];exact hr y) e
  rw[<-hy]at h1 h2;by_cases hp:nm y=n
  ·have q:decide (nm y=n)=true:=aaj hp;refine Rs (mE t1 t2 t5 @lb @hv hs.aK e3 ix @ld q) ?_;rw[h1 q]
  ·have q:decide (nm y=n)=false:=aaf hp;refine Rs (n6 t1 t2 t5 @lb @hv hs.aK e3 ix @ld q e5) ?_;exact⟨_,Om,k+1,Om,rfl,h2 q,rfl⟩
 ·have e3:=fC hlt;have e4:k=L.length:=Om
  refine Rs (A7 t1 t2 t5 @lb @hv hs.aK e3) ?_;subst e4;rw[xS hi]
def r28{V:RV}(o:aC h V)(l:eP V)(n:By):ay P 28 [.agg V.row,.str n] h (λv _=>v=.i (dt (λy=>decide (y.name=n)) V.lines)):=
 qd T (nm:=λy:iO=>y.name) T.c28 o o.i0 gJ (λ_=>rfl) l.l0 n
def r141{V:RV}(o:aC h V)(l:eP V)(n:By):ay P 141 [.agg V.row,.str n] h (λv _=>v=.i (dt (λy=>decide (y.name=n)) V.aG)):=
 qd T (nm:=λy:tv=>y.name) T.c141 o o.i1 lZ (λ_=>rfl) l.l1 n
def r22{V:RV}(o:aC h V)(l:eP V)(n:By):ay P 22 [.agg V.row,.str n] h (λv _=>v=.i (dt (λy:kr×AV=>decide (y.1.name=n)) V.aj)):=
 qd T (nm:=λy:kr×AV=>y.1.name) T.c22 o o.i2 fU (λ_=>rfl) l.l2 n
def r55{V:RV}(o:aC h V)(l:eP V)(n:By):ay P 55 [.agg V.row,.str n] h (λv _=>v=.i (dt (λy:iL×AV=>decide (y.1.name=n)) V.aD)):=
 qd T (nm:=λy:iL×AV=>y.1.name) T.c55 o o.i3 gh (λ_=>rfl) l.l3 n
def r56{V:RV}(o:aC h V)(l:eP V)(n:By):ay P 56 [.agg V.row,.str n] h (λv _=>v=.i (dt (λy:lP×AV=>decide (y.1.name=n)) V.aF)):=
 qd T (nm:=λy:lP×AV=>y.1.name) T.c56 o o.i4 gI (λ_=>rfl) l.l4 n
def r57{V:RV}(o:aC h V)(l:eP V)(n:By):ay P 57 [.agg V.row,.str n] h (λv _=>v=.i (dt (λy=>decide (y.name=n)) V.aP)):=
 qd T (nm:=λy:qR=>y.name) T.c57 o o.i5 iP (λ_=>rfl) l.l5 n
end
def lR(r:Nat×Bool):UInt8:=
 match r.1,r.2 with
 | 0,true=>108
 | 1,true=>116
 | 2,true=>115
 | 3,true=>109
 | 4,true=>106
 |_,true=>112
 | 0,false=>76
 | 1,false=>84
 | 2,false=>83
 | 3,false=>77
 | 4,false=>74
 |_,false=>80
def yG(d:Kd):By:=(aM d).map lR
def Ak(k:By):List AV:=
 match fk k with
 |none=>[.str [],.i 0,.bool false]
 |some d=>[.str (yG d),.i (bQ d:Int),.bool true]
def gT(d:Kd):decide (bf d=[108,105,110,101])=decide (d=.line):=by cases d<;>rfl
def iU(d:Kd):decide (bf d=[116,97,112,101])=decide (d=.tape):=by cases d<;>rfl
def sI(d:Kd):decide (bf d=[115,104,111,116])=decide (d=.gM):=by cases d<;>rfl
def xI(d:Kd):decide (bf d=[99,111,112,121])=decide (d=.copy):=by cases d<;>rfl
def sJ(d:Kd):decide (bf d=[97,99,99,101,112,116])=decide (d=.accept):=by cases d<;>rfl
def iI(d:Kd):decide (bf d=[115,111,117,114,99,101])=decide (d=.source):=by cases d<;>rfl
def kH(d:Kd):decide (bf d=[109,111,100,117,108,101])=decide (d=.gy):=by cases d<;>rfl
def jE(d:Kd):decide (bf d=[109,101,114,103,101])=decide (d=.merge):=by cases d<;>rfl
def Ag(d:Kd):decide (bf d=[114,117,110])=decide (d=.run):=by cases d<;>rfl
def xF(d:Kd):decide (bf d=[116,105,108,101])=decide (d=.gx):=by cases d<;>rfl
def xH(d:Kd):decide (bf d=[102,97,105,108])=decide (d=.fail):=by cases d<;>rfl
def xG(d:Kd):decide (bf d=[112,105,99,116,117,114,101])=decide (d=.gN):=by cases d<;>rfl
def ri(d:Kd):decide (bf d=[114,101,108,101,97,115,101])=decide (d=.rel):=by cases d<;>rfl
def o9(d:Kd):decide (bf d=[117,110,100,111])=decide (d=.fg):=by cases d<;>rfl
def iA:type_of% (B5 @gT @iU @sI @xI @sJ @iI @kH @jE @Ag @xF @xH @xG @ri @o9):=B5 @gT @iU @sI @xI @sJ @iI @kH @jE @Ag @xF @xH @xG @ri @o9
def C2:∀r:Nat×Bool,r.1<6->decide (97<=((lR r).toNat:Int))=r.2
 |(0,true),_=>rfl
 |(1,true),_=>rfl
 |(2,true),_=>rfl
 |(3,true),_=>rfl
 |(4,true),_=>rfl
 |(5,true),_=>rfl
 |(0,false),_=>rfl
 |(1,false),_=>rfl
 |(2,false),_=>rfl
 |(3,false),_=>rfl
 |(4,false),_=>rfl
 |(5,false),_=>rfl
def Fv(d:Kd):∀r∈aM d,r.1<6:=by cases d<;>decide
section
variable {P:Program}(T:eD P) {h:ah}
include T
def r101(k:By):ay P 101 [.str k] h (λv _=>v=.agg (Ak k)):=by
 refine .lI 47 T.mix T.c101 ?_;intro ts hlen t0;unfold fn101 gA;unfold Ak;cases hk:fk k with
 |none=>
  have ZD:decide (k=[108,105,110,101])=false:=aaf (dM hk .line);have Zz:decide (k=[116,97,112,101])=false:=aaf (dM hk .tape);have ZA:decide (k=[115,104,111,116])=false:=aaf (dM hk .gM);have ZF:decide (k=[99,111,112,121])=false:=aaf (dM hk .copy);have Xl:decide (k=[97,99,99,101,112,116])=false:=aaf (dM hk .accept);have Xk:decide (k=[115,111,117,114,99,101])=false:=aaf (dM hk .source);have ZC:decide (k=[109,111,100,117,108,101])=false:=aaf (dM hk .gy);have Ym:decide (k=[109,101,114,103,101])=false:=aaf (dM hk .merge);have q_run:decide (k=[114,117,110])=false:=aaf (dM hk .run);have Zy:decide (k=[116,105,108,101])=false:=aaf (dM hk .gx)
  have ZE:decide (k=[102,97,105,108])=false:=aaf (dM hk .fail);have ZB:decide (k=[112,105,99,116,117,114,101])=false:=aaf (dM hk .gN);have q_rel:decide (k=[114,101,108,101,97,115,101])=false:=aaf (dM hk .rel);have Zx:decide (k=[117,110,100,111])=false:=aaf (dM hk .fg);exact Rs (B4 t0 @ZD @Zz @ZA @ZF @Xl @Xk @ZC @Ym @q_run @Zy @ZE @ZB @q_rel @Zx) Tv
 |some d=>
  have Tw:=bY hk;subst Tw;clear hk;cases d
  all_goals
   refine pP (A4 t0 @iA @aaE @aaJ) ?_;rfl
def r39{x}(o:bd h x)(hl:x.ev.names.length<=2^40/\x.ev.bK.length<=2^40)(hn:∀n∈x.ev.names,n.length<2^63):ay P 39 [.agg x.row] h (λv _=>v=.i (eJ x.ev)):=by
 refine .lI 59 T.mix T.c39 ?_;intro ts hlen t0;unfold fn39 gA;have To:=@bd.box _ _ o;refine Rs (A3 t0 @To @kj) ?_;refine WF.ce T.c20 (r20 T _ _ _) λg1=>?_
 by_cases h0:bG x.ev.num 1 1000=0
 case neg=>
  have e0:decide (bG x.ev.num 1 1000≠0)=true:=aaj h0;refine Rs (A2 t0 e0) ?_;rw[eJ,aas h0]
 have e0:decide (bG x.ev.num 1 1000≠0)=false:=aaf (λz=>z h0);refine Rs (A3 t0 e0 @bB) ?_;refine WF.ce T.c101 (r101 T _) λg2=>?_
 unfold Ak;rw[eJ,aao (λz=>z h0)];cases hd:fk x.ev.kind with
 |none=>
  exact Rs (A2 t0 @aaI) Tv
 |some d=>
  have UC:(yG d).length=(aM d).length:=by rw[yG,aak]
  have hr3:(aM d).length<=3/\bQ d<=3:=by cases d<;>decide
  refine Rs (A7 t0 @aaD @aN @aW o.n.aK o.v.aK @UC) ?_;by_cases h1:x.ev.names.length=(aM d).length
  case neg=>
   have q:decide ((x.ev.names.length:Int)≠(aM d).length)=true:=aaj Om;refine Rs (A2 t0 q) ?_;rw[aas (.inl h1)]
  have q:decide ((x.ev.names.length:Int)≠(aM d).length)=false:=aaf Om;by_cases h2:x.ev.bK.length=bQ d
  case neg=>
   have q2:decide ((x.ev.bK.length:Int)≠bQ d)=true:=aaj Om;refine Rs (A5 t0 @aW q q2 o.v.aK) ?_;rw[aas (.inr h2)]
  have q2:decide ((x.ev.bK.length:Int)≠bQ d)=false:=aaf Om;refine Rs (A5 t0 @aW q q2 o.v.aK) ?_;rw[aao Om];obtain⟨H,hH⟩:∃H,H=h++[ak.b x.row]++g1++g2++[ak.b [AV.str (yG d),.i (bQ d:Int),.bool true]]:=⟨_,rfl⟩;obtain⟨fb,hfb⟩:∃fb,fb=(h++[ak.b x.row]++g1++g2).length:=⟨_,rfl⟩;have T4:Ext h H:=by rw[hH];exact Xx
  have me:H[h.length]? =some (.b x.row):=by rw[hH];exact(show Ext (h++[ak.b x.row]) _ from Xx).some ba
  have mf:H[fb]? =some (.b [AV.str (yG d),.i (bQ d:Int),.bool true]):=by rw[hH,hfb];exact ba
  rw[<-hH,<-hfb];refine WL.inv T.mix (λm ts h'=>∃k:Nat,k<=x.ev.names.length/\m=x.ev.names.length-k/\Ext H h'/\x.ev.names.any (λs=>!dY s)=(x.ev.names.drop k).any (λs=>!dY s)/\ts.length=59/\slot ts 1=.ptr h.length 0/\slot ts 3=.ptr fb 0/\slot ts 4=.i k) x.ev.names.length
   ⟨0,Om,rfl,.refl _,rfl,Sn,Sw,Sw,gX⟩ ?_
  rintro _ ts h' ⟨k,hk,rfl,hx,hi,hlen,t1,t3,t4⟩;have le:∀{kk n a},Ext h' kk->ao n (.ptr h.length a) (λz=>kk[z]?)=dO n a (.b x.row):=λ{_ _ _} e=>aA ((hx.trans e).some me)
  have lf:∀{kk n a},Ext h' kk->ao n (.ptr fb a) (λz=>kk[z]?)=dO n a (.b [AV.str (yG d),.i (bQ d:Int),.bool true]):=λ{_ _ _} e=>aA ((hx.trans e).some mf)
  by_cases hlt:k<x.ev.names.length
  ·have e3:decide ((k:Int)<(aM d).length)=true:=aaj Om;have e5:=wrapN (n:=k) Om;have ix:=o.n.dK (kk:=.i64) hlt;have ld:∀{kk:ah},Ext h' kk->ao none (cT x.sn 1 k) (λb=>kk[b]?)=some (.str x.ev.names[k],.ar):=λ{kk} e=>o.n.jS hlt rfl ((T4.trans hx).trans e)
   have XP:x.ev.names.drop k=x.ev.names[k]::x.ev.names.drop (k+1):=Si
   rw[XP,acJ]at hi;have hnk:=hn x.ev.names[k] (aat _);obtain⟨y,hy⟩:∃y,y=x.ev.names[k]:=⟨_,rfl⟩;rw[<-hy]at ld hi hnk;refine Rs (mE t1 t3 t4 @le @lf @UC e3 @aN ix @ld) ?_;refine WF.ce T.c102 (r102 T y hnk) λg3=>?_
   cases hny:dY y with
   |false=>
    rw[hny]at hi;have hi:x.ev.names.any (λs=>!dY s)=true:=hi;refine Rs (A4 t1 t3 t4 @aaI) ?_;refine⟨(T4.trans hx).trans Xx,?_⟩;rw[aas hi]
   |true=>
    rw[hny]at hi;refine Rs (A5 t1 t3 t4 @aaD e5) ?_;exact Lg
  ·have e3:decide ((k:Int)<(aM d).length)=false:=aaf Om;have e4:k=x.ev.names.length:=Om
   have hi0:x.ev.names.any (λs=>!dY s)=false:=by rw[hi,e4,abh];rfl
   rw[aao (by rw[hi0];decide)];refine Rs (A6 t1 t3 t4 @lf @UC e3) ?_;refine WL.inv T.mix (λm ts YK=>∃k:Nat,k<=x.ev.bK.length/\m=x.ev.bK.length-k/\Ext H YK/\x.ev.bK.any (λn=>decide (bG n 0 999999999≠0))=(x.ev.bK.drop k).any (λn=>decide (bG n 0 999999999≠0))/\ts.length=59/\slot ts 1=.ptr h.length 0/\slot ts 3=.ptr fb 0/\slot ts 5=.i k) x.ev.bK.length
    ⟨0,Om,rfl,hx,rfl,Sn,(Sq t1),(Sq t3),gX⟩ ?_
   clear t1 t3 t4 hlen hlt hi e3 e4 hk le lf hx;clear ts k h';rintro _ ts h' ⟨k,hk,rfl,hx,hi,hlen,t1,t3,t5⟩;have le:∀{kk n a},Ext h' kk->ao n (.ptr h.length a) (λz=>kk[z]?)=dO n a (.b x.row):=λ{_ _ _} e=>aA ((hx.trans e).some me)
   have lf:∀{kk n a},Ext h' kk->ao n (.ptr fb a) (λz=>kk[z]?)=dO n a (.b [AV.str (yG d),.i (bQ d:Int),.bool true]):=λ{_ _ _} e=>aA ((hx.trans e).some mf)
   by_cases hlt:k<x.ev.bK.length
   ·have e3:decide ((k:Int)<bQ d)=true:=aaj Om;have e5:=wrapN (n:=k) Om;have ix:=o.v.dK (kk:=.i64) hlt;have ld:∀{kk:ah},Ext h' kk->ao none (cT x.sv 1 k) (λb=>kk[b]?)=some (.i x.ev.bK[k],.ar):=λ{kk} e=>o.v.jS hlt rfl ((T4.trans hx).trans e)
    have XP:x.ev.bK.drop k=x.ev.bK[k]::x.ev.bK.drop (k+1):=Si
    rw[XP,acJ]at hi;obtain⟨y,hy⟩:∃y,y=x.ev.bK[k]:=⟨_,rfl⟩;rw[<-hy]at ld hi;refine Rs (A9 t1 t3 t5 @le @lf e3 @aW ix @ld) ?_;refine WF.ce T.c20 (r20 T _ _ _) λg3=>?_
    cases hny:decide (bG y 0 999999999≠0)with
    |true=>
     rw[hny]at hi;have hi:x.ev.bK.any (λn=>decide (bG n 0 999999999≠0))=true:=hi;refine Rs (A3 t1 t3 t5) ?_;refine⟨(T4.trans hx).trans Xx,?_⟩;rw[aas hi]
    |false=>
     rw[hny]at hi;refine Rs (A4 t1 t3 t5 e5) ?_;exact Lg
   ·have e3:decide ((k:Int)<bQ d)=false:=aaf Om;have e4:k=x.ev.bK.length:=Om
    have hi0:x.ev.bK.any (λn=>decide (bG n 0 999999999≠0))=false:=by rw[hi,e4,abh];rfl
    rw[aao (by rw[hi0];decide)];by_cases ht:x.ev.text=[]
    ·have q:decide (x.ev.text≠[])=false:=aaf (λz=>z ht);refine Rs (A8 t1 t3 t5 @lf @le e3 @y7 q) ?_;refine⟨T4.trans hx,?_⟩;rw[aao (λz=>z ht)]
    ·have q:decide (x.ev.text≠[])=true:=aaj ht;refine Rs (A8 t1 t3 t5 @lf @le e3 @y7 q) ?_;refine⟨T4.trans hx,?_⟩;rw[aas ht]
end
def ET(R:fN)(e:cQ):List (Nat×Bool)->Bool
 |[]=>false
 |r::_=>!r.2&&ez R r.1 (aO e 0)
def Ds{R e d}:lO d R e=if nC R e (aM d) 0 then 10 else bX (ET R e (aM d)) 9:=by
 have:rE R e (aM d) 0=ET R e (aM d):=by cases d<;>simp[aM,rE,ET]
 rw[lO,this];rfl
def BI:∀r:Nat×Bool,r.1<6->r.2=false->IntKind.u8.wrap (IntKind.u8.wrap (((lR r).toNat:Int)+97)-65)=((lR (r.1,true)).toNat:Int)
 |(0,false),_,_=>rfl
 |(1,false),_,_=>rfl
 |(2,false),_,_=>rfl
 |(3,false),_,_=>rfl
 |(4,false),_,_=>rfl
 |(5,false),_,_=>rfl
section
variable {P:Program}(T:eD P) {h:ah}
include T
def Te{V}(o:aC h V)(l:eP V)(n:By):ay P 195 [.agg V.row,.int .u8 ((lR (0,true)).toNat:Int),.str n] h (λv _=>∃i,v=.i i/\decide (0<=i)=ez V.an 0 n):=by
 refine .oh 36 T.mix T.c195 ?_;intro ts hlen t0 t1 t2;unfold fn195 gA;have To:=@aC.box _ _ o;have q0:decide (((lR (0,true)).toNat:Int)=108)=true:=rfl;refine Rs (A6 t0 t1 t2 @To q0 @aE) ?_;refine WF.ce T.c28 (r28 T (o.ext Xx) l n) λg1=>?_
 refine Rs t0 ?_;exact⟨_,rfl,fR (f:=λy:iO=>y.name)⟩
def Td{V}(o:aC h V)(l:eP V)(n:By):ay P 195 [.agg V.row,.int .u8 ((lR (1,true)).toNat:Int),.str n] h (λv _=>∃i,v=.i i/\decide (0<=i)=ez V.an 1 n):=by
 refine .oh 36 T.mix T.c195 ?_;intro ts hlen t0 t1 t2;unfold fn195 gA;have To:=@aC.box _ _ o;have q0:decide (((lR (1,true)).toNat:Int)=108)=false:=rfl;have q1:decide (((lR (1,true)).toNat:Int)=116)=true:=rfl;refine Rs (A7 t0 t1 t2 @To q0 q1 @aE) ?_;refine WF.ce T.c141 (r141 T (o.ext Xx) l n) λg1=>?_
 refine Rs t0 ?_;exact⟨_,rfl,fR (f:=λy:tv=>y.name)⟩
def Tc{V}(o:aC h V)(l:eP V)(n:By):ay P 195 [.agg V.row,.int .u8 ((lR (2,true)).toNat:Int),.str n] h (λv _=>∃i,v=.i i/\decide (0<=i)=ez V.an 2 n):=by
 refine .oh 36 T.mix T.c195 ?_;intro ts hlen t0 t1 t2;unfold fn195 gA;have To:=@aC.box _ _ o;have q0:decide (((lR (2,true)).toNat:Int)=108)=false:=rfl;have q1:decide (((lR (2,true)).toNat:Int)=116)=false:=rfl;have q2:decide (((lR (2,true)).toNat:Int)=115)=true:=rfl;refine Rs (A8 t0 t1 t2 @To q0 q1 q2 @aE) ?_;refine WF.ce T.c22 (r22 T (o.ext Xx) l n) λg1=>?_
 refine Rs t0 ?_;refine⟨_,rfl,(fR (f:=λy:kr×AV=>y.1.name)).trans ?_⟩;rw[<-kE];rfl
def Tb{V}(o:aC h V)(l:eP V)(n:By):ay P 195 [.agg V.row,.int .u8 ((lR (3,true)).toNat:Int),.str n] h (λv _=>∃i,v=.i i/\decide (0<=i)=ez V.an 3 n):=by
 refine .oh 36 T.mix T.c195 ?_;intro ts hlen t0 t1 t2;unfold fn195 gA;have To:=@aC.box _ _ o;have q0:decide (((lR (3,true)).toNat:Int)=108)=false:=rfl;have q1:decide (((lR (3,true)).toNat:Int)=116)=false:=rfl;have q2:decide (((lR (3,true)).toNat:Int)=115)=false:=rfl;have q3:decide (((lR (3,true)).toNat:Int)=109)=true:=rfl;refine Rs (A9 t0 t1 t2 @To q0 q1 q2 q3 @aE) ?_;refine WF.ce T.c55 (r55 T (o.ext Xx) l n) λg1=>?_
 refine Rs t0 ?_;refine⟨_,rfl,(fR (f:=λy:iL×AV=>y.1.name)).trans ?_⟩;rw[<-iR];rfl
def Ta{V}(o:aC h V)(l:eP V)(n:By):ay P 195 [.agg V.row,.int .u8 ((lR (4,true)).toNat:Int),.str n] h (λv _=>∃i,v=.i i/\decide (0<=i)=ez V.an 4 n):=by
 refine .oh 36 T.mix T.c195 ?_;intro ts hlen t0 t1 t2;unfold fn195 gA;have To:=@aC.box _ _ o;have q0:decide (((lR (4,true)).toNat:Int)=108)=false:=rfl;have q1:decide (((lR (4,true)).toNat:Int)=116)=false:=rfl;have q2:decide (((lR (4,true)).toNat:Int)=115)=false:=rfl;have q3:decide (((lR (4,true)).toNat:Int)=109)=false:=rfl;have q4:decide (((lR (4,true)).toNat:Int)=106)=true:=rfl;refine Rs (mE t0 t1 t2 @To q0 q1 q2 q3 q4 @aE) ?_;refine WF.ce T.c56 (r56 T (o.ext Xx) l n) λg1=>?_
 refine Rs t0 ?_;refine⟨_,rfl,(fR (f:=λy:lP×AV=>y.1.name)).trans ?_⟩;rw[<-iS];rfl
def S9{V}(o:aC h V)(l:eP V)(n:By):ay P 195 [.agg V.row,.int .u8 ((lR (5,true)).toNat:Int),.str n] h (λv _=>∃i,v=.i i/\decide (0<=i)=ez V.an 5 n):=by
 refine .oh 36 T.mix T.c195 ?_;intro ts hlen t0 t1 t2;unfold fn195 gA;have To:=@aC.box _ _ o;have q0:decide (((lR (5,true)).toNat:Int)=108)=false:=rfl;have q1:decide (((lR (5,true)).toNat:Int)=116)=false:=rfl;have q2:decide (((lR (5,true)).toNat:Int)=115)=false:=rfl;have q3:decide (((lR (5,true)).toNat:Int)=109)=false:=rfl;have q4:decide (((lR (5,true)).toNat:Int)=106)=false:=rfl;refine Rs (mE t0 t1 t2 @To q0 q1 q2 q3 q4 @aE) ?_;refine WF.ce T.c57 (r57 T (o.ext Xx) l n) λg1=>?_
 refine Rs t0 ?_;exact⟨_,rfl,fR (f:=λy:qR=>y.name)⟩
def r195{V}(o:aC h V)(l:eP V){t}(ht:t<6)(n:By):ay P 195 [.agg V.row,.int .u8 ((lR (t,true)).toNat:Int),.str n] h (λv _=>∃i,v=.i i/\decide (0<=i)=ez V.an t n):=by
 match t,ht with
 | 0,_=>exact Te T o l n
 | 1,_=>exact Td T o l n
 | 2,_=>exact Tc T o l n
 | 3,_=>exact Tb T o l n
 | 4,_=>exact Ta T o l n
 | 5,_=>exact S9 T o l n
def r223{V x d}(o:aC h V)(l:eP V)(ox:bd h x)(wx:jf x.ev d):ay P 223 [.agg V.row,.agg x.row] h (λv _=>v=.i (lO d V.an x.ev)):=by
 refine .eQ 55 T.mix T.c223 ?_;intro ts hlen t0 t1;unfold fn223;have To:=@aC.box _ _ o;have hex:=@bd.box _ _ ox;refine Rs (A5 t0 t1 @To @hex @bB) ?_;refine WF.ce T.c101 (r101 T _) λg1=>?_
 unfold Ak;rw[wx.kd];obtain⟨L,hL⟩:∃L,L=aM d:=⟨_,rfl⟩;have hnl:x.ev.names.length=L.length:=by rw[hL];exact wx.nl
 have XU:L.length<=3:=by rw[hL];cases d<;>decide
 have Zh:∀r∈L,r.1<6:=by rw[hL];exact Fv d
 have UC:(yG d).length=L.length:=by rw[yG,aak,hL]
 refine Rs (A2 t0 t1) ?_;obtain⟨H,hH⟩:∃H,H=h++[ak.b V.row]++[ak.b x.row]++g1:=⟨_,rfl⟩;obtain⟨eb,heb⟩:∃eb,eb=(h++[ak.b V.row]).length:=⟨_,rfl⟩;have T4:Ext h H:=by rw[hH];exact Xx
 have mr:H[h.length]? =some (.b V.row):=by rw[hH];exact(show Ext (h++[ak.b V.row]) _ from Xx).some ba
 have me:H[eb]? =some (.b x.row):=by rw[hH,heb];exact(show Ext (h++[ak.b V.row]++[ak.b x.row]) _ from Xx).some ba
 rw[<-hH,<-heb];have V5:∀(i:Nat) (hi:i<L.length),aZ 1 x.sn (.i (i:Int))=some (cT x.sn 1 i,.ar):=λi hi=>ox.n.dK Om
 have hld:∀(i:Nat) (hi:i<L.length) (k':ah),Ext h k'->ao none (cT x.sn 1 i) (λb=>k'[b]?)=some (.str (aO x.ev i),.ar):=λi hi k' e=>by
  exact Sb
 have hixs:∀(i:Nat) (hi:i<L.length),xC (.str (yG d)) (.i (i:Int))=some (.int .u8 ((lR L[i]).toNat:Int)):=λi hi=>by
  have hi':i<(yG d).length:=Om
  rw[jN hi'];have:(yG d)[i]=lR L[i]:=by simp only[yG,hL,abn]
  rw[this]
 refine WL.inv T.mix (λm ts h'=>∃k:Nat,k<=L.length/\m=L.length-k/\Ext H h'/\nC V.an x.ev L 0=nC V.an x.ev (L.drop k) k/\ts.length=55/\slot ts 2=.ptr h.length 0/\slot ts 3=.ptr eb 0/\slot ts 5=.str (yG d)/\slot ts 6=.i k) L.length
  ⟨0,Om,rfl,.refl _,rfl,Sn,Sw,Sw,Sw,gX⟩ ?_
 clear t0 t1 hlen To hex;clear ts;rintro _ ts h' ⟨k,hk,rfl,hx,hu,hlen,t2,t3,t5,t6⟩;have le:∀{kk n a},Ext h' kk->ao n (.ptr eb a) (λz=>kk[z]?)=dO n a (.b x.row):=λ{_ _ _} e=>aA ((hx.trans e).some me)
 have lr:∀{kk n a},Ext h' kk->ao n (.ptr h.length a) (λz=>kk[z]?)=dO n a (.b V.row):=λ{_ _ _} e=>aA ((hx.trans e).some mr)
 by_cases hlt:k<L.length
 ·have e3:=eO hlt;have e5:=wrapN (n:=k) Om;have iy:=V5 k hlt;have ly:∀{k'},Ext h' k'->ao none (cT x.sn 1 k) (λb=>k'[b]?)=some (.str (aO x.ev k),.ar):=λ{k'} e=>hld k hlt k' ((T4.trans hx).trans e)
  have ii:=hixs k hlt;have hd:L.drop k=L[k]::L.drop (k+1):=Si
  obtain⟨r,Xu⟩:∃r,r=L[k]:=⟨_,rfl⟩;have Ya:r.1<6:=by rw[Xu];exact Zh _ (aat _)
  rw[hd,<-Xu,nC]at hu;rw[<-Xu]at ii;have qg:=C2 r Ya;cases UE:r.2 with
  |false=>
   rw[UE]at hu qg;refine Rs (A9 t2 t3 t5 t6 @UC e3 @ii @qg e5) ?_;exact Lj
  |true=>
   rw[UE]at hu qg;have er:r=(r.1,true):=by rw[<-UE]
   rw[er]at ii qg;refine Rs (B5 t2 t3 t5 t6 @UC e3 @ii @qg @le @lr @aE @aN @iy @ly) ?_;refine WF.res T.c195 (r195 T ((o.ext (T4.trans hx)).ext Xx) l Ya _) ?_;rintro _ g3 ⟨i,rfl,hi⟩;have qi:decide (i<0)= !ez V.an r.1 (aO x.ev k):=by rw[<-hi];by_cases h0:0<=i<;>simp[h0]<;>omega
   cases hh:ez V.an r.1 (aO x.ev k)with
   |true=>
    rw[hh]at hu qi;have qi:decide (i<0)=false:=qi;refine Rs (A6 t2 t3 t5 t6 @qi e5) ?_;exact Lj
   |false=>
    rw[hh]at hu qi;have qi:decide (i<0)=true:=qi;have hu1:nC V.an x.ev L 0=true:=by rw[hu];rfl
    refine Rs (A5 t2 t3 t5 t6 @qi) ?_;refine⟨(T4.trans hx).trans Xx,?_⟩;rw[Ds,<-hL,aas hu1]
 ·have e3:=fC hlt;have e4:k=L.length:=Om
  have Wo:nC V.an x.ev L 0=false:=by rw[hu,e4,abh];rfl
  have X6:=T4.trans hx;rw[Ds,<-hL,aao (by rw[Wo];decide)];refine Rs (A6 t2 t3 t5 t6 @UC e3) ?_;cases hLc:L with
  |nil=>
   have q0:decide ((0:Int)<(([] :List (Nat×Bool)).length:Int))=false:=rfl;refine Rs (A5 t2 t3 t5 t6 q0) ?_;exact⟨X6,rfl⟩
  |cons r rest=>
   rw[ET];have q0:decide ((0:Int)<((r::rest).length:Int))=true:=aaj (by simp only[aah];omega);have YB:0<L.length:=by rw[hLc];simp
   have ii:xC (.str (yG d)) (.i 0)=some (.int .u8 ((lR r).toNat:Int)):=by
    have:=hixs 0 YB;simp only[hLc,List.getElem_cons_zero]at this;exact this
   have Ya:r.1<6:=Zh r (by rw[hLc];simp);have qg:=C2 r Ya;have n7:aZ 1 x.sn (.i 0)=some (cT x.sn 1 0,.ar):=V5 0 YB;have ld0:∀{k':ah},Ext h' k'->ao none (cT x.sn 1 0) (λb=>k'[b]?)=some (.str (aO x.ev 0),.ar):=λ{k'} e=>hld 0 YB k' (X6.trans e)
   cases UE:r.2 with
   |true=>
    rw[UE]at qg;have qg2:decide (((lR r).toNat:Int)<97)=false:=aaf (by have:=abA qg;omega);refine Rs (A7 t2 t3 t5 t6 q0 @ii @qg2) ?_;exact⟨X6,rfl⟩
   |false=>
    rw[UE]at qg;have qg2:decide (((lR r).toNat:Int)<97)=true:=aaj (by have:=of_decide_eq_false qg;omega);have ew:=BI r Ya UE;refine Rs (B5 t2 t3 t5 t6 q0 @ii @qg2 @le @lr @aE @aN @n7 @ld0 @ew) ?_;refine WF.res T.c195 (r195 T (o.ext X6) l Ya _) ?_;rintro _ g3 ⟨i,rfl,hi⟩;cases hh:ez V.an r.1 (aO x.ev 0)with
    |true=>
     exact z156
    |false=>
     exact z156
end
section
variable {P:Program}(T:eD P) {h:ah}
include T
def r84{V}(o:aC h V)(l:eP V){n}(hn:n∈ke V.an)(t:Int):ay P 84 [.agg V.row,.str n,.i t] h (λv _=>v=.bool (jY V.an t n)):=by
 refine .oh 17 T.mix T.c84 ?_;intro ts hlen t0 t1 t2;unfold fn84;have To:=@aC.box _ _ o;have hlt:=c8 hn;have TQ:bo (ke V.an) n<V.aG.length:=by simpa [ke,RV.an]using hlt
 have ix:aZ 2 V.s1 (.i ((bo (ke V.an) n:Nat):Int))=some (cT V.s1 2 (bo (ke V.an) n),.ar):=o.i1.dK TQ;have ev:jX V.an n=V.aG[bo (ke V.an) n]:=dB (f:=tv.name) (l:=V.aG) hn;have ld:∀{k':ah},Ext h k'->ao none (j9 V.s1 2 (bo (ke V.an) n) 1) (λb=>k'[b]?)=some (.i (jX V.an n).last,.ar):=λ{k'} e=>by
  rw[ev];exact o.i1.mi TQ rfl e
 refine Rs (A6 t0 t1 t2 @To @lZ @aE) ?_;refine WF.ce T.c141 (r141 T (o.ext Xx) l n) λg1=>?_
 have ei:dt (λy:tv=>decide (y.name=n)) V.aG=(bo (ke V.an) n:Int):=fo (f:=λy:tv=>y.name) hn;rw[ei];refine Rs (A5 t0 t1 t2 ix @ld) ?_;rfl
def r23{V}(o:aC h V)(l:eP V){x}(hx:aI h x.2 1 (x.1.aG.map aq))(hl:x.1.aG.length<2^30)(hk:∀n∈x.1.aG,n∈ke V.an)(t:Int):
  ay P 23 [.agg V.row,.agg (bj x),.i t] h (λv _=>v=.bool (jg V.an x.1 t)):=by
 refine .oh 23 T.mix T.c23 ?_;intro ts hlen t0 t1 t2;unfold fn23 gA;have To:=@aC.box _ _ o;have ox:=hx.one;unfold bj at t1;refine Rs (A5 t0 t1 t2 @To @ox) ?_;obtain⟨H,hH⟩:∃H,H=h++[ak.b V.row]++[ak.b [AV.str x.1.name,.str x.1.line,x.2]]:=⟨_,rfl⟩;obtain⟨sb,hsb⟩:∃sb,sb=(h++[ak.b V.row]).length:=⟨_,rfl⟩;have T4:Ext h H:=by rw[hH];exact Xx
 have mr:H[h.length]? =some (.b V.row):=by rw[hH];exact(show Ext (h++[ak.b V.row]) _ from Xx).some ba
 have ms:H[sb]? =some (.b [AV.str x.1.name,.str x.1.line,x.2]):=by rw[hH,hsb];exact ba
 rw[<-hH,<-hsb];refine WL.inv T.mix (λn ts h'=>∃k:Nat,k<=x.1.aG.length/\n=x.1.aG.length-k/\Ext H h'/\jg V.an x.1 t=(x.1.aG.drop k).any (jY V.an t)/\
   ts.length=23/\slot ts 2=.i t/\slot ts 3=.ptr h.length 0/\slot ts 4=.ptr sb 0/\slot ts 7=.i k) x.1.aG.length
  ⟨0,Om,rfl,.refl _,rfl,Sn,(Sq t2),Sw,Sw,gX⟩ ?_
 rintro _ ts h' ⟨k,Tr,rfl,he,hi,hlen,t2,t3,t4,t7⟩;have lr:∀{kk n a},Ext h' kk->ao n (.ptr h.length a) (λz=>kk[z]?)=dO n a (.b V.row):=λ{_ _ _} e=>aA ((he.trans e).some mr)
 have ls:∀{kk n a},Ext h' kk->ao n (.ptr sb a) (λz=>kk[z]?)=dO n a (.b [AV.str x.1.name,.str x.1.line,x.2]):=λ{_ _ _} e=>aA ((he.trans e).some ms)
 by_cases hlt:k<x.1.aG.length
 ·have e3:=eO hlt;have e5:=wrapN (n:=k) Om;have ix:=hx.dK (kk:=.i64) hlt;have hd:x.1.aG.drop k=x.1.aG[k]::x.1.aG.drop (k+1):=Si
  have hm:=hk x.1.aG[k] (aat _);have ld:∀{kk:ah},Ext h' kk->ao none (cT x.2 1 k) (λb=>kk[b]?)=some (.str x.1.aG[k],.ar):=λ{kk} e=>hx.jS hlt rfl ((T4.trans he).trans e)
  rw[hd,acJ]at hi;obtain⟨y,hy⟩:∃y,y=x.1.aG[k]:=⟨_,rfl⟩;rw[<-hy]at ld hi hm;refine Rs (n6 t2 t3 t4 t7 @ls @lr hx.aK e3 ix @ld @aE) ?_;refine WF.ce T.c84 (r84 T ((o.ext (T4.trans he)).ext Xx) l hm t) λg3=>?_
  cases hr:jY V.an t y with
  |true=>
   rw[hr]at hi;refine Rs (A4 t2 t3 t4 t7) ?_;refine⟨(T4.trans he).trans Xx,?_⟩;rw[hi];rfl
  |false=>
   rw[hr]at hi;refine Rs (A5 t2 t3 t4 t7 e5) ?_;exact⟨_,Om,k+1,Om,rfl,he.trans Xx,hi,rfl⟩
 ·have e3:=fC hlt;have e4:k=x.1.aG.length:=Om
  refine Rs (A7 t2 t3 t4 t7 @ls hx.aK e3) ?_;refine⟨T4.trans he,?_⟩;rw[hi,e4,abh];rfl
end
def any_eq{α:Type}{p:α->Bool}{L:List α}{k:Nat}(hlt:k<L.length):(L.drop k).any p=(p L[k]||(L.drop (k+1)).any p):=by
 have hd:L.drop k=L[k]::L.drop (k+1):=Si
 rw[hd,acJ]
section
variable {P:Program}(T:eD P) {h:ah}
include T
def r263(n:Int):ay P 263 [.i n] h (λv _=>v=.dQ [.str (nD n),.str (ki n)]):=by
 refine .lI 11 T.mix T.c263 ?_;intro ts hlen t0;unfold fn263 gA;by_cases h1:n=1
 ·have q1:decide (n=1)=true:=aaj h1;refine Rs (A2 t0 q1) ?_;subst h1;rfl
 have q1:decide (n=1)=false:=aaf h1;by_cases h2:n=2
 ·have q2:decide (n=2)=true:=aaj h2;refine Rs (A3 t0 q1 q2) ?_;subst h2;rfl
 have q2:decide (n=2)=false:=aaf h2;by_cases h3:n=3
 ·have q3:decide (n=3)=true:=aaj h3;refine Rs (A4 t0 q1 q2 q3) ?_;subst h3;rfl
 have q3:decide (n=3)=false:=aaf h3;refine Rs (A4 t0 q1 q2 q3) ?_;rw[nD,aao h1,aao h2,aao h3,ki,aao h1,aao h2];rfl
def r265{V:RV}(o:aC h V)(l:eP V)(n:By):ay P 265 [.agg V.row,.str n] h (λv _=>v=.bool (qL V.an n)):=by
 refine .eQ 21 T.mix T.c265 ?_;intro ts hlen t0 t1;unfold fn265 gA;have To:=@aC.box _ _ o;have hl:=l.l5;refine Rs (A3 t0 t1 @To) ?_;refine WL.inv T.mix (λm ts h'=>∃k:Nat,k<=V.aP.length/\m=V.aP.length-k/\h' =h++[ak.b V.row]/\qL V.an n=(V.aP.drop k).any (λp=>decide (p.DI=n))/\ts.length=21/\slot ts 1=.str n/\slot ts 2=.ptr h.length 0/\slot ts 5=.i k) V.aP.length
  ⟨0,Om,rfl,rfl,rfl,Sn,(Sq t1),Sw,gX⟩ ?_
 rintro _ ts _ ⟨k,hk,rfl,rfl,hi,hlen,t1,t2,t5⟩;have lb:∀{kk n a},Ext (h++[ak.b V.row]) kk->ao n (.ptr h.length a) (λz=>kk[z]?)=dO n a (.b V.row):=λ{_ _ _} e=>aA (e.some ba)
 by_cases hlt:k<V.aP.length
 ·have e3:=eO hlt;have ix:=o.i5.dK (kk:=.i64) hlt;have e5:=wrapN (n:=k) Om;rw[any_eq hlt]at hi;obtain⟨y,hy⟩:∃y,y=V.aP[k]:=⟨_,rfl⟩;have ld:∀{kk:ah},Ext h kk->ao none (j9 V.s5 4 k 1) (λb=>kk[b]?)=some (.str y.DI,.ar):=λ{kk} e=>o.i5.mi hlt (by rw[<-hy];rfl) e
  rw[<-hy]at hi;cases hp:decide (y.DI=n)with
  |true=>
   rw[hp]at hi;refine Rs (mE t1 t2 t5 @lb @iP o.i5.aK e3 ix @ld @hp) ?_;rw[hi];rfl
  |false=>
   rw[hp]at hi;refine Rs (n6 t1 t2 t5 @lb @iP o.i5.aK e3 ix @ld @hp e5) ?_;exact⟨_,Om,k+1,Om,rfl,hi,rfl⟩
 ·have e3:=fC hlt;have e4:k=V.aP.length:=Om
  refine Rs (A7 t1 t2 t5 @lb @iP o.i5.aK e3) ?_;rw[hi,e4,abh];rfl
def r264{V}(o:aC h V)(l:eP V){n}(hn:n∈iH V.an):ay P 264 [.agg V.row,.str n] h (λv _=>v=.str (iw V.an n).gives):=by
 refine .eQ 13 T.mix T.c264 ?_;intro ts hlen t0 t1;unfold fn264;have To:=@aC.box _ _ o;have hlt:=c8 hn;have TQ:bo (iH V.an) n<V.aD.length:=by simpa [iH,RV.an]using hlt
 have ix:aZ 4 V.s3 (.i ((bo (iH V.an) n:Nat):Int))=some (cT V.s3 4 (bo (iH V.an) n),.ar):=o.i3.dK TQ;have ev:iw V.an n=(V.aD[bo (iH V.an) n]).1:=by
  rw[iw,dB (f:=iL.name) (l:=V.an.aD) (d:=Dq) hn];exact EN
 have ld:∀{k':ah},Ext h k'->ao none (j9 V.s3 4 (bo (iH V.an) n) 1) (λb=>k'[b]?)=some (.str (iw V.an n).gives,.ar):=λ{k'} e=>by
  rw[ev];exact o.i3.mi TQ rfl e
 refine Rs (A5 t0 t1 @To @gh @aE) ?_;refine WF.ce T.c55 (r55 T (o.ext Xx) l n) λg1=>?_
 have ei:dt (λy:iL×AV=>decide (y.1.name=n)) V.aD=(bo (iH V.an) n:Int):=by
  rw[iR];exact fo (f:=λy:iL×AV=>y.1.name) (by rw[<-iR];exact hn)
 exact EO
def r31{s l}(hs:aI h s 1 (l.map aH))(hl:l.length<2^30)(hb:∀s∈l,-1<=s/\s<=999999999):ay P 31 [s] h (λv _=>v=.i (gC l)):=by
 refine .lI 20 T.mix T.c31 ?_;intro ts hlen t0;unfold fn31 gA;refine Rs t0 ?_;refine WL.inv T.mix (λn ts h'=>∃k:Nat,k<=l.length/\n=l.length-k/\h' =h/\ts.length=20/\slot ts 0=s/\slot ts 3=.i (gC (l.take k))/\slot ts 4=.i k) l.length
  ⟨0,Om,rfl,rfl,Sn,(Sq t0),gX,gX⟩ ?_
 rintro _ ts h' ⟨k,hk,rfl,rfl,hlen,t0,t3,t4⟩;by_cases hlt:k<l.length
 ·have e3:=eO hlt;have e5:=wrapN (n:=k) Om;have ix:=hs.dK (kk:=.i64) hlt;have ld:=hs.jS (i:=k) (x:=.i l[k]) hlt rfl (Ext.refl _);have hd:=vu (l.take k) 1 (λs hs=>hb s (abc hs)) De De;have VE:=hb _ (aat hlt);have TW:-16777213<gC (l.take k)/\gC (l.take k)<16777213:=hd;have w1:IntKind.i64.wrap (257*gC (l.take k))=257*gC (l.take k):=aY Om Om;have w2:IntKind.i64.wrap (257*gC (l.take k)+l[k])=257*gC (l.take k)+l[k]:=aY Om Om;have er:=jw (k:=.i64) (a:=257*gC (l.take k)+l[k]) (b:=16777213) De;have TI:gC (l.take (k+1))=(257*gC (l.take k)+l[k]).tmod 16777213:=by
   exact z154
  rw[<-TI]at er;refine Rs (n6 t0 t3 t4 hs.aK e3 ix @ld @w1 @w2 @er e5) ?_;exact⟨_,Om,k+1,Om,rfl,rfl,rfl⟩
 ·have e3:=fC hlt;have e4:k=l.length:=Om
  refine Rs (A5 t0 t3 t4 hs.aK e3) ?_;rw[e4,aaS]
def r60{x}(hx:aI h x.2 1 (x.1.bu.map aH))(hl:x.1.bu.length<2^30):ay P 60 [.agg (bS x)] h (λv h'=>aI h' v 1 ((cY x.1.bu 0).map aH)):=by
 refine .lI 23 T.mix T.c60 ?_;intro ts hlen t0;unfold fn60 gA;have ox:=hx.one;unfold bS at t0;refine Rs (A2 t0 @ox) ?_;obtain⟨H0,XW⟩:∃H0,H0=h++[ak.b [AV.str x.1.name,.str x.1.mod,x.2]]:=⟨_,rfl⟩;have e0:Ext h H0:=by rw[XW];exact Xx
 have lb:∀{k n a},Ext H0 k->ao n (.ptr h.length a) (λz=>k[z]?)=dO n a (.b [AV.str x.1.name,.str x.1.mod,x.2]):=λ{_ _ _} e=>aA (e.some (by rw[XW];exact ba))
 rw[<-XW];refine WL.inv T.mix (λn ts h'=>∃(k:Nat) (out:AV),k<=x.1.bu.length/\n=x.1.bu.length-k/\Ext H0 h'/\Fr H0.length h' out 1 ((cY (x.1.bu.take k) 0).map aH)/\
   ts.length=23/\slot ts 1=.ptr h.length 0/\slot ts 3=out/\slot ts 4=.i k) x.1.bu.length
  ⟨0,.af,Om,rfl,Ext.refl _,.nil,Sn,(Sq t0),(Sq t0),gX⟩ ?_
 rintro _ ts _ ⟨k,out,hk',rfl,⟨g,rfl⟩,hfr,hlen,t1,t3,t4⟩;by_cases hlt:k<x.1.bu.length
 ·have e3:=eO hlt;have ix:=hx.dK (kk:=.i64) hlt;have ld:∀{k':ah},Ext H0 k'->ao none (cT x.2 1 k) (λb=>k'[b]?)=some (.i x.1.bu[k],.ar):=λ{k'} e=>hx.jS hlt rfl (e0.trans e)
  have e5:=wrapN (n:=k) Om;have TI:cY (x.1.bu.take (k+1)) 0=cY (x.1.bu.take k) 0++(if x.1.bu[k]<0 then [(k:Int)]else []):=by
   exact z93
  by_cases hn:x.1.bu[k]<0
  ·have q:decide (x.1.bu[k]<0)=true:=aaj hn;rw[aas hn]at TI;refine Rs (A9 t1 t3 t4 @lb hx.aK e3 ix @ld q) ?_;have Ve:=kF (l:=x.1.bu.take k) (i:=0);refine WR.ga (h0:=H0) (cs:=(cY (x.1.bu.take k) 0).map aH) (ys:=[aH (k:Int)]) (hfr.app _) (Fr.push (N:=0) (aaQ _) [aH (k:Int)] Si).aT De Si (by simp only[aak,aaZ,aah,aal]at Ve ⊢;omega) Xx ?_;intro g' TB hff hkp;have hrow:(cY (x.1.bu.take k) 0).map aH++[aH (k:Int)]=(cY (x.1.bu.take (k+1)) 0).map aH:=by rw[TI,aap];rfl
   rw[hrow]at hff;rw[hrow];refine Rs (A4 t1 t3 t4 e5) ?_;exact z49
  ·have q:decide (x.1.bu[k]<0)=false:=aaf hn;rw[aao hn,aaF]at TI;refine Rs (mE t1 t3 t4 @lb hx.aK e3 ix @ld q e5) ?_;refine⟨_,Om,k+1,out,Om,rfl,?_,rfl,rfl⟩;rw[TI];exact hfr
 ·have e3:=fC hlt;have e4:k=x.1.bu.length:=Om
  refine Rs (A6 t1 t3 t4 @lb hx.aK e3) ?_;rw[e4,aaS]at hfr;exact⟨e0.trans Xx,hfr.aT⟩
def r127{V:RV}(o:aC h V)(l:eP V){M:List (By)}{s:AV}(hs:aI h s 1 (M.map aq))(hM:M.length<2^40):ay P 127 [.agg V.row,s] h (λv h'=>aI h' v 1 (((V.an.aj.filter λx=>decide (x.line∈M)).map kr.name).map aq)):=by
 refine .eQ 32 T.mix T.c127 ?_;intro ts hlen t0 t1;unfold fn127 gA;have To:=@aC.box _ _ o;refine Rs (A3 t0 t1 @To) ?_;obtain⟨H,hH⟩:∃H,H=h++[ak.b V.row]:=⟨_,rfl⟩;have T4:Ext h H:=by rw[hH];exact Xx
 have mr:H[h.length]? =some (.b V.row):=by rw[hH];exact ba
 rw[<-hH];have eu:(V.an.aj.filter λx=>decide (x.line∈M)).map kr.name=(V.aj.filter λx=>decide (x.1.line∈M)).map λx=>x.1.name:=by
  simp only[RV.an,acn,abQ];rfl
 rw[eu];refine WL.inv T.mix (λn ts h'=>∃(k:Nat) (out:AV),k<=V.aj.length/\n=V.aj.length-k/\Ext H h'/\Fr H.length h' out 1 ((((V.aj.take k).filter λx=>decide (x.1.line∈M)).map λx=>x.1.name).map aq)/\
   ts.length=32/\slot ts 1=s/\slot ts 2=.ptr h.length 0/\slot ts 5=out/\slot ts 6=.i k) V.aj.length
  ⟨0,.af,Om,rfl,.refl _,.nil,Sn,(Sq t1),Sw,Sw,gX⟩ ?_
 rintro _ ts h' ⟨k,out,Tr,rfl,⟨g,rfl⟩,hfr,hlen,t1,t2,t5,t6⟩;have he:Ext H (H++g):=⟨_,rfl⟩;have lr:∀{kk n a},Ext (H++g) kk->ao n (.ptr h.length a) (λz=>kk[z]?)=dO n a (.b V.row):=λ{_ _ _} e=>aA ((he.trans e).some mr)
 have Ve:=l.l2;by_cases hlt:k<V.aj.length
 ·have e3:=eO hlt;have e5:=wrapN (n:=k) Om;have ix:=o.i2.dK (kk:=.i64) hlt;obtain⟨y,hy⟩:∃y,y=V.aj[k]:=⟨_,rfl⟩;have lf:∀{kk:ah},Ext (H++g) kk->ao none (j9 V.s2 3 k 0) (λb=>kk[b]?)=some (.str y.1.name,.ar):=λ{kk} e=>o.i2.mi hlt (by rw[<-hy];rfl) ((T4.trans he).trans e)
  have lg:∀{kk:ah},Ext (H++g) kk->ao none (j9 V.s2 3 k 1) (λb=>kk[b]?)=some (.str y.1.line,.ar):=λ{kk} e=>o.i2.mi hlt (by rw[<-hy];rfl) ((T4.trans he).trans e)
  have TI:V.aj.take (k+1)=V.aj.take k++[y]:=by rw[hy,aa1,aai hlt];rfl
  refine Rs (mE t1 t2 t5 t6 @lr @fU o.i2.aK e3 ix @lg) ?_;refine WF.ce T.c35 (r35 T (hs.ext (T4.trans he)) hM _) λg3=>?_
  cases hd:decide (y.1.line∈M)with
  |false=>
   refine Rs (A5 t1 t2 t5 t6 e5) ?_;exact Sc
  |true=>
   refine Rs (A8 t1 t2 t5 t6 @lr @fU ix @lf) ?_;have T0:((V.aj.take k).filter λx=>decide (x.1.line∈M)).length<=V.aj.length:=aa5 (aa0 _ _) (by rw[aaZ];omega);refine WR.ga (h0:=H) (cs:=(((V.aj.take k).filter λx=>decide (x.1.line∈M)).map λx=>x.1.name).map aq) (ys:=[aq y.1.name]) ((hfr.app _).app _) (Fr.push (N:=0) (aaQ _) [aq y.1.name] (by simp[aq])).aT De Si (by simp only[aak,aah,aal];omega) (by rw[aae,aae];exact⟨_,rfl⟩) ?_;intro g' TB hff hkp;have hrow:(((V.aj.take k).filter λx=>decide (x.1.line∈M)).map λx=>x.1.name).map aq++[aq y.1.name]=(((V.aj.take (k+1)).filter λx=>decide (x.1.line∈M)).map λx=>x.1.name).map aq:=by
    exact O7
   rw[hrow]at hff;rw[hrow];refine Rs (A5 t1 t2 t5 t6 e5) ?_;exact z49
 ·have e3:=fC hlt;have e4:k=V.aj.length:=Om
  refine Rs (A8 t1 t2 t5 t6 @lr @fU o.i2.aK e3) ?_;rw[e4,aaS]at hfr;exact⟨T4.trans he,hfr.aT⟩
end
end Go.Abs
namespace Go.Abs
section
variable {P:Program}{ro:Option Nat->Prop}{ks:List Kt}{ts:TS}{Q:Ex->TS->ah->Prop}
def WR.GY{h s y es cs ys h0 w d l}
  (hs:Fr h0.length h s es cs) (hy:aI h y es ys) (hes:0<es) (dV:(cs.length+ys.length)*w<=2^46) (he:Ext h0 h)
  (K:∀s' g,Fr h0.length (h0++g) s' es (cs++ys)->(∀b,b<h.length->sB s≠some b->(h0++g)[b]? =h[b]?)->h.length<=(h0++g).length->WP P ro l ks (put ts d s') (h0++g) Q):
  WR P ro (qe es w s y (λb=>h[b]?) h.length) false d l ks ts h Q:=by
 by_cases hn:ys.length=0
 ·have hys:ys=[]:=abg.1 hn;subst hys;obtain⟨g,rfl⟩:=he;rw[aaF]at K;have e:qe es w s y (λb=>(h0++g)[b]?) (h0++g).length=some (s,.ar):=by
   simp only[qe,hy.fp];cases hs with
   |nil=>simp
   |mk hN hb h'=>simp
  rw[e,jz];exact K s g hs (λ_ _ _=>rfl) (aar _)
 ·refine WR.ga hs hy hes Om dV he λg h1 h2 h3=>K _ g h2 (λb hb hne=>h3 b hb λb0 o n e ZW hbb=>hne (by rw[ZW,hbb];rfl)) Om
end
def FN{R}(w:fM R){x}(hx:x∈R.aD):iw R x.name=x:=vj (f:=iL.name) w.n3.nd hx
def qx{m l x}:cS m (l++[x])=if x.name∈cS m l then cS m l++x.bp else cS m l:=by
 rw[cS,ack];rfl
def wS{m}:∀{l},(∀x∈l,x.bp.length<=2)->(cS m l).length<=1+2*l.length:=by
 intro l;have key:∀(l:List iL) (a:List (By)),(∀x∈l,x.bp.length<=2)->(l.foldl (λn x=>if x.name∈n then n++x.bp else n) a).length<=a.length+2*l.length:=by
  intro l
  induction l with
  |nil=>intro a _;simp
  |cons x l ih=>
   intro a hl;have h1:=hl x Si;have:=ih (if x.name∈a then a++x.bp else a) (λy hy=>hl y (aaP _ hy));rw[ab2];refine aa5 this ?_;split<;>simp only[aac,aah]<;>omega
 intro hl;exact key l [m] hl
set_option maxRecDepth 10000
attribute [local irreducible] WP WC WE WB WR WF WL WG eZ WM
section
variable {P:Program}(T:eD P) {h:ah}
include T
def r58{V}(o:aC h V)(w:fM V.an)(m:By):ay P 58 [.agg V.row,.str m] h (λv h'=>aI h' v 1 (((ni V.an m).map iL.name).map aq)):=by
 refine .eQ 60 T.mix T.c58 ?_;intro ts hlen t0 t1;unfold fn58 gA;have To:=@aC.box _ _ o;have l:=w.len;have hn32:V.aD.length<=32:=by have:=w.l3;simpa [RV.an]using this
 have hin:∀x∈V.an.aD,x.bp.length<=2:=λx hx=>(w.md x hx).2.1
 have hml:V.an.aD.length=V.aD.length:=by simp[RV.an]
 have ew:IntKind.i64.wrap ((V.aD.length:Int)-1)=(V.aD.length:Int)-1:=aY Om Om;have lb0:∀{kk n a},Ext (h++[ak.b V.row]) kk->ao n (.ptr h.length a) (λz=>kk[z]?)=dO n a (.b V.row):=λ{_ _ _} e=>aA (e.some ba)
 refine Rs (A7 t0 t1 @To @lb0 @gh o.i3.aK @ew) ?_;obtain⟨H,hH⟩:∃H,H=h++[ak.b V.row]:=⟨_,rfl⟩;have T4:Ext h H:=by rw[hH];exact Xx
 have mr:H[h.length]? =some (.b V.row):=by rw[hH];exact ba
 rw[<-hH];refine WL.inv T.mix (λn ts h'=>∃(k:Nat) (ws:AV),k<=V.aD.length/\n=V.aD.length-k/\Ext H h'/\aI h' ws 1 ((cS m (V.an.aD.reverse.take k)).map aq)/\
   ts.length=60/\slot ts 2=.ptr h.length 0/\slot ts 5=ws/\slot ts 6=.i ((V.aD.length:Int)-1-k)) V.aD.length
  ⟨0,.slice H.length 0 1 1,Om,rfl,⟨_,rfl⟩,(Fr.push (N:=0) (aaQ _) [aq m] (by simp[aq])).aT,Sn,Sw,Sw,(by simp only[aU,aX,bz,bA,reduceAdd,reduceMul,reduceLeDiff,reduceEqDiff,bC,hlen,aay,aaB];simp)⟩ ?_
 clear t0 t1 hlen lb0;clear ts;rintro _ ts h' ⟨k,ws,hk,rfl,⟨g,rfl⟩,VA,hlen,t2,t5,t6⟩;have he:Ext H (H++g):=⟨_,rfl⟩;have lr:∀{kk n a},Ext (H++g) kk->ao n (.ptr h.length a) (λz=>kk[z]?)=dO n a (.b V.row):=λ{_ _ _} e=>aA ((he.trans e).some mr)
 have hwl:=wS (m:=m) (l:=V.an.aD.reverse.take k) (λx hx=>hin x (List.mem_reverse.1 (abc hx)));have htl:(V.an.aD.reverse.take k).length<=32:=by rw[aaZ,acb];omega
 by_cases hlt:k<V.aD.length
 ·have hi:V.aD.length-1-k<V.aD.length:=Om
  have ei:(V.aD.length:Int)-1-k=((V.aD.length-1-k:Nat):Int):=Om
  have e3:decide (0<=(V.aD.length:Int)-1-k)=true:=aaj Om;have e5:IntKind.i64.wrap ((V.aD.length:Int)-1-k-1)=(V.aD.length:Int)-1-((k+1:Nat):Int):=by rw[aY Om Om];omega
  have ix:aZ 4 V.s3 (.i ((V.aD.length:Int)-1-k))=some (cT V.s3 4 (V.aD.length-1-k),.ar):=by rw[ei];exact o.i3.dK hi
  obtain⟨y,hy⟩:∃y,y=V.aD[V.aD.length-1-k]:=⟨_,rfl⟩;have ZP:y∈V.aD:=by rw[hy];exact aat _
  have ld:∀{kk:ah},Ext (H++g) kk->ao (some 4) (cT V.s3 4 (V.aD.length-1-k)) (λb=>kk[b]?)=some (.agg (aS y),.ar):=λ{kk} e=>by rw[hy];exact o.i3.lL hi ((T4.trans he).trans e)
  have TI:V.an.aD.reverse.take (k+1)=V.an.aD.reverse.take k++[y.1]:=by
   have hk':k<V.an.aD.reverse.length:=by rw[acb];omega
   rw[aa1,aai hk',List.getElem_reverse];simp only[RV.an,abn,aak,Option.toList_some,hy]
  have oy:=(o.e3 y ZP).one;have hy3:=o.e3 y ZP;unfold aS at ld;refine Rs (A9 t2 t5 t6 e3 @lr @gh ix @ld @oy) ?_;refine WF.ce T.c35 (r35 T (VA.ext Xx) Om _) λg3=>?_
  cases hd:decide (y.1.name∈cS m (V.an.aD.reverse.take k))with
  |false=>
   refine Rs (A4 t2 t5 t6 e5) ?_;refine⟨_,Om,k+1,ws,Om,rfl,?_,rfl,rfl⟩;rw[TI,qx,aao (of_decide_eq_false hd)];exact VA.ext Xx
  |true=>
   refine Rs (A3 t2 t5 t6) ?_;obtain⟨H1,Yk⟩:∃H1,H1=H++g++[ak.b [AV.str y.1.name,.str y.1.gives,.str y.1.line,y.2]]++g3:=⟨_,rfl⟩;obtain⟨bx,To⟩:∃bx,bx=(H++g).length:=⟨_,rfl⟩;have UM:Ext (H++g) H1:=by rw[Yk];exact Xx
   have mx:H1[bx]? =some (.b [AV.str y.1.name,.str y.1.gives,.str y.1.line,y.2]):=by rw[Yk,To];exact(show Ext (H++g++[ak.b [AV.str y.1.name,.str y.1.gives,.str y.1.line,y.2]]) _ from Xx).some ba
   have hbl:bx<H1.length:=(aad.1 mx).1;rw[<-Yk,<-To];refine pL (λh=>h[bx]? =some (.b [AV.str y.1.name,.str y.1.gives,.str y.1.line,y.2])) ?_;refine dm mx rfl rfl ?_;refine Rs t2 ?_;have x2:Ext H1 (H1++[ak.b []]):=⟨_,rfl⟩;have m2:(λh:ah=>h[bx]? =some (.b [AV.str y.1.name,.str y.1.gives,.str y.1.line,y.2])) (H1++[ak.b []]):=x2.some mx;refine dm m2 rfl rfl ?_;refine Rs (A2 t2 t5) ?_;refine dm m2 rfl rfl ?_;refine Rs (A2 t2 t5) ?_;refine WR.qQ (N:=H1.length) ba (aar _) (VA.ext (UM.trans x2)) (by simp only[aak];omega) λs' g5 hf5=>?_
   have x3:Ext H1 (H1++[ak.b []]++g5):=Xx;have m3:(λh:ah=>h[bx]? =some (.b [AV.str y.1.name,.str y.1.gives,.str y.1.line,y.2])) (H1++[ak.b []]++g5):=x3.some mx;refine Rs (A2 t2 t5) ?_;refine dm m3 rfl rfl ?_;refine Rs (A2 t2 t5) ?_;refine lM m3 (v:=y.2) (λz hz=>?_) ?_
   ·simp only[aU,aX,bz,bA,reduceAdd,reduceMul,reduceLeDiff,reduceEqDiff,bC,hlen,aay,aaB,t2,aA hz]
   refine Rs (A2 t2 t5) ?_;refine dm m3 rfl rfl ?_;refine Rs (A2 t2 t5) ?_;have Vi:y.1.bp.length<=2:=hin y.1 (aaH ZP);refine WR.GY (h0:=H1) (ys:=y.1.bp.map aq) hf5 (hy3.ext (((T4.trans he).trans UM).trans x3)) De (by simp only[aak];omega) x3 λs6 g6 hf6 hk6 hl6=>?_
   have m6:(λh:ah=>h[bx]? =some (.b [AV.str y.1.name,.str y.1.gives,.str y.1.line,y.2])) (H1++g6):=(Ext.app g6 (Ext.refl H1)).some mx;refine Rs (A2 t2 t5) ?_;refine pK m6 rfl ?_;refine Rs (A4 t2 t5 t6 e5) ?_;refine⟨_,Om,k+1,s6,Om,rfl,⟨_,by rw[Yk];simp only[aae];rfl⟩,?_,rfl,rfl⟩;rw[TI,qx,aas (abA hd),aap];exact hf6.aT
 ·have e3:decide (0<=(V.aD.length:Int)-1-k)=false:=aaf Om;have e4:k=V.aD.length:=Om
  refine Rs (A4 t2 t5 t6 e3) ?_;have hns:cS m (V.an.aD.reverse.take k)=cS m V.an.aD.reverse:=by rw[e4,<-hml,<-acb,aaS]
  rw[hns]at VA hwl;have eu:(ni V.an m).map iL.name=(V.aD.filter λx=>decide (x.1.name∈cS m V.an.aD.reverse)).map λx=>x.1.name:=by
   rw[<-pX,ji,abQ];rfl
  rw[eu];obtain⟨W,hW⟩:∃W,W=cS m V.an.aD.reverse:=⟨_,rfl⟩;rw[<-hW]at VA hwl ⊢;have hwl2:W.length<=65:=Om
  clear hwl;refine WL.inv T.mix (λn ts h'=>∃(k:Nat) (out:AV),k<=V.aD.length/\n=V.aD.length-k/\Ext (H++g) h'/\Fr (H++g).length h' out 1 ((((V.aD.take k).filter λx=>decide (x.1.name∈W)).map λx=>x.1.name).map aq)/\
    ts.length=60/\slot ts 2=.ptr h.length 0/\slot ts 5=ws/\slot ts 8=out/\slot ts 9=.i k) V.aD.length
   ⟨0,.af,Om,rfl,.refl _,.nil,Sn,(Sq t2),(Sq t5),Sw,gX⟩ ?_
  clear t2 t5 t6 hlen lr hlt e3 e4 hk htl hns;clear ts k;rintro _ ts _ ⟨k,out,Tr,rfl,⟨g2,rfl⟩,hfr,hlen,t2,t5,t8,t9⟩;have TA:Ext (H++g) (H++g++g2):=⟨_,rfl⟩;have lr:∀{kk n a},Ext (H++g++g2) kk->ao n (.ptr h.length a) (λz=>kk[z]?)=dO n a (.b V.row):=λ{_ _ _} e=>aA (((he.trans TA).trans e).some mr)
  by_cases hlt:k<V.aD.length
  ·have e3:=eO hlt;have e5:=wrapN (n:=k) Om;have ix:=o.i3.dK (kk:=.i64) hlt;obtain⟨y,hy⟩:∃y,y=V.aD[k]:=⟨_,rfl⟩;have lf:∀{kk:ah},Ext (H++g++g2) kk->ao none (j9 V.s3 4 k 0) (λb=>kk[b]?)=some (.str y.1.name,.ar):=λ{kk} e=>o.i3.mi hlt (by rw[<-hy];rfl) (((T4.trans he).trans TA).trans e)
   have TI:V.aD.take (k+1)=V.aD.take k++[y]:=by rw[hy,aa1,aai hlt];rfl
   refine Rs (mE t2 t5 t8 t9 @lr @gh o.i3.aK e3 ix @lf) ?_;refine WF.ce T.c35 (r35 T (VA.ext TA) Om _) λg3=>?_
   cases hd:decide (y.1.name∈W)with
   |false=>
    refine Rs (A5 t2 t5 t8 t9 e5) ?_;exact Sc
   |true=>
    refine Rs (A8 t2 t5 t8 t9 @lr @gh ix @lf) ?_;have T0:((V.aD.take k).filter λx=>decide (x.1.name∈W)).length<=V.aD.length:=aa5 (aa0 _ _) (by rw[aaZ];omega);refine WR.ga (h0:=H++g) (cs:=(((V.aD.take k).filter λx=>decide (x.1.name∈W)).map λx=>x.1.name).map aq) (ys:=[aq y.1.name]) ((hfr.app _).app _) (Fr.push (N:=0) (aaQ _) [aq y.1.name] (by simp[aq])).aT De Si (by simp only[aak,aah,aal];omega) (by rw[aae,aae];exact⟨_,rfl⟩) ?_;intro g' TB hff hkp;have hrow:(((V.aD.take k).filter λx=>decide (x.1.name∈W)).map λx=>x.1.name).map aq++[aq y.1.name]=(((V.aD.take (k+1)).filter λx=>decide (x.1.name∈W)).map λx=>x.1.name).map aq:=by
     exact O7
    rw[hrow]at hff;rw[hrow];refine Rs (A5 t2 t5 t8 t9 e5) ?_;exact z49
  ·have e3:=fC hlt;have e4:k=V.aD.length:=Om
   refine Rs (A8 t2 t5 t8 t9 @lr @gh o.i3.aK e3) ?_;rw[e4,aaS]at hfr;exact⟨(T4.trans he).trans TA,hfr.aT⟩
def r59{V}(o:aC h V)(w:fM V.an)(m:By):ay P 59 [.agg V.row,.str m] h (λv h'=>aI h' v 1 (((jn V.an m).map iO.name).map aq)):=by
 refine .eQ 64 T.mix T.c59 ?_;intro ts hlen t0 t1;unfold fn59 gA;have To:=@aC.box _ _ o;have l:=w.len;have hn32:V.aD.length<=32:=by have:=w.l3;simpa [RV.an]using this
 have hml:V.an.aD.length=V.aD.length:=by simp[RV.an]
 refine Rs (A4 t0 t1 @To @aE) ?_;refine WF.res T.c58 (r58 T (o.ext Xx) w m) ?_;rintro ns g0 hns;obtain⟨M,hM⟩:∃M,M=ni V.an m:=⟨_,rfl⟩;rw[<-hM]at hns;have hMm:∀x∈M,x∈V.an.aD:=λx hx=>by rw[hM]at hx;exact(abw.1 hx).1
 have hMl:M.length<=32:=by
  have h1:M.length<=V.an.aD.length:=by rw[hM];unfold ni;exact aa0 _ _
  omega
 obtain⟨H,hH⟩:∃H,H=h++[ak.b V.row]++g0:=⟨_,rfl⟩;have T4:Ext h H:=by rw[hH];exact Xx
 have mr:H[h.length]? =some (.b V.row):=by rw[hH];exact(show Ext (h++[ak.b V.row]) _ from Xx).some ba
 rw[<-hH]at hns ⊢;rw[abQ]at hns;refine Rs (A2 t0 t1) ?_;obtain⟨F,hF⟩:∃F:List iL->List (By),F=λl=>(l.filter λx=>decide (x.bp=[])).map iL.line:=⟨_,rfl⟩
 refine WL.inv T.mix (λn ts h'=>∃(k:Nat) (out:AV),k<=M.length/\n=M.length-k/\Ext H h'/\Fr H.length h' out 1 ((F (M.take k)).map aq)/\
   ts.length=64/\slot ts 2=.ptr h.length 0/\slot ts 5=ns/\slot ts 6=out/\slot ts 7=.af/\slot ts 8=.i k) M.length
  ⟨0,.af,Om,rfl,.refl _,(by rw[hF];exact .nil),Sn,Sw,Sw,Sw,Sw,gX⟩ ?_
 rintro _ ts _ ⟨k,out,hk,rfl,⟨g,rfl⟩,hfr,hlen,t2,t5,t6,t7,t8⟩;have he:Ext H (H++g):=⟨_,rfl⟩;have lr:∀{kk n a},Ext (H++g) kk->ao n (.ptr h.length a) (λz=>kk[z]?)=dO n a (.b V.row):=λ{_ _ _} e=>aA ((he.trans e).some mr)
 have hFl:∀j,(F (M.take j)).length<=M.length:=λj=>by
  rw[hF];simp only[aak];exact aa5 (aa0 _ _) (by rw[aaZ];omega)
 by_cases hlt:k<M.length
 ·have e3:=eO hlt;have e5:=wrapN (n:=k) Om;have ix:=hns.dK (kk:=.i64) hlt;obtain⟨x,hx⟩:∃x,x=M[k]:=⟨_,rfl⟩;have Uc:x∈V.an.aD:=hMm x (by rw[hx];exact aat _);have lf:∀{kk:ah},Ext (H++g) kk->ao none (cT ns 1 k) (λb=>kk[b]?)=some (.str x.name,.ar):=λ{kk} e=>hns.jS hlt (by rw[<-hx];rfl) (he.trans e)
  have Xz:x.name∈iH V.an:=aaH Uc;have hps:=c8 Xz;have VC:bo (iH V.an) x.name<V.aD.length:=by simpa [iH,RV.an]using hps
  have iy:aZ 4 V.s3 (.i ((bo (iH V.an) x.name:Nat):Int))=some (cT V.s3 4 (bo (iH V.an) x.name),.ar):=o.i3.dK VC;obtain⟨y,hy⟩:∃y,y=V.aD[bo (iH V.an) x.name]:=⟨_,rfl⟩;have ZP:y∈V.aD:=by rw[hy];exact aat _
  have ZO:y.1=x:=by
   have e1:=FN w Uc;rw[iw,dB (f:=iL.name) (l:=V.an.aD) (d:=Dq) Xz]at e1;rw[<-e1,hy];exact EN
  have ly:∀{kk:ah},Ext (H++g) kk->ao (some 4) (cT V.s3 4 (bo (iH V.an) x.name)) (λb=>kk[b]?)=some (.agg (aS y),.ar):=λ{kk} e=>by rw[hy];exact o.i3.lL VC ((T4.trans he).trans e)
  have TI:M.take (k+1)=M.take k++[x]:=by rw[hx,aa1,aai hlt];rfl
  have oy:=o.e3 y ZP;have ZG:=oy.one;unfold aS at ly;refine Rs (nZ t2 t5 t6 t7 t8 hns.aK e3 @lr @gh @aE ix @lf) ?_;refine WF.ce T.c55 (r55 T ((o.ext (T4.trans he)).ext Xx) l _) λg1=>?_
  have ei:dt (λy:iL×AV=>decide (y.1.name=x.name)) V.aD=(bo (iH V.an) x.name:Int):=by
   rw[iR];exact fo (f:=λy:iL×AV=>y.1.name) (by rw[<-iR];exact Xz)
  rw[ei];refine Rs (A9 t2 t5 t6 t7 t8 @iy @ly @ZG oy.aK) ?_;rw[ZO];by_cases hin:x.bp=[]
  ·have q:decide ((x.bp.length:Int)=0)=true:=aaj (by rw[hin];rfl);refine Rs (A6 t2 t5 t6 t7 t8 q) ?_;have T0:=hFl k;refine WR.ga (h0:=H) (cs:=(F (M.take k)).map aq) (ys:=[aq x.line]) (((hfr.app _).app _).app _) (Fr.push (N:=0) (aaQ _) [aq x.line] (by simp[aq])).aT De Si (by simp only[aak,aah,aal];omega) (by simp only[aae];exact⟨_,rfl⟩) ?_;intro g' TB hff hkp;have hrow:(F (M.take k)).map aq++[aq x.line]=(F (M.take (k+1))).map aq:=by
    rw[TI,hF];simp only[ab1,acy,acY,hin,aaE,aaB,aap,abd,ab7]
   rw[hrow]at hff;rw[hrow];refine Rs (A6 t2 t5 t6 t7 t8 e5) ?_;exact z49
  ·have q:decide ((x.bp.length:Int)=0)=false:=aaf (λz=>hin (abg.1 Om));refine Rs (A7 t2 t5 t6 t7 t8 q e5) ?_;refine⟨_,Om,k+1,out,Om,rfl,?_,rfl,rfl⟩;have:F (M.take (k+1))=F (M.take k):=by
    rw[TI,hF];simp only[ab1,acy,acY,hin,aaJ,aa2,aay,aaF]
   rw[this];exact(hfr.app _).app _
 ·have e3:=fC hlt;have e4:k=M.length:=Om
  rw[e4,aaS]at hfr;have T0:=hFl M.length;rw[aaS]at T0;have hsrc:∀y∈V.lines,decide (y.name∈F M)=decide (y.name∈(ni V.an m).map iL.line):=λy hy=>by
   refine ab9.2 ?_;rw[<-hM,hF];simp only[aaK,abw,aaX];constructor
   ·rintro⟨x,⟨h1,_⟩,h2⟩;exact⟨x,h1,h2⟩
   ·rintro⟨x,h1,h2⟩;refine⟨x,⟨h1,?_⟩,h2⟩;rcases(w.md x (hMm x h1)).1 with⟨a,_⟩|⟨_,a⟩
    ·exact a
    ·have hnn:=w.n0.nm y.name (aaH hy);rw[<-h2,a]at hnn;cases hnn
  have eu:(jn V.an m).map iO.name=(V.lines.filter λy=>decide (y.name∈F M)).map iO.name:=by
   rw[jn];congr 1;exact(List.filter_congr λy hy=>hsrc y hy).symm
  rw[eu];obtain⟨W,hW⟩:∃W,W=F M:=⟨_,rfl⟩;rw[<-hW]at hfr T0 ⊢;have VA:=hfr.aT;refine Rs (A7 t2 t5 t6 t7 t8 hns.aK e3) ?_;refine WL.inv T.mix (λn ts h'=>∃(k:Nat) (res:AV),k<=V.lines.length/\n=V.lines.length-k/\Ext (H++g) h'/\Fr (H++g).length h' res 1 ((((V.lines.take k).filter λy=>decide (y.name∈W)).map iO.name).map aq)/\
    ts.length=64/\slot ts 2=.ptr h.length 0/\slot ts 6=out/\slot ts 7=res/\slot ts 10=.i k) V.lines.length
   ⟨0,.af,Om,rfl,.refl _,.nil,Sn,(Sq t2),(Sq t6),(Sq t7),gX⟩ ?_
  clear t2 t5 t6 t7 t8 hlen lr hlt e3 e4 hk;clear ts k;rintro _ ts _ ⟨k,res,Tr,rfl,⟨g2,rfl⟩,V9,hlen,t2,t6,t7,t10⟩;have TA:Ext (H++g) (H++g++g2):=⟨_,rfl⟩;have lr:∀{kk n a},Ext (H++g++g2) kk->ao n (.ptr h.length a) (λz=>kk[z]?)=dO n a (.b V.row):=λ{_ _ _} e=>aA (((he.trans TA).trans e).some mr)
  have Ve:=l.l0;by_cases hlt:k<V.lines.length
  ·have e3:=eO hlt;have e5:=wrapN (n:=k) Om;have ix:=o.i0.dK (kk:=.i64) hlt;obtain⟨y,hy⟩:∃y,y=V.lines[k]:=⟨_,rfl⟩;have lf:∀{kk:ah},Ext (H++g++g2) kk->ao none (j9 V.s0 3 k 0) (λb=>kk[b]?)=some (.str y.name,.ar):=λ{kk} e=>o.i0.mi hlt (by rw[<-hy];rfl) (((T4.trans he).trans TA).trans e)
   have TI:V.lines.take (k+1)=V.lines.take k++[y]:=by rw[hy,aa1,aai hlt];rfl
   refine Rs (mE t2 t6 t7 t10 @lr @gJ o.i0.aK e3 ix @lf) ?_;refine WF.ce T.c35 (r35 T (VA.ext TA) Om _) λg3=>?_
   cases hd:decide (y.name∈W)with
   |false=>
    refine Rs (A5 t2 t6 t7 t10 e5) ?_;refine⟨_,Om,k+1,res,Om,rfl,?_,rfl,rfl⟩;rw[TI,ab1];simp only[acy,acY,hd,aa2,aay,aaF];exact V9.app _
   |true=>
    refine Rs (A8 t2 t6 t7 t10 @lr @gJ ix @lf) ?_;have hfl2:((V.lines.take k).filter λy=>decide (y.name∈W)).length<=V.lines.length:=aa5 (aa0 _ _) (by rw[aaZ];omega);refine WR.ga (h0:=H++g) (cs:=(((V.lines.take k).filter λy=>decide (y.name∈W)).map iO.name).map aq) (ys:=[aq y.name]) ((V9.app _).app _) (Fr.push (N:=0) (aaQ _) [aq y.name] (by simp[aq])).aT De Si (by simp only[aak,aah,aal];omega) (by rw[aae,aae];exact⟨_,rfl⟩) ?_;intro g' TB hff hkp;have hrow:(((V.lines.take k).filter λy=>decide (y.name∈W)).map iO.name).map aq++[aq y.name]=(((V.lines.take (k+1)).filter λy=>decide (y.name∈W)).map iO.name).map aq:=by
     exact O7
    rw[hrow]at hff;rw[hrow];refine Rs (A5 t2 t6 t7 t10 e5) ?_;exact z49
  ·have e3:=fC hlt;have e4:k=V.lines.length:=Om
   refine Rs (A8 t2 t6 t7 t10 @lr @gJ o.i0.aK e3) ?_;rw[e4,aaS]at V9;exact⟨(T4.trans he).trans TA,V9.aT⟩
end
def wk{s c}:gg (s++[c])=(339*gg s+(c.toNat:Int)).tmod 9999749:=by simp[gg]
theorem zD:∀(s:By) (a:Int),0<=a/\a<9999749->0<=s.foldl (λx c=>(339*x+(c.toNat:Int)).tmod 9999749) a/\s.foldl (λx c=>(339*x+(c.toNat:Int)).tmod 9999749) a<9999749
 |[],_,h=>h
 |c::s,a,h=>by
  rw[ab2];exact zD s _ ⟨ac1 _ Om,acd _ Om⟩
def kT(s:By):0<=gg s/\gg s<9999749:=zD s 1 Om
def uN(s:By):(dS (gg s)).length<=7:=by
 have:=kT s;rw[gD];exact lu (k:=6) Om
def lX(s:By):(hP s).length=7:=by
 have:=uN s;unfold hP;rw[aac,abo];omega
theorem sG{c}:∀{xs},Lib.join xs [c]=fy c xs
 |[]=>rfl
 |[x]=>Lib.join_one x [c]
 |x::y::r=>by
  rw[fL Si,<-sG (xs:=y::r),Lib.join_cons,Lib.join_cons];simp[Lib.joinTail]
def DG:∀{xs},Lib.join xs []=xs.flatten
 |[]=>rfl
 |x::r=>by rw[Lib.join_cons];simp[Lib.joinTail]
section
variable {P:Program}(T:eD P) (Z:nB P) {h:ah}
include T Z
set_option maxRecDepth 10000 in
def r187(s:By)(hs:s.length<=2^40)(w:Pw h):ay P 187 [.str s] h (λv _=>v=.str (hP s)):=by
 refine .lI 28 T.mix T.c187 ?_;intro ts hlen t0;unfold fn187 gA;refine Rs t0 ?_;refine WL.inv T.mix (λn ts' h'=>∃k:Nat,k<=s.length/\n=s.length-k/\h' =h/\ts'.length=28/\slot ts' 0=.str s/\slot ts' 3=.i (gg (s.take k))/\slot ts' 7=.i s.length/\slot ts' 8=.i k) s.length
  ⟨0,Om,rfl,rfl,(Sq t0),(Sq t0),gX,(Sq t0),gX⟩ ?_
 rintro _ ts' _ ⟨k,hk,rfl,rfl,UH,u0,u3,u7,u8⟩;clear hlen t0;have hlen:=UH;by_cases hlt:k<s.length
 ·have e3:=eO hlt;have hb:=kT (s.take k);have hcn:=UInt8.toNat_lt s[k];have w1:IntKind.i64.wrap (339*gg (s.take k))=339*gg (s.take k):=aY Om Om;have w2:IntKind.i64.wrap (s[k].toNat:Int)=(s[k].toNat:Int):=aY Om Om;have w3:IntKind.i64.wrap (339*gg (s.take k)+(s[k].toNat:Int))=339*gg (s.take k)+(s[k].toNat:Int):=aY Om Om;have er:=jw (k:=.i64) (a:=339*gg (s.take k)+(s[k].toNat:Int)) (b:=9999749) De;rw[<-wk,<-fD hlt]at er
  repeat (first|simp (config:={maxSteps:=1000000}) only[aU,aX,bz,bA,reduceAdd,reduceMul,reduceLeDiff,reduceEqDiff,bC,hlen,aay,aaB,u0,u3,u7,u8,e3,jN hlt,w1,w2,w3,er,wrapN (show k+1<2^63 by omega)]|simp (config:={maxSteps:=1000000}) (disch:=first|(simp only[aac,aah,aal]<;>omega)|rfl|omega|fail) only[gp,aU,aX,bz,bA,reduceAdd,reduceMul,reduceLeDiff,reduceEqDiff,bC,hlen,aay,aaB,u0,u3,u7,u8,e3,jN hlt,w1,w2,w3,er,wrapN (show k+1<2^63 by omega)])
  exact Lp
 ·have e3:=fC hlt;have ek:k=s.length:=Om
  rw[ek,aaS]at u3;have hb:=kT s;have hl:=uN s;refine Rs (A5 @u0 @u3 @u7 @u8 e3) ?_;refine WF.ce T.c113 (Z.itoa Om Om w) λg=>?_
  rw[gS hb.1];have w1:IntKind.i64.wrap (7-((dS (gg s)).length:Int))=((7-(dS (gg s)).length:Nat):Int):=by rw[aY Om Om];omega
  refine Rs (A2 @u0 @w1) ?_;refine WF.ce T.c252 (Z.rep Om) λg2=>?_
  refine Rs (A2 @u0 (fA (show(List.replicate (7-(dS (gg s)).length) (48:UInt8)).length+(dS (gg s)).length<2^62 by rw[abo];omega))) ?_;rfl
def zv{x}(h0:0<=x)(h1:x<2^62)(w:Pw h):bH P (.func (.func 113) [] []) [.i x] h (λv _=>v=.str (dS x)):=by
 rw[<-gS h0];exact bH.of (a:=[]) (c:=[]) T.c113 (Z.itoa Om Om w)
end
structure OV(e:cQ):Prop where
 num:0<=e.num/\e.num<2^62
 bK:∀x∈e.bK,0<=x/\x<2^62
 nl:e.names.length<=2^30
 vl:e.bK.length<=2^30
 bl:(cC e).length<=2^38
section
variable {P:Program}(T:eD P) (Z:nB P) {h:ah}
include T Z
set_option maxRecDepth 10000 in
def r186{x}(ox:bd h x)(en:OV x.ev)(w:Pw h):ay P 186 [.agg x.row] h (λv _=>v=.str (cC x.ev)):=by
 refine .lI 19 T.mix T.c186 ?_;intro ts hlen t0;unfold fn186 gA;have To:=@bd.box _ _ ox;have hnl:=en.nl;have Ud:=en.vl;refine Rs (A5 t0 @To @kj @bB @aN) ?_;refine WF.ce T.c113 (Z.itoa (by have:=en.num;omega) (by have:=en.num;omega) (w.ext Xx)) λg1=>?_
 rw[gS en.num.1];refine Rs (A4 t0 @kj @bB @aN) ?_;have hF:=Fr.push (N:=h.length) (h:=h++[ak.b x.row]++g1) (es:=1) (by simp only[aac];omega) (([dS x.ev.num,x.ev.kind] :List (By)).map aq) (by simp[aq]);refine WR.GY (h0:=h) (cs:=([dS x.ev.num,x.ev.kind] :List (By)).map aq) (ys:=x.ev.names.map aq) hF (ox.n.ext Xx) De (by simp;omega) Xx ?_;intro s' g hfr hkp hle;rw[<-aap]at hfr;have TV:(h++g)[h.length]? =some (.b x.row):=by
  rw[hkp _ (by simp only[aac,aav];omega) (λe=>by have e2:(h++[ak.b x.row]++g1).length=h.length:=abf e;simp only[aac,aav]at e2;omega)];simp
 have lb:∀{k:ah}{n':Option Nat}{a:Nat},Ext (h++g) k->ao n' (.ptr h.length a) (λz=>k[z]?)=dO n' a (.b x.row):=λe=>aA (e.some TV)
 refine Rs (A3 t0 @lb @aW) ?_;refine WF.res T.c199 (r199 T (ox.v.ext Xx) Om dS (λy hy k ek=>zv T Z (en.bK y hy).1 (en.bK y hy).2 (w.ext (Ext.trans Xx ek)))) ?_;intro v g2 hv;refine Rs t0 ?_;refine WR.GY (h0:=h) (hfr.app g2) hv.aT De (by simp;omega) Xx ?_;intro s2 g3 V9 hkp2 V6;rw[<-aap]at V9;refine Rs t0 ?_;have hbl:=en.bl;refine WF.ce T.c114 (Z.join V9.aT ⟨by rw[sG];show(cC x.ev).length<=_;omega,by simp;omega⟩) λg4=>?_
 refine Rs t0 ?_;rw[sG];rfl
set_option maxRecDepth 10000 in
def r97{x}(ox:bd h x)(en:OV x.ev)(w:Pw h):ay P 97 [.agg x.row] h (λv _=>v=.str (fB x.ev)):=by
 refine .lI 12 T.mix T.c97 ?_;intro ts hlen t0;unfold fn97 gA;have To:=@bd.box _ _ ox;have hbl:=en.bl;refine Rs (A3 t0 @To @bZ) ?_;refine WF.ce T.c186 (r186 T Z (ox.ext Xx) en (w.ext Xx)) λg=>?_
 refine Rs (A2 t0 (fA (show(cC x.ev).length+([35] :By).length<2^62 by simp;omega))) ?_;refine WF.ce T.c187 (r187 T Z _ Om (w.ext Xx)) λg2=>?_
 have h7:=lX (cC x.ev);refine Rs (A3 t0 (fA (show(cC x.ev++[35]).length+(hP (cC x.ev)).length<2^62 by simp;omega)) (fA (show(cC x.ev++[35]++hP (cC x.ev)).length+([10] :By).length<2^62 by simp;omega))) ?_;rfl
theorem Db{e}:(fB e).length=(cC e).length+9:=by
 have:=lX (cC e);unfold fB;simp;omega
end
def Ext.jo{h W b X}(e:Ext h W)(hb:h.length<=b):Ext h (W.set b X):=by
 obtain⟨g,rfl⟩:=e;exact⟨g.set (b-h.length) X,aa9 _ _ hb⟩
structure ff(B W0:ah)(b:Nat)(K:Nat->Prop)(W:ah)(U:RV):Prop where
 bk:cp B.length W b U
 ex:Ext B W
 ln:W0.length<=W.length
 kp:∀i,K i->W[i]? =W0[i]?
 kl:∀i,K i->i<W0.length/\i≠b/\some i∉U.bl
section
variable {B W0 W W2:ah}{b:Nat}{K:Nat->Prop}{U:RV}(s:ff B W0 b K W U)
include s
def ff.grow(e:Ext W W2):ff B W0 b K W2 U:=by
 obtain⟨g,rfl⟩:=e;refine⟨s.bk.app g,s.ex.trans ⟨g,rfl⟩,aa5 s.ln Si,λi hi=>?_,s.kl⟩;rw[aag (aa7 (s.kl i hi).1 s.ln)];exact s.kp i hi
omit s in
theorem RF{L s' i}(h:some i∈{U with lines:=L,s0:=s'}.bl):some i∈U.bl\/sB s' =some i:=by
 exact KM
def ff.p0{L s'}(hff:Fr B.length W2 s' 3 (L.map cF))(hn:∀i,sB s' =some i->sB U.s0=some i\/W.length<=i)(hk:∀i,i<W.length->sB U.s0≠some i->W2[i]? =W[i]?)(hx:Ext B W2)(hl:W.length<=W2.length):
  ff B W0 b K (W2.set b (.b (U.row.set 1 s'))) {U with lines:=L,s0:=s'}:=by
 have hbl:=s.bk.lt;have TF:sB U.s0≠some b:=λz=>s.bk.ne (by rw[<-z];simp[RV.bl])
 have hsb:∀i,sB s' =some i->i≠b:=λi hi z=>by
  exact KK
 obtain⟨X,hX⟩:∃X,X=ak.b (U.row.set 1 s'):=⟨_,rfl⟩;rw[<-hX];have g2:∀i,i≠b->(W2.set b X)[i]? =W2[i]? :=λi hi=>aau (abG hi)
 have gb:(W2.set b X)[b]? =some X:=aaw Om;refine⟨s.bk.ON (hff.aB λi hi=>g2 i (hsb i hi)) hn (by rw[hX]at gb ⊢;exact gb) (λi hi h1 h2=>(g2 i h2).trans (hk i hi h1)),hx.jo s.bk.hN,by rw[aaY];exact aa5 s.ln hl,λi hi=>?_,λi hi=>?_⟩
 ·exact KN
 ·obtain⟨h1,h2,h3⟩:=s.kl i hi;refine⟨h1,h2,λhm=>?_⟩;rcases RF hm with z|z
  ·exact h3 z
  ·exact OY
def ff.q0{L}(hff:Fr B.length W2 U.s0 3 (L.map cF))(hk:∀i,i<W.length->sB U.s0≠some i->W2[i]? =W[i]?)(hx:Ext B W2)(hl:W.length<=W2.length):ff B W0 b K W2 {U with lines:=L}:=by
 have hbl:=s.bk.lt;have TF:sB U.s0≠some b:=λz=>s.bk.ne (by rw[<-z];simp[RV.bl])
 refine⟨s.bk.ON (s:=U.s0) hff (λi hi=>.inl hi) ((hk b hbl TF).trans s.bk.m) (λi hi h1 _=>hk i hi h1),hx,aa5 s.ln hl,λi hi=>?_,s.kl⟩;exact LW
omit s in
theorem RE{L s' i}(h:some i∈{U with aG:=L,s1:=s'}.bl):some i∈U.bl\/sB s' =some i:=by
 exact KM
def ff.p1{L s'}(hff:Fr B.length W2 s' 2 (L.map eo))(hn:∀i,sB s' =some i->sB U.s1=some i\/W.length<=i)(hk:∀i,i<W.length->sB U.s1≠some i->W2[i]? =W[i]?)(hx:Ext B W2)(hl:W.length<=W2.length):
  ff B W0 b K (W2.set b (.b (U.row.set 2 s'))) {U with aG:=L,s1:=s'}:=by
 have hbl:=s.bk.lt;have TF:sB U.s1≠some b:=λz=>s.bk.ne (by rw[<-z];simp[RV.bl])
 have hsb:∀i,sB s' =some i->i≠b:=λi hi z=>by
  exact KK
 obtain⟨X,hX⟩:∃X,X=ak.b (U.row.set 2 s'):=⟨_,rfl⟩;rw[<-hX];have g2:∀i,i≠b->(W2.set b X)[i]? =W2[i]? :=λi hi=>aau (abG hi)
 have gb:(W2.set b X)[b]? =some X:=aaw Om;refine⟨s.bk.SJ (hff.aB λi hi=>g2 i (hsb i hi)) hn (by rw[hX]at gb ⊢;exact gb) (λi hi h1 h2=>(g2 i h2).trans (hk i hi h1)),hx.jo s.bk.hN,by rw[aaY];exact aa5 s.ln hl,λi hi=>?_,λi hi=>?_⟩
 ·exact KN
 ·obtain⟨h1,h2,h3⟩:=s.kl i hi;refine⟨h1,h2,λhm=>?_⟩;rcases RE hm with z|z
  ·exact h3 z
  ·exact OY
omit s in
theorem Ry{L s' i}(h:some i∈{U with aP:=L,s5:=s'}.bl):some i∈U.bl\/sB s' =some i:=by
 exact KM
def ff.p5{L s'}(hff:Fr B.length W2 s' 4 (L.map dx))(hn:∀i,sB s' =some i->sB U.s5=some i\/W.length<=i)(hk:∀i,i<W.length->sB U.s5≠some i->W2[i]? =W[i]?)(hx:Ext B W2)(hl:W.length<=W2.length):
  ff B W0 b K (W2.set b (.b (U.row.set 6 s'))) {U with aP:=L,s5:=s'}:=by
 have hbl:=s.bk.lt;have TF:sB U.s5≠some b:=λz=>s.bk.ne (by rw[<-z];simp[RV.bl])
 have hsb:∀i,sB s' =some i->i≠b:=λi hi z=>by
  exact KK
 obtain⟨X,hX⟩:∃X,X=ak.b (U.row.set 6 s'):=⟨_,rfl⟩;rw[<-hX];have g2:∀i,i≠b->(W2.set b X)[i]? =W2[i]? :=λi hi=>aau (abG hi)
 have gb:(W2.set b X)[b]? =some X:=aaw Om;refine⟨s.bk.OM (hff.aB λi hi=>g2 i (hsb i hi)) hn (by rw[hX]at gb ⊢;exact gb) (λi hi h1 h2=>(g2 i h2).trans (hk i hi h1)),hx.jo s.bk.hN,by rw[aaY];exact aa5 s.ln hl,λi hi=>?_,λi hi=>?_⟩
 ·exact KN
 ·obtain⟨h1,h2,h3⟩:=s.kl i hi;refine⟨h1,h2,λhm=>?_⟩;rcases Ry hm with z|z
  ·exact h3 z
  ·exact OY
def ff.q5{L}(hff:Fr B.length W2 U.s5 4 (L.map dx))(hk:∀i,i<W.length->sB U.s5≠some i->W2[i]? =W[i]?)(hx:Ext B W2)(hl:W.length<=W2.length):ff B W0 b K W2 {U with aP:=L}:=by
 have hbl:=s.bk.lt;have TF:sB U.s5≠some b:=λz=>s.bk.ne (by rw[<-z];simp[RV.bl])
 refine⟨s.bk.OM (s:=U.s5) hff (λi hi=>.inl hi) ((hk b hbl TF).trans s.bk.m) (λi hi h1 _=>hk i hi h1),hx,aa5 s.ln hl,λi hi=>?_,s.kl⟩;exact LW
omit s in
theorem RD{y t s' i}(h:some i∈{U with aj:=U.aj++[(y,t)],s2:=s'}.bl):some i∈U.bl\/sB s' =some i\/sB t=some i:=by
 exact KM
def ff.p2{y t s'}(hff:Fr B.length W2 s' 3 ((U.aj++[(y,t)]).map bj))(ht:Fr B.length W2 t 1 (y.aG.map aq))(hn:∀i,sB s' =some i->sB U.s2=some i\/W.length<=i)(hnt:∀i,sB t=some i->W.length<=i/\sB s'≠some i)(hk:∀i,i<W.length->sB U.s2≠some i->W2[i]? =W[i]?)(hx:Ext B W2)(hl:W.length<=W2.length):
  ff B W0 b K (W2.set b (.b (U.row.set 3 s'))) {U with aj:=U.aj++[(y,t)],s2:=s'}:=by
 have hbl:=s.bk.lt;have TF:sB U.s2≠some b:=λz=>s.bk.ne (by rw[<-z];simp[RV.bl])
 have hsb:∀i,sB s' =some i->i≠b:=λi hi z=>by
  exact KK
 have htb:∀i,sB t=some i->i≠b:=λi hi z=>by
  exact AM
 obtain⟨X,hX⟩:∃X,X=ak.b (U.row.set 3 s'):=⟨_,rfl⟩;rw[<-hX];have g2:∀i,i≠b->(W2.set b X)[i]? =W2[i]? :=λi hi=>aau (abG hi)
 have gb:(W2.set b X)[b]? =some X:=aaw Om;refine⟨s.bk.SI (hff.aB λi hi=>g2 i (hsb i hi)) (ht.aB λi hi=>g2 i (htb i hi)) hn hnt (by rw[hX]at gb ⊢;exact gb) (λi hi h1 h2=>(g2 i h2).trans (hk i hi h1)),hx.jo s.bk.hN,by rw[aaY];exact aa5 s.ln hl,λi hi=>?_,λi hi=>?_⟩
 ·exact KN
 ·obtain⟨h1,h2,h3⟩:=s.kl i hi;have YA:=s.ln;refine⟨h1,h2,λhm=>?_⟩;rcases RD hm with z|z|z
  ·exact h3 z
  ·rcases hn i z with z|z
   ·exact ID
   ·omega
  ·have:=(hnt i z).1;omega
omit s in
theorem RC{y t s' i}(h:some i∈{U with aD:=U.aD++[(y,t)],s3:=s'}.bl):some i∈U.bl\/sB s' =some i\/sB t=some i:=by
 exact KM
def ff.p3{y t s'}(hff:Fr B.length W2 s' 4 ((U.aD++[(y,t)]).map aS))(ht:Fr B.length W2 t 1 (y.bp.map aq))(hn:∀i,sB s' =some i->sB U.s3=some i\/W.length<=i)(hnt:∀i,sB t=some i->W.length<=i/\sB s'≠some i)(hk:∀i,i<W.length->sB U.s3≠some i->W2[i]? =W[i]?)(hx:Ext B W2)(hl:W.length<=W2.length):
  ff B W0 b K (W2.set b (.b (U.row.set 4 s'))) {U with aD:=U.aD++[(y,t)],s3:=s'}:=by
 have hbl:=s.bk.lt;have TF:sB U.s3≠some b:=λz=>s.bk.ne (by rw[<-z];simp[RV.bl])
 have hsb:∀i,sB s' =some i->i≠b:=λi hi z=>by
  exact KK
 have htb:∀i,sB t=some i->i≠b:=λi hi z=>by
  exact AM
 obtain⟨X,hX⟩:∃X,X=ak.b (U.row.set 4 s'):=⟨_,rfl⟩;rw[<-hX];have g2:∀i,i≠b->(W2.set b X)[i]? =W2[i]? :=λi hi=>aau (abG hi)
 have gb:(W2.set b X)[b]? =some X:=aaw Om;refine⟨s.bk.SH (hff.aB λi hi=>g2 i (hsb i hi)) (ht.aB λi hi=>g2 i (htb i hi)) hn hnt (by rw[hX]at gb ⊢;exact gb) (λi hi h1 h2=>(g2 i h2).trans (hk i hi h1)),hx.jo s.bk.hN,by rw[aaY];exact aa5 s.ln hl,λi hi=>?_,λi hi=>?_⟩
 ·exact KN
 ·obtain⟨h1,h2,h3⟩:=s.kl i hi;have YA:=s.ln;refine⟨h1,h2,λhm=>?_⟩;rcases RC hm with z|z|z
  ·exact h3 z
  ·rcases hn i z with z|z
   ·exact ID
   ·omega
  ·have:=(hnt i z).1;omega
omit s in
theorem Rz{y t s' i}(h:some i∈{U with aF:=U.aF++[(y,t)],s4:=s'}.bl):some i∈U.bl\/sB s' =some i\/sB t=some i:=by
 exact KM
def ff.p4{y t s'}(hff:Fr B.length W2 s' 3 ((U.aF++[(y,t)]).map bS))(ht:Fr B.length W2 t 1 (y.bu.map aH))(hn:∀i,sB s' =some i->sB U.s4=some i\/W.length<=i)(hnt:∀i,sB t=some i->W.length<=i/\sB s'≠some i)(hk:∀i,i<W.length->sB U.s4≠some i->W2[i]? =W[i]?)(hx:Ext B W2)(hl:W.length<=W2.length):
  ff B W0 b K (W2.set b (.b (U.row.set 5 s'))) {U with aF:=U.aF++[(y,t)],s4:=s'}:=by
 have hbl:=s.bk.lt;have TF:sB U.s4≠some b:=λz=>s.bk.ne (by rw[<-z];simp[RV.bl])
 have hsb:∀i,sB s' =some i->i≠b:=λi hi z=>by
  exact KK
 have htb:∀i,sB t=some i->i≠b:=λi hi z=>by
  exact AM
 obtain⟨X,hX⟩:∃X,X=ak.b (U.row.set 5 s'):=⟨_,rfl⟩;rw[<-hX];have g2:∀i,i≠b->(W2.set b X)[i]? =W2[i]? :=λi hi=>aau (abG hi)
 have gb:(W2.set b X)[b]? =some X:=aaw Om;refine⟨s.bk.SG (hff.aB λi hi=>g2 i (hsb i hi)) (ht.aB λi hi=>g2 i (htb i hi)) hn hnt (by rw[hX]at gb ⊢;exact gb) (λi hi h1 h2=>(g2 i h2).trans (hk i hi h1)),hx.jo s.bk.hN,by rw[aaY];exact aa5 s.ln hl,λi hi=>?_,λi hi=>?_⟩
 ·exact KN
 ·obtain⟨h1,h2,h3⟩:=s.kl i hi;have YA:=s.ln;refine⟨h1,h2,λhm=>?_⟩;rcases Rz hm with z|z|z
  ·exact h3 z
  ·rcases hn i z with z|z
   ·exact ID
   ·omega
  ·have:=(hnt i z).1;omega
def ff.qJ{i}(hi:i<U.aF.length){y}(hy:y.name=U.aF[i].1.name/\y.mod=U.aF[i].1.mod)(hf:Fr B.length W2 U.aF[i].2 1 (y.bu.map aH))(hk:∀j,j<W.length->sB U.aF[i].2≠some j->W2[j]? =W[j]?)(hx:Ext B W2)(hl:W.length<=W2.length):
  ff B W0 b K W2 {U with aF:=U.aF.set i (y,U.aF[i].2) }:=by
 have UW:sB U.aF[i].2∈U.bl:=by simp only[RV.bl,aam,aaK];exact .inr ⟨_,aat hi,rfl⟩
 have hbl:{U with aF:=U.aF.set i (y,U.aF[i].2) }.bl=U.bl:=by
  simp only[RV.bl,acp];congr 1;have:sB U.aF[i].2=(U.aF.map λx=>sB x.2)[i]'(by simpa using hi):=Si
  exact Iy
 refine⟨s.bk.SF hi hy hf hk,hx,aa5 s.ln hl,λj hj=>?_,λj hj=>by rw[hbl];exact s.kl j hj⟩;obtain⟨h1,h2,h3⟩:=s.kl j hj;rw[hk j (aa7 h1 s.ln) (λz=>h3 (by rw[<-z];exact UW))];exact s.kp j hj
omit s in
theorem Rx{i j y t}(h:some j∈{U with aj:=U.aj.set i (y,t) }.bl):some j∈U.bl\/sB t=some j:=by
 simp only[RV.bl,aam,aaK]at h ⊢;rcases h with((h|⟨x,hx,h⟩)|h)|h
 ·exact .inl (.inl (.inl (.inl h)))
 ·rcases abU hx with hx|hx
  ·exact .inl (.inl (.inl (.inr ⟨x,hx,h⟩)))
  ·rw[hx]at h;exact .inr h
 ·exact .inl (.inl (.inr h))
 ·exact .inl (.inr h)
def ff.qS{i}(hi:i<U.aj.length){y t}(hs:Fr B.length W2 U.s2 3 ((U.aj.set i (y,t)).map bj))(ht:Fr B.length W2 t 1 (y.aG.map aq))(hnt:∀j,sB t=some j->W.length<=j)
  (hk:∀j,j<W.length->sB U.s2≠some j->sB U.aj[i].2≠some j->W2[j]? =W[j]?) (hx:Ext B W2) (hl:W.length<=W2.length):ff B W0 b K W2 {U with aj:=U.aj.set i (y,t) }:=by
 have m1:sB U.s2∈U.bl:=by simp[RV.bl]
 have m2:sB U.aj[i].2∈U.bl:=by simp only[RV.bl,aam,aaK];exact .inl (.inl (.inr ⟨_,aat hi,rfl⟩))
 refine⟨s.bk.SE hi hs ht hnt hk,hx,aa5 s.ln hl,λj hj=>?_,λj hj=>?_⟩
 ·obtain⟨h1,h2,h3⟩:=s.kl j hj;rw[hk j (aa7 h1 s.ln) (λz=>h3 (by rw[<-z];exact m1)) (λz=>h3 (by rw[<-z];exact m2))];exact s.kp j hj
 ·obtain⟨h1,h2,h3⟩:=s.kl j hj;refine⟨h1,h2,λhm=>?_⟩;rcases Rx hm with z|z
  ·exact h3 z
  ·have:=hnt j z;have:=s.ln;omega
end
def ow(k:Nat):ai:=((fn224).body.dr k).hd
def qZ(k:Nat):ai:=(fn224).body.dr k
def P2:qZ 9=.seq (ow 9) .ret:=rfl
def P3:qZ 8=.seq (ow 8) (qZ 9):=rfl
def P4:qZ 7=.seq (ow 7) (qZ 8):=rfl
def P5:qZ 6=.seq (ow 6) (qZ 7):=rfl
def P6:qZ 5=.seq (ow 5) (qZ 6):=rfl
def P7:qZ 4=.seq (ow 4) (qZ 5):=rfl
def P8:qZ 3=.seq (ow 3) (qZ 4):=rfl
def P9:qZ 2=.seq (ow 2) (qZ 3):=rfl
def Qa:qZ 1=.seq (ow 1) (qZ 2):=rfl
def Qb:fn224=⟨100,1,[(2,some (some 7))],.seq (ow 0) (qZ 1)⟩:=rfl
def lG:List AV:=[.i 0,.af,.af,.af,.af,.af,.af]
def Tj(h:ah)(i:Nat):Prop:=i<h.length\/i=h.length+1
def ym(h:ah)(r:ak)(W:ah)(U:RV):Prop:=ff h (h++[r]++[.b lG]) h.length (Tj h) W U
def ym.rb{h W r U}(s:ym h r W U):W[h.length+1]? =some (.b lG):=by
 rw[ff.kp s _ (.inr rfl)];simp
def KX(h:ah)(V:RV):AV->ah->Prop:=λv h'=>Ext h h'/\∃V':RV,V'.an=V.an/\v=.agg V'.row/\cJ h.length h' V'
section
variable {P:Program}(T:eD P) {h W:ah}{ts:TS}{V U:RV}{r:ak}
include T
def SY(s:ym h r W U)(hr:U.an=V.an)(hlen:ts.length=100)(t1:slot ts 1=.ptr h.length 0)(t2:slot ts 2=.ptr (h.length+1) 0):
  WC P bP (qZ 9) [] ts W (FQ [(2,some (some 7))] (KX h V)):=by
 have:=T.mix;rw[P2];unfold ow fn224 gA;simp only[ai.j,ai.s,ai.r,ai.dr,ai.tl,ai.hd];have lb:=@fx _ _ _ s.bk.m;have sb:=@aL 7 (h.length+1) 0 (.agg U.row) (λz=>W[z]?) _ s.rb;have st:=@aC.st _ _ s.bk.o.ok;unfold lG at sb;rw[st]at sb;have hl:=(aad.1 s.rb).1;have gm:(W.set (h.length+1) (.b U.row))[h.length+1]? =some (.b U.row):=aaw hl
 repeat (first|simp (config:={maxSteps:=1000000}) only[aU,aX,bz,bA,reduceAdd,reduceMul,reduceLeDiff,reduceEqDiff,bC,hlen,aay,aaB,t1,t2,lb,sb,aE,aA gm]|simp (config:={maxSteps:=1000000}) (disch:=first|(simp only[aac,aah,aal]<;>omega)|rfl|omega|fail) only[gp,aU,aX,bz,bA,reduceAdd,reduceMul,reduceLeDiff,reduceEqDiff,bC,hlen,aay,aaB,t1,t2,lb,sb,aE,aA gm])
 refine⟨s.ex.jo Om,U,hr,rfl,s.bk.o.ar λi hi=>?_⟩;have:i≠h.length+1:=λe=>(s.kl _ (.inr rfl)).2.2 (e▸hi)
 rw[aau (abG this)]
def Qc(o:aC h V)(w:fM V.an)(hj:∀x∈V.aF,x.1.bu.length<=2^30)(s:ym h r W U)(hr:U.an={V.an with aF:=V.an.aF.take 0})(hlen:ts.length=100)(t1:slot ts 1=.ptr h.length 0)(t2:slot ts 2=.ptr (h.length+1) 0)(t5:slot ts 5=V.s4):
  WC P bP (qZ 8) [] ts W (FQ [(2,some (some 7))] (KX h V)):=by
 have hL:V.aF.length<=16:=by have:=w.l4;simpa [RV.an]using this
 have hRl:V.an.aF.length=V.aF.length:=by simp[RV.an]
 rw[P3];unfold ow fn224 gA;simp only[ai.j,ai.s,ai.r,ai.dr,ai.tl,ai.hd];refine Rs (A3 t1 t2 t5) ?_;refine WL.inv T.mix (λm ts h'=>∃(k:Nat) (U:RV),k<=V.aF.length/\m=V.aF.length-k/\ym h r h' U/\U.an={V.an with aF:=V.an.aF.take k}/\ts.length=100/\slot ts 1=.ptr h.length 0/\slot ts 2=.ptr (h.length+1) 0/\slot ts 5=V.s4/\slot ts 10=.i k) V.aF.length
  ⟨0,U,Om,rfl,s,hr,Sn,(Sq t1),(Sq t2),(Sq t5),gX⟩ ?_
 clear t1 t2 t5 hlen s hr;rintro _ ts W ⟨k,U,hk,rfl,s,hr,hlen,t1,t2,t5,t10⟩;have oW:=o.ext s.ex;by_cases hlt:k<V.aF.length
 ·have e3:=eO hlt;have e5:=wrapN (n:=k) Om;have ix:=oW.i4.dK (kk:=.i64) hlt;obtain⟨y,hy⟩:∃y,y=V.aF[k]:=⟨_,rfl⟩;have U8:y∈V.aF:=by rw[hy];exact aat _
  have ld:∀{k':ah},Ext W k'->ao (some 3) (cT V.s4 3 k) (λb=>k'[b]?)=some (.agg (bS y),.ar):=λ{k'} e=>by rw[hy];exact oW.i4.lL hlt e
  have oy:=oW.e4 y U8;have ZG:=oy.one;unfold bS at ld;obtain⟨n,hn⟩:∃n,n=W.length:=⟨_,rfl⟩;refine Rs (A9 t1 t2 t5 t10 oW.i4.aK e3 ix @ld @ZG) ?_;refine WR.qQ (N:=n+1) ba (by rw[hn];simp) (oy.ext Xx) (by have:=hj y U8;simp only[aak];omega) λt g f=>?_
  have p1:=f.aT.one;rw[<-hn];obtain⟨W3,TL⟩:∃W3,W3=W++[ak.b [AV.str y.1.name,AV.str y.1.mod,y.2]]++[.b []]++g:=⟨_,rfl⟩;rw[<-TL]at f ⊢;have Zo:Ext W W3:=by rw[TL];exact Xx
  have l3:n+2<=W3.length:=by rw[TL,hn];simp only[aac,aah,aal];omega
  have m3:W3[n]? =some (.b [AV.str y.1.name,AV.str y.1.mod,y.2]):=by rw[TL,hn];exact(show Ext (W++[ak.b [AV.str y.1.name,AV.str y.1.mod,y.2]]) _ from Xx).some ba
  have YO:aV 1 (.ptr n 2) t (λz=>W3[z]?)=some (az,.set n (.b [AV.str y.1.name,AV.str y.1.mod,t])):=(aL m3).trans (cg p1 (by show 2+1<=3;omega));refine Rs (A6 t1 t2 t5 t10 @YO @p1) ?_;obtain⟨W4,Uk⟩:∃W4,W4=W3.set n (.b [AV.str y.1.name,AV.str y.1.mod,t]):=⟨_,rfl⟩;rw[<-Uk];have l4:W4.length=W3.length:=by rw[Uk,aaY]
  have k4:∀i,i≠n->W4[i]? =W3[i]? :=λi hi=>by rw[Uk,aau (abG hi)]
  have m4:W4[n]? =some (.b [AV.str y.1.name,AV.str y.1.mod,t]):=by rw[Uk,aaw Om]
  have e4:Ext W W4:=by rw[Uk];exact Zo.jo Om
  have s4:ym h r W4 U:=s.grow e4;have f4:Fr (n+1) W4 t 1 (y.1.bu.map aH):=f.aB λi hi=>k4 i (by have:=(f.bM hi).1;omega)
  have lr:=@fx _ _ _ s4.bk.m;have ln4:=@fx _ _ _ m4;clear Zo m3 YO f Uk TL;refine Rs (A8 t1 t2 t5 t10 @lr @ln4 @gI @p1) ?_;have Vu:U.aF.length<=16:=by
   have h1:U.an.aF.length=U.aF.length:=by simp[RV.an]
   exact IA
  obtain⟨z,hz⟩:∃z:List AV,z=bS (y.1,t):=⟨_,rfl⟩;have Vh:[AV.str y.1.name,AV.str y.1.mod,t]=z:=by rw[hz];rfl
  rw[Vh];have ZN:aI (W4++[ak.cells z true true]) (AV.slice W4.length 0 1 3) 3 [z]:=by
   exact L5
  refine WR.ga (h0:=h) (cs:=U.aF.map bS) (ys:=[z]) ((s4.bk.o.i4).app _) ZN De Si (by simp only[aak,aah,aal];omega) (s4.ex.trans Xx) ?_;intro g' TB hff hkp;have hrow:U.aF.map bS++[z]=(U.aF++[(y.1,t)]).map bS:=by rw[aap,hz];rfl
  rw[hrow]at hff;rw[hrow];obtain⟨s',Tq⟩:∃s',s' =AV.slice (W4++[ak.cells z true true]).length 0 ((U.aF++[(y.1,t)]).map bS).length 3:=⟨_,rfl⟩;rw[<-Tq]at hff;rw[<-Tq];have Vj:sB s' =some (W4.length+1):=by rw[Tq];simp[sB]
  have q1:s'.one=true:=by rw[Tq];rfl
  obtain⟨W5,VT⟩:∃W5,W5=h++g':=⟨_,rfl⟩;rw[<-VT]at TB hff hkp ⊢;have hk1:∀i,i<W4.length->sB U.s4≠some i->W5[i]? =W4[i]? :=λi hi hne=>by
   exact OK
  have hl5:W4.length<=W5.length:=by rw[TB];simp only[aac];omega
  have htb:∀i,sB t=some i->W.length<=i/\i<W4.length:=λi hi=>by have:=f4.bM hi;omega
  have bN:∀i,sB t=some i->sB U.s4≠some i:=λi hi e=>by
   exact O0
  have f5:Fr h.length W5 t 1 (y.1.bu.map aH):=(f4.aB λi hi=>hk1 i (htb i hi).2 (bN i hi)).low (by have:=s.bk.lt;omega);have Zm:W.length<=W4.length:=e4.len;have s5:ym h r (W5.set h.length (.b (U.row.set 5 s'))) {U with aF:=U.aF++[(y.1,t)],s4:=s'}:=
   s.p4 hff f5 (λi hi=>.inr (by rw[Vj]at hi;cases hi;omega)) (λi hi=>⟨(htb i hi).1,λe=>by rw[Vj]at e;cases e;have:=(htb _ hi).2;omega⟩) (λi hi hne=>(hk1 i Om hne).trans (e4.get hi)) (by rw[VT];exact⟨_,rfl⟩) Om
  have mB:W5[h.length]? =some (.b U.row):=(hk1 _ s4.bk.lt (λz=>s4.bk.ne (by rw[<-z];simp[RV.bl]))).trans s4.bk.m;have U3:aV 1 (.ptr h.length 5) s' (λz=>W5[z]?)=some (az,.set h.length (.b (U.row.set 5 s'))):=(aL mB).trans (cg q1 (by show 5+1<=7;omega));refine Rs (A7 t1 t2 t5 t10 @U3 q1 e5) ?_;refine⟨_,Om,k+1,_,Om,rfl,s5,?_,rfl⟩;have:V.an.aF.take (k+1)=V.an.aF.take k++[y.1]:=by
   exact O1
  rw[this];have hf:(U.aF++[(y.1,t)]).map Prod.fst=V.an.aF.take k++[y.1]:=by
   have h1:U.an.aF=V.an.aF.take k:=by rw[hr]
   rw[aap,<-h1];rfl
  have e:({U with aF:=U.aF++[(y.1,t)],s4:=s'}:RV).an={U.an with aF:=(U.aF++[(y.1,t)]).map Prod.fst}:=rfl;rw[e,hf,hr]
 ·have e3:decide ((k:Int)<V.aF.length)=false:=aaf Om;have e4:k=V.aF.length:=Om
  rw[e4,<-hRl,aaS]at hr;refine Rs (A6 t1 t2 t5 t10 oW.i4.aK e3) ?_;refine SY T s hr Sn (Sq t1) (Sq t2)
def Qd(o:aC h V)(w:fM V.an)(hm:∀x∈V.aD,x.1.bp.length<=2^30)(hj:∀x∈V.aF,x.1.bu.length<=2^30)(s:ym h r W U)(hr:U.an={V.an with aD:=V.an.aD.take 0,aF:=[] })(hlen:ts.length=100)(t1:slot ts 1=.ptr h.length 0)(t2:slot ts 2=.ptr (h.length+1) 0)(t4:slot ts 4=V.s3)(t5:slot ts 5=V.s4):
  WC P bP (qZ 7) [] ts W (FQ [(2,some (some 7))] (KX h V)):=by
 have hL:V.aD.length<=32:=by have:=w.l3;simpa [RV.an]using this
 have hRl:V.an.aD.length=V.aD.length:=by simp[RV.an]
 rw[P4];unfold ow fn224 gA;simp only[ai.j,ai.s,ai.r,ai.dr,ai.tl,ai.hd];refine Rs (A3 t1 t2 t4) ?_;refine WL.inv T.mix (λm ts h'=>∃(k:Nat) (U:RV),k<=V.aD.length/\m=V.aD.length-k/\ym h r h' U/\U.an={V.an with aD:=V.an.aD.take k,aF:=[] }/\ts.length=100/\slot ts 1=.ptr h.length 0/\slot ts 2=.ptr (h.length+1) 0/\slot ts 4=V.s3/\slot ts 5=V.s4/\slot ts 8=.i k) V.aD.length
  ⟨0,U,Om,rfl,s,hr,Sn,(Sq t1),(Sq t2),(Sq t4),(Sq t5),gX⟩ ?_
 clear t1 t2 t4 t5 hlen s hr;rintro _ ts W ⟨k,U,hk,rfl,s,hr,hlen,t1,t2,t4,t5,t8⟩;have oW:=o.ext s.ex;by_cases hlt:k<V.aD.length
 ·have e3:=eO hlt;have e5:=wrapN (n:=k) Om;have ix:=oW.i3.dK (kk:=.i64) hlt;obtain⟨y,hy⟩:∃y,y=V.aD[k]:=⟨_,rfl⟩;have U8:y∈V.aD:=by rw[hy];exact aat _
  have ld:∀{k':ah},Ext W k'->ao (some 4) (cT V.s3 4 k) (λb=>k'[b]?)=some (.agg (aS y),.ar):=λ{k'} e=>by rw[hy];exact oW.i3.lL hlt e
  have oy:=oW.e3 y U8;have ZG:=oy.one;unfold aS at ld;obtain⟨n,hn⟩:∃n,n=W.length:=⟨_,rfl⟩;refine Rs (mE t1 t2 t4 t5 t8 oW.i3.aK e3 ix @ld @ZG) ?_;refine WR.qQ (N:=n+1) ba (by rw[hn];simp) (oy.ext Xx) (by have:=hm y U8;simp only[aak];omega) λt g f=>?_
  have p1:=f.aT.one;rw[<-hn];obtain⟨W3,TL⟩:∃W3,W3=W++[ak.b [AV.str y.1.name,AV.str y.1.gives,AV.str y.1.line,y.2]]++[.b []]++g:=⟨_,rfl⟩;rw[<-TL]at f ⊢;have Zo:Ext W W3:=by rw[TL];exact Xx
  have l3:n+2<=W3.length:=by rw[TL,hn];simp only[aac,aah,aal];omega
  have m3:W3[n]? =some (.b [AV.str y.1.name,AV.str y.1.gives,AV.str y.1.line,y.2]):=by rw[TL,hn];exact(show Ext (W++[ak.b [AV.str y.1.name,AV.str y.1.gives,AV.str y.1.line,y.2]]) _ from Xx).some ba
  have YO:aV 1 (.ptr n 3) t (λz=>W3[z]?)=some (az,.set n (.b [AV.str y.1.name,AV.str y.1.gives,AV.str y.1.line,t])):=(aL m3).trans (cg p1 (by show 3+1<=4;omega));refine Rs (A7 t1 t2 t4 t5 t8 @YO @p1) ?_;obtain⟨W4,Uk⟩:∃W4,W4=W3.set n (.b [AV.str y.1.name,AV.str y.1.gives,AV.str y.1.line,t]):=⟨_,rfl⟩;rw[<-Uk];have l4:W4.length=W3.length:=by rw[Uk,aaY]
  have k4:∀i,i≠n->W4[i]? =W3[i]? :=λi hi=>by rw[Uk,aau (abG hi)]
  have m4:W4[n]? =some (.b [AV.str y.1.name,AV.str y.1.gives,AV.str y.1.line,t]):=by rw[Uk,aaw Om]
  have e4:Ext W W4:=by rw[Uk];exact Zo.jo Om
  have s4:ym h r W4 U:=s.grow e4;have f4:Fr (n+1) W4 t 1 (y.1.bp.map aq):=f.aB λi hi=>k4 i (by have:=(f.bM hi).1;omega)
  have lr:=@fx _ _ _ s4.bk.m;have ln4:=@fx _ _ _ m4;clear Zo m3 YO f Uk TL;refine Rs (A9 t1 t2 t4 t5 t8 @lr @ln4 @gh @p1) ?_;have Vu:U.aD.length<=32:=by
   have h1:U.an.aD.length=U.aD.length:=by simp[RV.an]
   exact IA
  obtain⟨z,hz⟩:∃z:List AV,z=aS (y.1,t):=⟨_,rfl⟩;have Vh:[AV.str y.1.name,AV.str y.1.gives,AV.str y.1.line,t]=z:=by rw[hz];rfl
  rw[Vh];have ZN:aI (W4++[ak.cells z true true]) (AV.slice W4.length 0 1 4) 4 [z]:=by
   have:=(Fr.push (N:=0) (es:=4) (h:=W4) (aaQ _) [z] (λx hx=>by rw[aaG]at hx;rw[hx,hz];rfl)).aT
   simpa using this
  refine WR.ga (h0:=h) (cs:=U.aD.map aS) (ys:=[z]) ((s4.bk.o.i3).app _) ZN De Si (by simp only[aak,aah,aal];omega) (s4.ex.trans Xx) ?_;intro g' TB hff hkp;have hrow:U.aD.map aS++[z]=(U.aD++[(y.1,t)]).map aS:=by rw[aap,hz];rfl
  rw[hrow]at hff;rw[hrow];obtain⟨s',Tq⟩:∃s',s' =AV.slice (W4++[ak.cells z true true]).length 0 ((U.aD++[(y.1,t)]).map aS).length 4:=⟨_,rfl⟩;rw[<-Tq]at hff;rw[<-Tq];have Vj:sB s' =some (W4.length+1):=by rw[Tq];simp[sB]
  have q1:s'.one=true:=by rw[Tq];rfl
  obtain⟨W5,VT⟩:∃W5,W5=h++g':=⟨_,rfl⟩;rw[<-VT]at TB hff hkp ⊢;have hk1:∀i,i<W4.length->sB U.s3≠some i->W5[i]? =W4[i]? :=λi hi hne=>by
   exact OK
  have hl5:W4.length<=W5.length:=by rw[TB];simp only[aac];omega
  have htb:∀i,sB t=some i->W.length<=i/\i<W4.length:=λi hi=>by have:=f4.bM hi;omega
  have bN:∀i,sB t=some i->sB U.s3≠some i:=λi hi e=>by
   exact O0
  have f5:Fr h.length W5 t 1 (y.1.bp.map aq):=(f4.aB λi hi=>hk1 i (htb i hi).2 (bN i hi)).low (by have:=s.bk.lt;omega);have Zm:W.length<=W4.length:=e4.len;have s5:ym h r (W5.set h.length (.b (U.row.set 4 s'))) {U with aD:=U.aD++[(y.1,t)],s3:=s'}:=
   s.p3 hff f5 (λi hi=>.inr (by rw[Vj]at hi;cases hi;omega)) (λi hi=>⟨(htb i hi).1,λe=>by rw[Vj]at e;cases e;have:=(htb _ hi).2;omega⟩) (λi hi hne=>(hk1 i Om hne).trans (e4.get hi)) (by rw[VT];exact⟨_,rfl⟩) Om
  have mB:W5[h.length]? =some (.b U.row):=(hk1 _ s4.bk.lt (λz=>s4.bk.ne (by rw[<-z];simp[RV.bl]))).trans s4.bk.m;have U3:aV 1 (.ptr h.length 4) s' (λz=>W5[z]?)=some (az,.set h.length (.b (U.row.set 4 s'))):=(aL mB).trans (cg q1 (by show 4+1<=7;omega));refine Rs (A8 t1 t2 t4 t5 t8 @U3 q1 e5) ?_;refine⟨_,Om,k+1,_,Om,rfl,s5,?_,rfl⟩;have:V.an.aD.take (k+1)=V.an.aD.take k++[y.1]:=by
   exact O1
  rw[this];have hf:(U.aD++[(y.1,t)]).map Prod.fst=V.an.aD.take k++[y.1]:=by
   have h1:U.an.aD=V.an.aD.take k:=by rw[hr]
   rw[aap,<-h1];rfl
  have e:({U with aD:=U.aD++[(y.1,t)],s3:=s'}:RV).an={U.an with aD:=(U.aD++[(y.1,t)]).map Prod.fst}:=rfl;rw[e,hf,hr]
 ·have e3:decide ((k:Int)<V.aD.length)=false:=aaf Om;have e4:k=V.aD.length:=Om
  rw[e4,<-hRl,aaS]at hr;refine Rs (A7 t1 t2 t4 t5 t8 oW.i3.aK e3) ?_;refine Qc T o w hj s hr Sn (Sq t1) (Sq t2) (Sq t5)
def Qe(o:aC h V)(w:fM V.an)(hs:∀x∈V.aj,x.1.aG.length<=2^30)(hm:∀x∈V.aD,x.1.bp.length<=2^30)(hj:∀x∈V.aF,x.1.bu.length<=2^30)(s:ym h r W U)(hr:U.an={V.an with aj:=V.an.aj.take 0,aD:=[],aF:=[] })(hlen:ts.length=100)(t1:slot ts 1=.ptr h.length 0)(t2:slot ts 2=.ptr (h.length+1) 0)(t3:slot ts 3=V.s2)(t4:slot ts 4=V.s3)(t5:slot ts 5=V.s4):
  WC P bP (qZ 6) [] ts W (FQ [(2,some (some 7))] (KX h V)):=by
 have hL:V.aj.length<=64:=by have:=w.l2;simpa [RV.an]using this
 have hRl:V.an.aj.length=V.aj.length:=by simp[RV.an]
 rw[P5];unfold ow fn224 gA;simp only[ai.j,ai.s,ai.r,ai.dr,ai.tl,ai.hd];refine Rs (A3 t1 t2 t3) ?_;refine WL.inv T.mix (λm ts h'=>∃(k:Nat) (U:RV),k<=V.aj.length/\m=V.aj.length-k/\ym h r h' U/\U.an={V.an with aj:=V.an.aj.take k,aD:=[],aF:=[] }/\ts.length=100/\slot ts 1=.ptr h.length 0/\slot ts 2=.ptr (h.length+1) 0/\slot ts 3=V.s2/\slot ts 4=V.s3/\slot ts 5=V.s4/\slot ts 6=.i k) V.aj.length
  ⟨0,U,Om,rfl,s,hr,Sn,(Sq t1),(Sq t2),(Sq t3),(Sq t4),(Sq t5),gX⟩ ?_
 clear t1 t2 t3 t4 t5 hlen s hr;rintro _ ts W ⟨k,U,hk,rfl,s,hr,hlen,t1,t2,t3,t4,t5,t6⟩;have oW:=o.ext s.ex;by_cases hlt:k<V.aj.length
 ·have e3:=eO hlt;have e5:=wrapN (n:=k) Om;have ix:=oW.i2.dK (kk:=.i64) hlt;obtain⟨y,hy⟩:∃y,y=V.aj[k]:=⟨_,rfl⟩;have U8:y∈V.aj:=by rw[hy];exact aat _
  have ld:∀{k':ah},Ext W k'->ao (some 3) (cT V.s2 3 k) (λb=>k'[b]?)=some (.agg (bj y),.ar):=λ{k'} e=>by rw[hy];exact oW.i2.lL hlt e
  have oy:=oW.e2 y U8;have ZG:=oy.one;unfold bj at ld;obtain⟨n,hn⟩:∃n,n=W.length:=⟨_,rfl⟩;refine Rs (n6 t1 t2 t3 t4 t5 t6 oW.i2.aK e3 ix @ld @ZG) ?_;refine WR.qQ (N:=n+1) ba (by rw[hn];simp) (oy.ext Xx) (by have:=hs y U8;simp only[aak];omega) λt g f=>?_
  have p1:=f.aT.one;rw[<-hn];obtain⟨W3,TL⟩:∃W3,W3=W++[ak.b [AV.str y.1.name,AV.str y.1.line,y.2]]++[.b []]++g:=⟨_,rfl⟩;rw[<-TL]at f ⊢;have Zo:Ext W W3:=by rw[TL];exact Xx
  have l3:n+2<=W3.length:=by rw[TL,hn];simp only[aac,aah,aal];omega
  have m3:W3[n]? =some (.b [AV.str y.1.name,AV.str y.1.line,y.2]):=by rw[TL,hn];exact(show Ext (W++[ak.b [AV.str y.1.name,AV.str y.1.line,y.2]]) _ from Xx).some ba
  have YO:aV 1 (.ptr n 2) t (λz=>W3[z]?)=some (az,.set n (.b [AV.str y.1.name,AV.str y.1.line,t])):=(aL m3).trans (cg p1 (by show 2+1<=3;omega));refine Rs (A8 t1 t2 t3 t4 t5 t6 @YO @p1) ?_;obtain⟨W4,Uk⟩:∃W4,W4=W3.set n (.b [AV.str y.1.name,AV.str y.1.line,t]):=⟨_,rfl⟩;rw[<-Uk];have l4:W4.length=W3.length:=by rw[Uk,aaY]
  have k4:∀i,i≠n->W4[i]? =W3[i]? :=λi hi=>by rw[Uk,aau (abG hi)]
  have m4:W4[n]? =some (.b [AV.str y.1.name,AV.str y.1.line,t]):=by rw[Uk,aaw Om]
  have e4:Ext W W4:=by rw[Uk];exact Zo.jo Om
  have s4:ym h r W4 U:=s.grow e4;have f4:Fr (n+1) W4 t 1 (y.1.aG.map aq):=f.aB λi hi=>k4 i (by have:=(f.bM hi).1;omega)
  have lr:=@fx _ _ _ s4.bk.m;have ln4:=@fx _ _ _ m4;clear Zo m3 YO f Uk TL;refine Rs (mE t1 t2 t3 t4 t5 t6 @lr @ln4 @fU @p1) ?_;have Vu:U.aj.length<=64:=by
   have h1:U.an.aj.length=U.aj.length:=by simp[RV.an]
   exact IA
  obtain⟨z,hz⟩:∃z:List AV,z=bj (y.1,t):=⟨_,rfl⟩;have Vh:[AV.str y.1.name,AV.str y.1.line,t]=z:=by rw[hz];rfl
  rw[Vh];have ZN:aI (W4++[ak.cells z true true]) (AV.slice W4.length 0 1 3) 3 [z]:=by
   exact L5
  refine WR.ga (h0:=h) (cs:=U.aj.map bj) (ys:=[z]) ((s4.bk.o.i2).app _) ZN De Si (by simp only[aak,aah,aal];omega) (s4.ex.trans Xx) ?_;intro g' TB hff hkp;have hrow:U.aj.map bj++[z]=(U.aj++[(y.1,t)]).map bj:=by rw[aap,hz];rfl
  rw[hrow]at hff;rw[hrow];obtain⟨s',Tq⟩:∃s',s' =AV.slice (W4++[ak.cells z true true]).length 0 ((U.aj++[(y.1,t)]).map bj).length 3:=⟨_,rfl⟩;rw[<-Tq]at hff;rw[<-Tq];have Vj:sB s' =some (W4.length+1):=by rw[Tq];simp[sB]
  have q1:s'.one=true:=by rw[Tq];rfl
  obtain⟨W5,VT⟩:∃W5,W5=h++g':=⟨_,rfl⟩;rw[<-VT]at TB hff hkp ⊢;have hk1:∀i,i<W4.length->sB U.s2≠some i->W5[i]? =W4[i]? :=λi hi hne=>by
   exact OK
  have hl5:W4.length<=W5.length:=by rw[TB];simp only[aac];omega
  have htb:∀i,sB t=some i->W.length<=i/\i<W4.length:=λi hi=>by have:=f4.bM hi;omega
  have bN:∀i,sB t=some i->sB U.s2≠some i:=λi hi e=>by
   exact O0
  have f5:Fr h.length W5 t 1 (y.1.aG.map aq):=(f4.aB λi hi=>hk1 i (htb i hi).2 (bN i hi)).low (by have:=s.bk.lt;omega);have Zm:W.length<=W4.length:=e4.len;have s5:ym h r (W5.set h.length (.b (U.row.set 3 s'))) {U with aj:=U.aj++[(y.1,t)],s2:=s'}:=
   s.p2 hff f5 (λi hi=>.inr (by rw[Vj]at hi;cases hi;omega)) (λi hi=>⟨(htb i hi).1,λe=>by rw[Vj]at e;cases e;have:=(htb _ hi).2;omega⟩) (λi hi hne=>(hk1 i Om hne).trans (e4.get hi)) (by rw[VT];exact⟨_,rfl⟩) Om
  have mB:W5[h.length]? =some (.b U.row):=(hk1 _ s4.bk.lt (λz=>s4.bk.ne (by rw[<-z];simp[RV.bl]))).trans s4.bk.m;have U3:aV 1 (.ptr h.length 3) s' (λz=>W5[z]?)=some (az,.set h.length (.b (U.row.set 3 s'))):=(aL mB).trans (cg q1 (by show 3+1<=7;omega));refine Rs (A9 t1 t2 t3 t4 t5 t6 @U3 q1 e5) ?_;refine⟨_,Om,k+1,_,Om,rfl,s5,?_,rfl⟩;have:V.an.aj.take (k+1)=V.an.aj.take k++[y.1]:=by
   exact O1
  rw[this];have hf:(U.aj++[(y.1,t)]).map Prod.fst=V.an.aj.take k++[y.1]:=by
   have h1:U.an.aj=V.an.aj.take k:=by rw[hr]
   rw[aap,<-h1];rfl
  have e:({U with aj:=U.aj++[(y.1,t)],s2:=s'}:RV).an={U.an with aj:=(U.aj++[(y.1,t)]).map Prod.fst}:=rfl;rw[e,hf,hr]
 ·have e3:decide ((k:Int)<V.aj.length)=false:=aaf Om;have e4:k=V.aj.length:=Om
  rw[e4,<-hRl,aaS]at hr;refine Rs (A8 t1 t2 t3 t4 t5 t6 oW.i2.aK e3) ?_;refine Qd T o w hm hj s hr Sn (Sq t1) (Sq t2) (Sq t4) (Sq t5)
def Qf(o:aC h V)(w:fM V.an)(hs:∀x∈V.aj,x.1.aG.length<=2^30)(hm:∀x∈V.aD,x.1.bp.length<=2^30)(hj:∀x∈V.aF,x.1.bu.length<=2^30)
  {W0}(hW0:W0=h++[.b V.row]++[.b lG]) (hlen:ts.length=100) (t1:slot ts 1=.ptr h.length 0) (t2:slot ts 2=.ptr (h.length+1) 0):
  WC P bP (qZ 1) [] ts W0 (FQ [(2,some (some 7))] (KX h V)):=by
 have nb0:V.lines.length<=16:=w.l0;have nb5:V.aP.length<=16:=w.l5;have nb1:V.aG.length<=16:=w.l1;have o0:=o.i0.one;have o1:=o.i1.one;have o2:=o.i2.one;have o3:=o.i3.one;have o4:=o.i4.one;have o5:=o.i5.one;have m0:W0[h.length]? =some (.b [AV.i V.tick,V.s0,V.s1,V.s2,V.s3,V.s4,V.s5]):=by rw[hW0];simp;rfl
 have z0:W0[h.length+1]? =some (.b lG):=by rw[hW0];simp
 have e0:Ext h W0:=by rw[hW0];exact Xx
 rw[Qa,P9,P8,P7,P6];unfold ow fn224 gA;simp only[ai.j,ai.s,ai.r,ai.dr,ai.tl,ai.hd];obtain⟨n0,Yc⟩:∃n,n=W0.length:=⟨_,rfl⟩;have lr0:=@fx _ _ _ m0;refine Rs (A4 t1 t2 @lr0 @o0) ?_;refine WR.qQ (N:=n0) (w:=32) ba (Nat.le_of_eq Yc) ((o.i0.ext e0).ext Xx) (by simp only[aak];omega) λa0 g0 f0=>?_
 have p0:=f0.aT.one;obtain⟨Y0,hY0⟩:∃Y,Y=W0++[ak.b []]++g0:=⟨_,rfl⟩;rw[<-hY0]at f0 ⊢;have eY0:Ext W0 Y0:=by rw[hY0];exact Xx
 have sb0:aV 1 (.ptr h.length 1) a0 (λz=>Y0[z]?)=some (az,.set h.length (.b [AV.i V.tick,a0,V.s1,V.s2,V.s3,V.s4,V.s5])):=(aL (eY0.some m0)).trans (cg p0 (by show 1+1<=7;omega));refine Rs (A4 t1 t2 @sb0 @p0) ?_;obtain⟨W1,Wh⟩:∃W,W=Y0.set h.length (.b [AV.i V.tick,a0,V.s1,V.s2,V.s3,V.s4,V.s5]):=⟨_,rfl⟩;rw[<-Wh];have l1:W0.length<=W1.length:=by rw[Wh,aaY];exact eY0.len
 have k1:∀i,i<W0.length->i≠h.length->W1[i]? =W0[i]? :=λi hi hne=>by rw[Wh,aau (abG hne),eY0.get hi]
 have m1:W1[h.length]? =some (.b [AV.i V.tick,a0,V.s1,V.s2,V.s3,V.s4,V.s5]):=by rw[Wh,aaw (by have:=eY0.len;have:=(aad.1 m0).1;omega)]
 have e1:Ext h W1:=by rw[Wh];exact(e0.trans eY0).jo (aar _)
 have z1:W1[h.length+1]? =some (.b lG):=(k1 _ (aad.1 z0).1 Om).trans z0;have c0:Fr n0 W1 a0 3 (V.lines.map cF):=f0.aB λi hi=>by
  have:=(f0.bM hi).1;have:=(aad.1 z0).1;rw[Wh,aau Om]
 clear f0 sb0 lr0;obtain⟨n1,hn1⟩:∃n,n=W1.length:=⟨_,rfl⟩;have lr1:=@fx _ _ _ m1;refine Rs (A4 t1 t2 @lr1 @o1) ?_;refine WR.qQ (N:=n1) (w:=24) ba (Nat.le_of_eq hn1) ((o.i1.ext e1).ext Xx) (by simp only[aak];omega) λa1 g1 f1=>?_
 have p1:=f1.aT.one;obtain⟨Y1,XT⟩:∃Y,Y=W1++[ak.b []]++g1:=⟨_,rfl⟩;rw[<-XT]at f1 ⊢;have eY1:Ext W1 Y1:=by rw[XT];exact Xx
 have sb1:aV 1 (.ptr h.length 2) a1 (λz=>Y1[z]?)=some (az,.set h.length (.b [AV.i V.tick,a0,a1,V.s2,V.s3,V.s4,V.s5])):=(aL (eY1.some m1)).trans (cg p1 (by show 2+1<=7;omega));refine Rs (A4 t1 t2 @sb1 @p1) ?_;obtain⟨W2,T6⟩:∃W,W=Y1.set h.length (.b [AV.i V.tick,a0,a1,V.s2,V.s3,V.s4,V.s5]):=⟨_,rfl⟩;rw[<-T6];have l2:W1.length<=W2.length:=by rw[T6,aaY];exact eY1.len
 have k2:∀i,i<W1.length->i≠h.length->W2[i]? =W1[i]? :=λi hi hne=>by rw[T6,aau (abG hne),eY1.get hi]
 have m2:W2[h.length]? =some (.b [AV.i V.tick,a0,a1,V.s2,V.s3,V.s4,V.s5]):=by rw[T6,aaw (by have:=eY1.len;have:=(aad.1 m1).1;omega)]
 have e2:Ext h W2:=by rw[T6];exact(e1.trans eY1).jo (aar _)
 have z2:W2[h.length+1]? =some (.b lG):=(k2 _ (aad.1 z1).1 Om).trans z1;have c1:Fr n1 W2 a1 2 (V.aG.map eo):=f1.aB λi hi=>by
  have:=(f1.bM hi).1;have:=(aad.1 z1).1;rw[T6,aau Om]
 clear f1 sb1 lr1;obtain⟨n2,hn2⟩:∃n,n=W2.length:=⟨_,rfl⟩;have lr2:=@fx _ _ _ m2;refine Rs (A4 t1 t2 @lr2 @o5) ?_;refine WR.qQ (N:=n2) (w:=48) ba (Nat.le_of_eq hn2) ((o.i5.ext e2).ext Xx) (by simp only[aak];omega) λa5 g2 f5=>?_
 have p5:=f5.aT.one;obtain⟨Y2,Vt⟩:∃Y,Y=W2++[ak.b []]++g2:=⟨_,rfl⟩;rw[<-Vt]at f5 ⊢;have VO:Ext W2 Y2:=by rw[Vt];exact Xx
 have sb2:aV 1 (.ptr h.length 6) a5 (λz=>Y2[z]?)=some (az,.set h.length (.b [AV.i V.tick,a0,a1,V.s2,V.s3,V.s4,a5])):=(aL (VO.some m2)).trans (cg p5 (by show 6+1<=7;omega));refine Rs (A4 t1 t2 @sb2 @p5) ?_;obtain⟨W3,TL⟩:∃W,W=Y2.set h.length (.b [AV.i V.tick,a0,a1,V.s2,V.s3,V.s4,a5]):=⟨_,rfl⟩;rw[<-TL];have l3:W2.length<=W3.length:=by rw[TL,aaY];exact VO.len
 have k3:∀i,i<W2.length->i≠h.length->W3[i]? =W2[i]? :=λi hi hne=>by rw[TL,aau (abG hne),VO.get hi]
 have m3:W3[h.length]? =some (.b [AV.i V.tick,a0,a1,V.s2,V.s3,V.s4,a5]):=by rw[TL,aaw (by have:=VO.len;have:=(aad.1 m2).1;omega)]
 have e3:Ext h W3:=by rw[TL];exact(e2.trans VO).jo (aar _)
 have z3:W3[h.length+1]? =some (.b lG):=(k3 _ (aad.1 z2).1 Om).trans z2;have c5:Fr n2 W3 a5 4 (V.aP.map dx):=f5.aB λi hi=>by
  have:=(f5.bM hi).1;have:=(aad.1 z2).1;rw[TL,aau Om]
 clear f5 sb2 lr2;have lr3:=@fx _ _ _ m3;have WY:=(aad.1 m3).1;have s3:aV 1 (.ptr h.length 3) .af (λz=>W3[z]?)=some (az,.set h.length (.b [AV.i V.tick,a0,a1,.af,V.s3,V.s4,a5])):=(aL m3).trans (cg rfl (by show 3+1<=7;omega));have m4:(W3.set h.length (.b [AV.i V.tick,a0,a1,.af,V.s3,V.s4,a5]))[h.length]? =some (.b [AV.i V.tick,a0,a1,.af,V.s3,V.s4,a5]):=aaw WY;have s4:aV 1 (.ptr h.length 4) .af (λz=>(W3.set h.length (.b [AV.i V.tick,a0,a1,.af,V.s3,V.s4,a5]))[z]?)=some (az,.set h.length (.b [AV.i V.tick,a0,a1,.af,.af,V.s4,a5])):=(aL m4).trans (cg rfl (by show 4+1<=7;omega));have m5:((W3.set h.length (.b [AV.i V.tick,a0,a1,.af,V.s3,V.s4,a5])).set h.length (.b [AV.i V.tick,a0,a1,.af,.af,V.s4,a5]))[h.length]? =some (.b [AV.i V.tick,a0,a1,.af,.af,V.s4,a5]):=aaw (by rw[aaY];exact WY)
 have s5:aV 1 (.ptr h.length 5) .af (λz=>((W3.set h.length (.b [AV.i V.tick,a0,a1,.af,V.s3,V.s4,a5])).set h.length (.b [AV.i V.tick,a0,a1,.af,.af,V.s4,a5]))[z]?)=some (az,.set h.length (.b [AV.i V.tick,a0,a1,.af,.af,.af,a5])):=(aL m5).trans (cg rfl (by show 5+1<=7;omega));obtain⟨W6,Va⟩:∃W,W=W3.set h.length (.b [AV.i V.tick,a0,a1,.af,.af,.af,a5]):=⟨_,rfl⟩;have k6:∀i,i≠h.length->W6[i]? =W3[i]? :=λi hi=>by rw[Va,aau (abG hi)]
 have m6:W6[h.length]? =some (.b [AV.i V.tick,a0,a1,.af,.af,.af,a5]):=by rw[Va,aaw WY]
 have l0:n0=h.length+2:=by rw[Yc,hW0];simp
 have r0:∀i,sB a0=some i->n0<=i/\i<W1.length:=λi hi=>c0.bM hi
 have r1:∀i,sB a1=some i->n1<=i/\i<W2.length:=λi hi=>c1.bM hi
 have r5:∀i,sB a5=some i->n2<=i/\i<W3.length:=λi hi=>c5.bM hi
 have fa0:Fr h.length W6 a0 3 (V.lines.map cF):=(c0.aB λi hi=>by
  have:=r0 i hi;rw[k6 i Om,k3 i Om Om,k2 i Om Om]).low Om
 have fa1:Fr h.length W6 a1 2 (V.aG.map eo):=(c1.aB λi hi=>by
  have:=r1 i hi;rw[k6 i Om,k3 i Om Om]).low Om
 have fa5:Fr h.length W6 a5 4 (V.aP.map dx):=(c5.aB λi hi=>by
  have:=r5 i hi;rw[k6 i Om]).low Om
 obtain⟨U,hU⟩:∃U:RV,U=⟨V.tick,V.lines,V.aG,[],[],[],V.aP,a0,a1,.af,.af,.af,a5⟩:=⟨_,rfl⟩;have hbl:U.bl=[sB a0,sB a1,none,none,none,sB a5]:=by rw[hU];rfl
 have hlo:∀i,some i∈U.bl->h.length+2<=i:=λi hi=>by
  rw[hbl]at hi;simp only[aaN,abb,abP,reduceCtorEq,false_or]at hi;rcases hi with hi|hi|hi
  ·have:=r0 i hi.symm;omega
  ·have:=r1 i hi.symm;omega
  ·have:=r5 i hi.symm;omega
 have Ui:lT U.bl:=by
  rw[hbl];refine abe.2 ⟨λy hy b hb e=>?_,abe.2 ⟨λy hy b hb e=>?_,abe.2 ⟨(λy hy b hb e=>by cases hb),abe.2 ⟨(λy hy b hb e=>by cases hb),abe.2 ⟨(λy hy b hb e=>by cases hb),ab0 _ _⟩⟩⟩⟩⟩
  ·have h1:=r0 b hb;subst e;simp only[aaN,abb,abP,reduceCtorEq,false_or]at hy;rcases hy with hy|hy
   ·have:=r1 b hy.symm;omega
   ·have:=r5 b hy.symm;omega
  ·have h1:=r1 b hb;subst e;simp only[aaN,abb,abP,reduceCtorEq,false_or]at hy;have:=r5 b hy.symm;omega
 have own:cJ h.length W6 U:=by
  rw[hU]at Ui ⊢;exact⟨fa0,fa1,.nil,.nil,.nil,fa5,(λx hx=>by cases hx),(λx hx=>by cases hx),(λx hx=>by cases hx),Ui⟩
 have s:ym h (.b V.row) W6 U:=by
  refine⟨⟨own,aar _,by rw[hU];exact m6,λhi=>by have:=hlo _ hi;omega⟩,by rw[Va];exact e3.jo (aar _),by rw[<-hW0,Va,aaY];omega,λi hi=>?_,λi hi=>⟨?_,?_,λhm=>?_⟩⟩
  ·have:i≠h.length/\i<W0.length:=by rcases hi with hi|hi<;>omega
   rw[<-hW0,k6 i this.1,k3 i Om this.1,k2 i Om this.1,k1 i Om this.1]
  ·simp only[aac,aah,aal];rcases hi with hi|hi<;>omega
  ·rcases hi with hi|hi<;>omega
  ·have:=hlo _ hm;rcases hi with hi|hi<;>omega
 clear c0 c1 c5 fa0 fa1 fa5 own Ui;refine Rs (A9 t1 t2 @lr3 @o2 @o3 @o4 @s3 @s4 @s5) ?_;have aX:((W3.set h.length (.b [AV.i V.tick,a0,a1,.af,V.s3,V.s4,a5])).set h.length (.b [AV.i V.tick,a0,a1,.af,.af,V.s4,a5])).set h.length (.b [AV.i V.tick,a0,a1,.af,.af,.af,a5])=W6:=by rw[Va,List.set_set,List.set_set]
 rw[aX];exact Qe T o w hs hm hj s (by rw[hU];rfl) Sn (Sq t1) (Sq t2) Sw Sw Sw
def r224(o:aC h V)(w:fM V.an):ay P 224 [.agg V.row] h (λv h'=>∃V':RV,V'.an=V.an/\v=.agg V'.row/\cJ h.length h' V'):=by
 have i:=w.Ai;have hs:∀x∈V.aj,x.1.aG.length<=2^30:=λx hx=>by have:=(i.sh x hx).2;omega
 have hm:∀x∈V.aD,x.1.bp.length<=2^30:=λx hx=>by have:=(w.md x.1 (aaH hx)).2.1;omega
 have hj:∀x∈V.aF,x.1.bu.length<=2^30:=λx hx=>by have:=(w.jb x.1 (aaH hx)).2.2.1;omega
 refine .of T.mix (acP T.c224 (aaR some Qb)) ?_;obtain⟨ts,Tp⟩:∃ts,ts=aR 100 [.agg V.row]:=⟨_,rfl⟩;have hlen:ts.length=100:=by rw[Tp];rfl
 have t0:slot ts 0=.agg V.row:=by rw[Tp];rfl
 show WC P bP (.seq (ow 0) (qZ 1)) [] (aR 100 [.agg V.row]) h (FQ [(2,some (some 7))] (KX h V));rw[<-Tp];clear Tp;have To:=@aC.box _ _ o;unfold ow fn224 gA;simp only[ai.j,ai.s,ai.r,ai.dr,ai.tl,ai.hd];refine Rs (A2 t0 @To) ?_;refine Qf T o w hs hm hj rfl Sn Sw (by simp only[aU,aX,bz,bA,reduceAdd,reduceMul,reduceLeDiff,reduceEqDiff,bC,hlen,aay,aaB];simp)
end
end Go.Abs
namespace Go.Abs
def Ti(X:ah)(V:RV)(i:Nat):Prop:=(i<X.length/\some i∉V.bl)\/i=X.length+1\/i=X.length+2
def cI(B X:ah)(x:EV)(V:RV)(W:ah)(U:RV):Prop:=
 ff B (X++[.b V.row]++[.b x.row]++[.b lG]) X.length (Ti X V) W U
def tr(B X:ah)(V:RV)(c:Int)(R':fN):AV->ah->Prop:=λv k=>
 Ext B k/\X.length<=k.length/\(∀i,i<X.length->some i∉V.bl->k[i]? =X[i]?)/\∃V':RV,v=.dQ [.agg V'.row,.i c]/\cJ B.length k V'/\(c=0->V'.an=R')/\∀i,some i∈V'.bl->some i∈V.bl\/X.length<=i
section
variable {B X W:ah}{x:EV}{V U:RV}(s:cI B X x V W U)
include s
def cI.lr{k n a}(e:Ext W k):ao n (.ptr X.length a) (λz=>k[z]?)=dO n a (.b U.row):=aA (e.some s.bk.m)
def cI.NM:W[X.length+1]? =some (.b x.row):=by rw[ff.kp s _ (.inr (.inl rfl))];simp
def cI.NL:W[X.length+2]? =some (.b lG):=by rw[ff.kp s _ (.inr (.inr rfl))];simp
def cI.le{k n a}(e:Ext W k):ao n (.ptr (X.length+1) a) (λz=>k[z]?)=dO n a (.b x.row):=aA (e.some s.NM)
def cI.sb{k}(e:Ext W k):aV 7 (.ptr (X.length+2) 0) (.agg U.row) (λz=>k[z]?)=some (az,.set (X.length+2) (.b U.row)):=by
 have h1:=@aL 7 (X.length+2) 0 (.agg U.row) (λz=>k[z]?) _ (e.some s.NL);have st:=@aC.st _ _ s.bk.o.ok;unfold lG at h1;rw[st]at h1;exact h1
def cI.gm{k}(e:Ext W k):ao (some 7) (.ptr (X.length+2) 0) (λz=>(k.set (X.length+2) (.b U.row))[z]?)=some (.agg U.row,.ar):=by
 have hl:=(aad.1 (e.some s.NL)).1;rw[aA (aaw hl)];rfl
def cI.fa:=A4 (@cI.lr _ _ _ _ _ _ s) (@cI.le _ _ _ _ _ _ s) (@cI.sb _ _ _ _ _ _ s) (@cI.gm _ _ _ _ _ _ s)
def cI.fin{c R'}(hc:c=0->U.an=R'):tr B X V c R' (.dQ [.agg U.row,.i c]) (W.set (X.length+2) (.b U.row)):=by
 have hN:B.length<=X.length:=s.bk.hN;have YA:X.length+3<=W.length:=by have:=ff.ln s;simpa using this
 refine⟨s.ex.jo Om,by rw[aaY];omega,λi hi hv=>?_,U,rfl,s.bk.o.ar λi hi=>?_,hc,λi hi=>?_⟩
 ·rw[aau Om,ff.kp s i (.inl ⟨hi,hv⟩)];simp only[aae];exact aag hi
 ·have:i≠X.length+2:=λe=>(ff.kl s _ (.inr (.inr rfl))).2.2 (e▸hi)
  rw[aau (abG this)]
 ·by_cases h1:some i∈V.bl
  ·exact .inl h1
  ·by_cases h2:i<X.length
   ·exact absurd hi (ff.kl s i (.inl ⟨h2,h1⟩)).2.2
   ·exact .inr Om
end
def xU{h x d}(o:bd h x)(we:jf x.ev d){i:Nat}(hi:i<(aM d).length):aZ 1 x.sn (.i (i:Int))=some (cT x.sn 1 i,.ar)/\∀{k},Ext h k->ao none (cT x.sn 1 i) (λb=>k[b]?)=some (.str (aO x.ev i),.ar):=by
 have hi':i<x.ev.names.length:=by rw[we.nl];exact hi
 refine⟨o.n.dK hi',λ{k} e=>?_⟩;have:aO x.ev i=x.ev.names[i]:=by rw[aO,aaW,aai hi'];rfl
 rw[this];exact o.n.jS hi' rfl e
def bR{h x d}(o:bd h x)(we:jf x.ev d)(i:Nat)(z:Int)(hz:(i:Int)=z)(hi:i<(aM d).length):aZ 1 x.sn (.i z)=some (cT x.sn 1 i,.ar)/\∀{k},Ext h k->ao none (cT x.sn 1 i) (λb=>k[b]?)=some (.str (aO x.ev i),.ar):=hz▸xU o we hi
def NY{h x d}(o:bd h x)(we:jf x.ev d){i:Nat}(hi:i<bQ d):aZ 1 x.sv (.i (i:Int))=some (cT x.sv 1 i,.ar)/\(∀{k},Ext h k->ao none (cT x.sv 1 i) (λb=>k[b]?)=some (.i (bL x.ev i),.ar))/\0<=bL x.ev i/\bL x.ev i<=999999999:=by
 have hi':i<x.ev.bK.length:=by rw[we.vl];exact hi
 have:bL x.ev i=x.ev.bK[i]:=by rw[bL,aaW,aai hi'];rfl
 refine⟨o.v.dK hi',λ{k} e=>?_,we.vr _ (qT hi')⟩;rw[this];exact o.v.jS hi' rfl e
def cX{h x d}(o:bd h x)(we:jf x.ev d)(i:Nat)(z:Int)(hz:(i:Int)=z)(hi:i<bQ d):aZ 1 x.sv (.i z)=some (cT x.sv 1 i,.ar)/\(∀{k},Ext h k->ao none (cT x.sv 1 i) (λb=>k[b]?)=some (.i (bL x.ev i),.ar))/\0<=bL x.ev i/\bL x.ev i<=999999999:=hz▸NY o we hi
def WR.qh{P ro ks ts Q B Y s es w cs z d l}
  (hs:Fr B.length Y s es cs) (hz:z.length=es) (he:Ext B Y) (hes:0<es) (dV:(cs.length+1)*w<=2^46)
  (K:∀(W5:ah) (s':AV),Ext B W5->Fr B.length W5 s' es (cs++[z])->(∀i,sB s' =some i->Y.length<i)->s'.one=true->Y.length<=W5.length->(∀i,i<Y.length->sB s≠some i->W5[i]? =Y[i]?)->WP P ro l ks (put ts d s') W5 Q):
  WR P ro (qe es w s (.slice Y.length 0 1 es) (λb=>(Y++[ak.cells z true true])[b]?) (Y++[ak.cells z true true]).length) false d l ks ts (Y++[ak.cells z true true]) Q:=by
 have ZN:aI (Y++[ak.cells z true true]) (AV.slice Y.length 0 1 es) es [z]:=by
  have:=(Fr.push (N:=0) (es:=es) (h:=Y) (aaQ _) [z] (λx hx=>by rw[aaG]at hx;rw[hx,hz])).aT
  simpa using this
 refine WR.ga (h0:=B) (cs:=cs) (ys:=[z]) (hs.app _) ZN hes Si (by simpa using dV) (he.trans (Ext.app _ (Ext.refl _))) ?_;intro g' TB hff hkp;refine K _ _ ⟨_,rfl⟩ hff (λi hi=>by cases hi;simp) rfl (by rw[TB];simp only[aac,aav];omega) (λi hi hne=>?_);exact OK
def Be:ai:=(fn225).body.tl
def PW:fn225=⟨250,2,[(4,some (some 7)),(5,none)],.seq ((fn225).body.hd) Be⟩:=rfl
set_option maxRecDepth 10000
attribute [local irreducible] WP WC WE WB WR WF WL WG eZ WM
section
variable {P:Program}(T:eD P) {B X W:ah}{ts:TS}{V:RV}{x:EV}
include T
def FB(w:fM V.an)(ox:bd B x)(we:jf x.ev .line)(nk:tH V.an x.ev .line)(s:cI B X x V W V)(hlen:ts.length=250)(t2:slot ts 2=.ptr X.length 0)(t3:slot ts 3=.ptr (X.length+1) 0)(t4:slot ts 4=.ptr (X.length+2) 0):
  WC P bP Be [] ts W (FQ [(4,some (some 7)),(5,none)] (tr B X V (bD V.an x.ev .line) (dD V.an x.ev .line))):=by
 have ow:=ox.ext s.ex;have oV:=s.bk.o.ok;have Tw:x.ev.kind=bf .line:=bY we.kd;obtain⟨lr,le,sb,gm⟩:=cI.fa s;obtain⟨i0,d0⟩:=bR ow we 0 0 rfl De;obtain⟨j0,f0,q0⟩:=cX ow we 0 0 rfl De;obtain⟨j1,f1,q1⟩:=cX ow we 1 1 rfl De;unfold Be fn225;simp only[ai.tl];refine Rs (K3 t2 t3 t4 @le @lr @bB @aN @aW @gJ @aE @Tw @gT @j0 @f0 @j1 @f1 @aaE) ?_;refine WF.ce T.c20 (r20 T _ _ _) λg1=>?_
 obtain⟨W2,T6⟩:∃Z,Z=W++g1:=⟨_,rfl⟩;rw[<-T6];have TM:cI B X x V W2 V:=by rw[T6];exact ff.grow s ⟨g1,rfl⟩
 have ow:=ox.ext TM.ex;have oV:=TM.bk.o.ok;obtain⟨lr,le,sb,gm⟩:=cI.fa TM;by_cases h1:bG (bL x.ev 1) 1 64=0
 case neg=>
  have e1:decide (bG (bL x.ev 1) 1 64≠0)=true:=aaj h1;refine Rs (A8 t2 t3 t4 e1 @lr @aE @sb @gm) ?_;rw[bD,aas h1];exact K5
 have e1:decide (bG (bL x.ev 1) 1 64≠0)=false:=aaf (λz=>z h1);by_cases h2:16<=V.lines.length
 case pos=>
  have e2:decide ((16:Int)<=(V.lines.length:Int))=true:=aaj Om;refine Rs (n6 t2 t3 t4 e1 @gJ oV.i0.aK e2 @lr @aE @sb @gm) ?_;rw[bD,aao (λz=>z h1),aas (show 16<=V.an.lines.length from h2)];exact K5
 have e2:decide ((16:Int)<=(V.lines.length:Int))=false:=aaf Om;obtain⟨i0,d0⟩:=bR ow we 0 0 rfl De;obtain⟨j1,f1,q1⟩:=cX ow we 1 1 rfl De;refine Rs (B4 t2 t3 t4 e1 @le @lr @gJ oV.i0.aK e2 @aN @aW @i0 @d0 @j1 @f1) ?_;have UG:bD V.an x.ev .line=0:=by rw[bD,aao (λz=>z h1),aao (show ¬16<=V.an.lines.length from h2)]
 obtain⟨y,hy⟩:∃y:iO,y=⟨aO x.ev 0,bL x.ev 1,false⟩:=⟨_,rfl⟩;obtain⟨z,hz⟩:∃z:List AV,z=cF y:=⟨_,rfl⟩;have Vh:[AV.str (aO x.ev 0),.i (bL x.ev 1),.bool false]=z:=by rw[hz,hy];rfl
 rw[Vh];refine WR.qh (B:=B) (cs:=V.lines.map cF) (TM.bk.o.i0) (by rw[hz];rfl) TM.ex De (by have:=w.len.l0;rw[aak];omega) ?_;intro W5 s' x5 hff hn5 q5 l5 hk5;have hrow:V.lines.map cF++[z]=(V.lines++[y]).map cF:=by rw[aap,hz];rfl
 rw[hrow]at hff;have s5:cI B X x V (W5.set X.length (.b (V.row.set 1 s'))) {V with lines:=V.lines++[y],s0:=s'}:=ff.p0 TM hff (λi hi=>.inr (acV (hn5 i hi))) hk5 x5 l5;have mB:W5[X.length]? =some (.b V.row):=(hk5 _ TM.bk.lt (λz=>TM.bk.ne (by rw[<-z];simp[RV.bl]))).trans TM.bk.m;have U3:aV 1 (.ptr X.length 1) s' (λz=>W5[z]?)=some (az,.set X.length (.b (V.row.set 1 s'))):=(aL mB).trans (cg q5 (by show 1+1<=7;omega));refine Rs (A5 t2 t3 t4 @U3 q5) ?_;obtain⟨W6,Va⟩:∃Z,Z=W5.set X.length (.b (V.row.set 1 s')):=⟨_,rfl⟩;rw[<-Va]at s5 ⊢;obtain⟨lr,le,sb,gm⟩:=cI.fa s5;refine Rs (A7 t2 t3 t4 @lr @aE @sb @gm) ?_
 rw[UG];exact cI.fin s5 (λ_=>by rw[hy];rfl)
theorem Fz(w:fM V.an)(ox:bd B x)(we:jf x.ev .tape)(nk:tH V.an x.ev .tape)(s:cI B X x V W V)(hlen:ts.length=250)(t2:slot ts 2=.ptr X.length 0)(t3:slot ts 3=.ptr (X.length+1) 0)(t4:slot ts 4=.ptr (X.length+2) 0):
  WC P bP Be [] ts W (FQ [(4,some (some 7)),(5,none)] (tr B X V (bD V.an x.ev .tape) (dD V.an x.ev .tape))):=by
 have ow:=ox.ext s.ex;have oV:=s.bk.o.ok;have Tw:x.ev.kind=bf .tape:=bY we.kd;obtain⟨lr,le,sb,gm⟩:=cI.fa s;obtain⟨i0,d0⟩:=bR ow we 0 0 rfl De;obtain⟨j0,f0,q0⟩:=cX ow we 0 0 rfl De;obtain⟨j1,f1,q1⟩:=cX ow we 1 1 rfl De;unfold Be fn225;simp only[ai.tl];by_cases h1:999999999<bL x.ev 0+bL x.ev 1
 case pos=>
  have e1:decide ((999999999:Int)<bL x.ev 0+bL x.ev 1)=true:=aaj h1;have hw:IntKind.i64.wrap (bL x.ev 0+bL x.ev 1)=bL x.ev 0+bL x.ev 1:=aY Om Om;refine pP (OW @t2 @t3 @t4 @le @lr @bB @aN @aW @aE @Tw @gT @iU @aaJ @j0 @f0 @j1 @f1 @aaE @hw @e1 @sb @gm) ?_;rw[bD,aas h1];exact z148
 have e1:decide ((999999999:Int)<bL x.ev 0+bL x.ev 1)=false:=aaf h1;have hw:IntKind.i64.wrap (bL x.ev 0+bL x.ev 1)=bL x.ev 0+bL x.ev 1:=aY Om Om;by_cases h2:16<=V.aG.length
 case pos=>
  have e2:decide ((16:Int)<=(V.aG.length:Int))=true:=aaj Om
  repeat (first|simp (config:={maxSteps:=1000000}) only[aU,aX,bz,bA,reduceAdd,reduceMul,reduceLeDiff,reduceEqDiff,bC,hlen,aay,aaB,t2,t3,t4,le,lr,bB,aN,aW,aE,lZ,Tw,gT,iU,reduceCtorEq,aaJ,j0,f0,j1,f1,aaE,hw,e1,oV.i1.aK,e2,sb,gm]|simp (config:={maxSteps:=1000000}) (disch:=first|(simp only[aac,aah,aal]<;>omega)|rfl|omega|fail) only[gp,aU,aX,bz,bA,reduceAdd,reduceMul,reduceLeDiff,reduceEqDiff,bC,hlen,aay,aaB,t2,t3,t4,le,lr,bB,aN,aW,aE,lZ,Tw,gT,iU,reduceCtorEq,aaJ,j0,f0,j1,f1,aaE,hw,e1,oV.i1.aK,e2,sb,gm])
  rw[bD,aao h1,aas (show 16<=V.an.aG.length from h2)];exact z148
 have e2:decide ((16:Int)<=(V.aG.length:Int))=false:=aaf Om
 repeat (first|simp (config:={maxSteps:=1000000}) only[aU,aX,bz,bA,reduceAdd,reduceMul,reduceLeDiff,reduceEqDiff,bC,hlen,aay,aaB,t2,t3,t4,le,lr,bB,aN,aW,aE,lZ,Tw,gT,iU,reduceCtorEq,aaJ,j0,f0,j1,f1,aaE,hw,e1,oV.i1.aK,e2,i0,d0]|simp (config:={maxSteps:=1000000}) (disch:=first|(simp only[aac,aah,aal]<;>omega)|rfl|omega|fail) only[gp,aU,aX,bz,bA,reduceAdd,reduceMul,reduceLeDiff,reduceEqDiff,bC,hlen,aay,aaB,t2,t3,t4,le,lr,bB,aN,aW,aE,lZ,Tw,gT,iU,reduceCtorEq,aaJ,j0,f0,j1,f1,aaE,hw,e1,oV.i1.aK,e2,i0,d0])
 have UG:bD V.an x.ev .tape=0:=by rw[bD,aao h1,aao (show ¬16<=V.an.aG.length from h2)]
 obtain⟨y,hy⟩:∃y:tv,y=⟨aO x.ev 0,bL x.ev 0+bL x.ev 1⟩:=⟨_,rfl⟩;obtain⟨z,hz⟩:∃z:List AV,z=eo y:=⟨_,rfl⟩;have Vh:[AV.str (aO x.ev 0),.i (bL x.ev 0+bL x.ev 1)]=z:=by rw[hz,hy];rfl
 rw[Vh];refine WR.qh (B:=B) (cs:=V.aG.map eo) (s.bk.o.i1) (by rw[hz];rfl) s.ex De (by have:=w.len.l1;rw[aak];omega) ?_;intro W5 s' x5 hff hn5 q5 l5 hk5;have hrow:V.aG.map eo++[z]=(V.aG++[y]).map eo:=by rw[aap,hz];rfl
 rw[hrow]at hff;have s5:cI B X x V (W5.set X.length (.b (V.row.set 2 s'))) {V with aG:=V.aG++[y],s1:=s'}:=ff.p1 s hff (λi hi=>.inr (acV (hn5 i hi))) hk5 x5 l5;have mB:W5[X.length]? =some (.b V.row):=(hk5 _ s.bk.lt (λz=>s.bk.ne (by rw[<-z];simp[RV.bl]))).trans s.bk.m;have U3:aV 1 (.ptr X.length 2) s' (λz=>W5[z]?)=some (az,.set X.length (.b (V.row.set 2 s'))):=(aL mB).trans (cg q5 (by show 2+1<=7;omega));refine Rs (A5 t2 t3 t4 @U3 q5) ?_;obtain⟨W6,Va⟩:∃Z,Z=W5.set X.length (.b (V.row.set 2 s')):=⟨_,rfl⟩;rw[<-Va]at s5 ⊢;obtain⟨lr,le,sb,gm⟩:=cI.fa s5;refine Rs (A7 t2 t3 t4 @lr @aE @sb @gm) ?_
 rw[UG];exact cI.fin s5 (λ_=>by rw[hy];rfl)
def FA(w:fM V.an)(ox:bd B x)(we:jf x.ev .gM)(nk:tH V.an x.ev .gM)(s:cI B X x V W V)(hlen:ts.length=250)(t2:slot ts 2=.ptr X.length 0)(t3:slot ts 3=.ptr (X.length+1) 0)(t4:slot ts 4=.ptr (X.length+2) 0):
  WC P bP Be [] ts W (FQ [(4,some (some 7)),(5,none)] (tr B X V (bD V.an x.ev .gM) (dD V.an x.ev .gM))):=by
 have ow:=ox.ext s.ex;have oV:=s.bk.o.ok;have Tw:x.ev.kind=bf .gM:=bY we.kd;obtain⟨lr,le,sb,gm⟩:=cI.fa s;obtain⟨i0,d0⟩:=bR ow we 0 0 rfl De;obtain⟨i1,d1⟩:=bR ow we 1 1 rfl De;obtain⟨i2,d2⟩:=bR ow we 2 2 rfl De;obtain⟨j0,f0,q0⟩:=cX ow we 0 0 rfl De;unfold Be fn225;simp only[ai.tl];have k1:aO x.ev 1∈gZ V.an:=nk.kn 1 0 rfl;have k2:aO x.ev 2∈ke V.an:=nk.kn 2 1 rfl;have hlt:bo (gZ V.an) (aO x.ev 1)<V.lines.length:=by have:=c8 k1;simpa [gZ,RV.an]using this
 have ei:dt (λy:iO=>decide (y.name=aO x.ev 1)) V.lines=(bo (gZ V.an) (aO x.ev 1):Int):=fo (f:=iO.name) k1;have sp:dU V.an (aO x.ev 1)=V.lines[bo (gZ V.an) (aO x.ev 1)]:=dB k1;refine pP (OX @t2 @t3 @t4 @le @lr @bB @aN @aW @aE @gJ @Tw @gT @iU @sI @aaJ @j0 @f0 @i1 @d1 @aaE) ?_;refine WF.ce T.c28 (r28 T (oV.ext Xx) w.len _) λg1=>?_
 rw[ei];obtain⟨W2,T6⟩:∃Z,Z=W++g1:=⟨_,rfl⟩;rw[<-T6];have TM:cI B X x V W2 V:=by rw[T6];exact ff.grow s ⟨g1,rfl⟩
 have ow:=ox.ext TM.ex;have oV:=TM.bk.o.ok;obtain⟨lr,le,sb,gm⟩:=cI.fa TM;obtain⟨i0,d0⟩:=bR ow we 0 0 rfl De;obtain⟨i1,d1⟩:=bR ow we 1 1 rfl De;obtain⟨i2,d2⟩:=bR ow we 2 2 rfl De;obtain⟨j0,f0,q0⟩:=cX ow we 0 0 rfl De;have ix:aZ 3 V.s0 (.i (bo (gZ V.an) (aO x.ev 1):Int))=some (cT V.s0 3 (bo (gZ V.an) (aO x.ev 1)),.ar):=oV.i0.dK hlt;have l2:∀{k:ah},Ext W2 k->ao none (j9 V.s0 3 (bo (gZ V.an) (aO x.ev 1)) 2) (λb=>k[b]?)=some (.bool (dU V.an (aO x.ev 1)).acc,.ar):=λ{k} e=>by rw[sp];exact oV.i0.mi hlt rfl e
 cases h1:(dU V.an (aO x.ev 1)).acc with
 |true=>
  rw[h1]at l2;refine Rs (A9 t2 t3 t4 ix @l2 @lr @aE @sb @gm) ?_;rw[bD,aas h1];exact K5
 |false=>
 rw[h1]at l2;refine Rs (n6 t2 t3 t4 ix @l2 @le @lr @aE @aN @i2 @d2) ?_;refine WF.ce T.c84 (r84 T (oV.ext Xx) w.len k2 _) λg2=>?_
 obtain⟨W3,TL⟩:∃Z,Z=W2++g2:=⟨_,rfl⟩;rw[<-TL];have TR:cI B X x V W3 V:=by rw[TL];exact ff.grow TM ⟨g2,rfl⟩
 have ow:=ox.ext TR.ex;have oV:=TR.bk.o.ok;obtain⟨lr,le,sb,gm⟩:=cI.fa TR;obtain⟨i0,d0⟩:=bR ow we 0 0 rfl De;obtain⟨i1,d1⟩:=bR ow we 1 1 rfl De;obtain⟨i2,d2⟩:=bR ow we 2 2 rfl De;obtain⟨j0,f0,q0⟩:=cX ow we 0 0 rfl De;cases h2:jY V.an (bL x.ev 0) (aO x.ev 2)with
 |false=>
  refine Rs (A8 t2 t3 t4 @aaI @lr @aE @sb @gm) ?_;rw[bD,aao (by rw[h1];decide),aas (by rw[h2];rfl)];exact EI
 |true=>
 by_cases h3:64<=V.aj.length
 case pos=>
  have e3:decide ((64:Int)<=(V.aj.length:Int))=true:=aaj Om;refine Rs (n6 t2 t3 t4 @aaD @fU oV.i2.aK e3 @lr @aE @sb @gm) ?_;rw[bD,aao (by rw[h1];decide),aao (by rw[h2];decide),aas (show 64<=V.an.aj.length by simpa [RV.an]using h3)];exact EI
 have e3:decide ((64:Int)<=(V.aj.length:Int))=false:=aaf Om;have UG:bD V.an x.ev .gM=0:=by rw[bD,aao (by rw[h1];decide),aao (by rw[h2];decide),aao (show ¬64<=V.an.aj.length by simpa [RV.an]using h3)]
 obtain⟨t,ht⟩:∃t,t=AV.slice W3.length 0 1 1:=⟨_,rfl⟩;have ot:t.one=true:=by rw[ht];rfl
 refine Rs (Iv t2 t3 t4 @aaD @le @lr @fU oV.i2.aK e3 @aN @i0 @d0 @i1 @d1 @i2 @d2) ?_;rw[<-ht];refine Rs (A4 t2 t3 t4 @ot) ?_;obtain⟨y,hy⟩:∃y:kr,y=⟨aO x.ev 0,aO x.ev 1,[aO x.ev 2]⟩:=⟨_,rfl⟩;obtain⟨z,hz⟩:∃z:List AV,z=bj (y,t):=⟨_,rfl⟩;have Vh:[AV.str (aO x.ev 0),.str (aO x.ev 1),t]=z:=by rw[hz,hy];rfl
 rw[Vh];obtain⟨Y,hY⟩:∃Z,Z=W3++[ak.cells [.str (aO x.ev 2)] true true]:=⟨_,rfl⟩;rw[<-hY];have Ur:Fr W3.length Y t 1 (y.aG.map aq):=by
  rw[ht,hy,hY];exact(Fr.push (h:=W3) (N:=W3.length) (aar _) [aq (aO x.ev 2)] (by simp[aq]))
 have sY:cI B X x V Y V:=by rw[hY];exact ff.grow TR ⟨_,rfl⟩
 have lY:W3.length<Y.length:=by rw[hY];simp
 have eY:Ext W3 Y:=by rw[hY];exact⟨_,rfl⟩
 refine WR.qh (B:=B) (cs:=V.aj.map bj) (sY.bk.o.i2) (by rw[hz];rfl) sY.ex De (by have:=w.len.l2;rw[aak];omega) ?_;intro W5 s' x5 hff hn5 q5 l5 hk5;have hrow:V.aj.map bj++[z]=(V.aj++[(y,t)]).map bj:=by rw[aap,hz];rfl
 rw[hrow]at hff;have bN:∀i,sB t=some i->sB V.s2≠some i:=λi hi e=>by
  have h1:=(Ur.bM hi).1;have h2:=(TR.bk.o.dW (b:=i) (by rw[<-e];simp[RV.bl])).2;omega
 have f5:Fr B.length W5 t 1 (y.aG.map aq):=(Ur.aB λi hi=>hk5 i (Ur.bM hi).2 (bN i hi)).low TR.ex.len;have s5:cI B X x V (W5.set X.length (.b (V.row.set 3 s'))) {V with aj:=V.aj++[(y,t)],s2:=s'}:=ff.p2 TR hff f5 (λi hi=>.inr (by have:=hn5 i hi;omega)) (λi hi=>⟨(Ur.bM hi).1,λe=>by have:=hn5 i e;have:=(Ur.bM hi).2;omega⟩) (λi hi hne=>(hk5 i Om hne).trans (eY.get hi)) x5 Om;have mB:W5[X.length]? =some (.b V.row):=(hk5 _ sY.bk.lt (λz=>sY.bk.ne (by rw[<-z];simp[RV.bl]))).trans sY.bk.m;have U3:aV 1 (.ptr X.length 3) s' (λz=>W5[z]?)=some (az,.set X.length (.b (V.row.set 3 s'))):=(aL mB).trans (cg q5 (by show 3+1<=7;omega))
 refine Rs (A5 t2 t3 t4 @U3 q5) ?_;obtain⟨W6,Va⟩:∃Z,Z=W5.set X.length (.b (V.row.set 3 s')):=⟨_,rfl⟩;rw[<-Va]at s5 ⊢;obtain⟨lr,le,sb,gm⟩:=cI.fa s5;refine Rs (A7 t2 t3 t4 @lr @aE @sb @gm) ?_;rw[UG];exact cI.fin s5 (λ_=>by simp only[RV.an,aap,dD,abd,ab7,hy])
end
def gO:List AV:=[.int .i64 0,.str [],.af,.af,.str []]
def DV(kd:By)(sn sv:AV):ak:=.cells [.int .i64 0,.str kd,sn,sv,.str []] true false
structure vX(A:ah)(kd:By)(b8:Nat)(kb:ak)(sw:AV)(wr:Bool)(ws:List (By))(sn sv:AV)(ns:List (By))(vs:List Int)(B:ah):Prop where
 m7:(A++[hO sw wr]++B)[A.length+1]? =some (DV kd sn sv)
 m8:(A++[hO sw wr]++B)[b8]? =some kb
 l8:A.length+1<b8
 s:aI A sw 1 (ws.map aq)
 wl:∀x∈ws,x.length<=2^40
 n:Fr (A.length+1) (A++[hO sw wr]++B) sn 1 (ns.map aq)
 v:Fr (A.length+1) (A++[hO sw wr]++B) sv 1 (vs.map aH)
 dn:∀i,sB sn=some i->A.length+1<i/\i≠b8
 dv:∀i,sB sv=some i->A.length+1<i/\i≠b8
 dd:∀i,sB sn=some i->sB sv≠some i
section
variable {A B:ah}{kd:By}{b8:Nat}{kb:ak}{sw:AV}{wr:Bool}{ws:List (By)}{sn sv:AV}{ns:List (By)}{vs:List Int}
def w8{x}:(A++[x]).length=A.length+1:=Si
def vX.tk(o:vX A kd b8 kb sw wr ws sn sv ns vs B){sw' wr' ws'}(hs:aI A sw' 1 (ws'.map aq))(hw:∀x∈ws',x.length<=2^40):vX A kd b8 kb sw' wr' ws' sn sv ns vs B:=
 ⟨by rw[rl (K':=hO sw wr) Om];exact o.m7,by rw[rl (K':=hO sw wr) (by have:=o.l8;omega)];exact o.m8,o.l8,hs,hw,o.n.swap' w8 w8,o.v.swap' w8 w8,o.dn,o.dv,o.dd⟩
theorem vX.app(o:vX A kd b8 kb sw wr ws sn sv ns vs B)(g:ah):vX A kd b8 kb sw wr ws sn sv ns vs (B++g):=by
 have e:A++[hO sw wr]++(B++g)=A++[hO sw wr]++B++g:=(aae _ _ _).symm;exact⟨by rw[e];exact(Ext.app g (Ext.refl _)).some o.m7,by rw[e];exact(Ext.app g (Ext.refl _)).some o.m8,o.l8,o.s,o.wl,by rw[e];exact o.n.app g,by rw[e];exact o.v.app g,o.dn,o.dv,o.dd⟩
def oG{K X g}:(A++[K]++g).set (A.length+1) X=A++[K]++g.set 0 X:=by
 rw[aa9 _ _ Si];simp
def vX.P0(o:vX A kd b8 kb sw wr ws sn sv ns vs B){X5 ns' g}(hF:Fr (A.length+1) (A++[hO sw wr]++g) X5 1 (ns'.map aq))(hlo:∀i,sB X5=some i->(A++[hO sw wr]++B).length<i)
  (hle:(A++[hO sw wr]++B).length<=(A++[hO sw wr]++g).length) (hk:∀i,i<(A++[hO sw wr]++B).length->sB sn≠some i->(A++[hO sw wr]++g)[i]? =(A++[hO sw wr]++B)[i]?):
  vX A kd b8 kb sw wr ws X5 sv ns' vs (g.set 0 (DV kd X5 sv)):=by
 have l7:=(aad.1 o.m7).1;have l8:=(aad.1 o.m8).1;have h8:=o.l8;have ne:∀i,i≠A.length+1->((A++[hO sw wr]++g).set (A.length+1) (DV kd X5 sv))[i]? =(A++[hO sw wr]++g)[i]? :=λi hi=>aau (λe=>hi e.symm)
 refine⟨?_,?_,h8,o.s,o.wl,?_,?_,λi hi=>?_,o.dv,λi hi e=>?_⟩
 ·rw[<-oG,aaw Om]
 ·rw[<-oG,ne _ Om,hk _ l8 (λe=>(o.dn _ e).2 rfl)];exact o.m8
 ·exact Lu
 ·rw[<-oG];exact o.v.aB λj hj=>by rw[ne j (by have:=(o.dv j hj).1;omega),hk j (o.v.bM hj).2 (λe=>o.dd j e hj)]
 ·have:=hlo i hi;exact⟨Om,Om⟩
 ·have h1:=hlo i hi;have h2:=(o.v.bM e).2;omega
def vX.PZ(o:vX A kd b8 kb sw wr ws sn sv ns vs B){X3 vs' g}(hF:Fr (A.length+1) (A++[hO sw wr]++g) X3 1 (vs'.map aH))(hlo:∀i,sB X3=some i->(A++[hO sw wr]++B).length<i)
  (hle:(A++[hO sw wr]++B).length<=(A++[hO sw wr]++g).length) (hk:∀i,i<(A++[hO sw wr]++B).length->sB sv≠some i->(A++[hO sw wr]++g)[i]? =(A++[hO sw wr]++B)[i]?):
  vX A kd b8 kb sw wr ws sn X3 ns vs' (g.set 0 (DV kd sn X3)):=by
 have l7:=(aad.1 o.m7).1;have l8:=(aad.1 o.m8).1;have h8:=o.l8;have ne:∀i,i≠A.length+1->((A++[hO sw wr]++g).set (A.length+1) (DV kd sn X3))[i]? =(A++[hO sw wr]++g)[i]? :=λi hi=>aau (λe=>hi e.symm)
 refine⟨?_,?_,h8,o.s,o.wl,?_,?_,o.dn,λi hi=>?_,λi hi e=>?_⟩
 ·rw[<-oG,aaw Om]
 ·rw[<-oG,ne _ Om,hk _ l8 (λe=>(o.dv _ e).2 rfl)];exact o.m8
 ·rw[<-oG];exact o.n.aB λj hj=>by rw[ne j (by have:=(o.dn j hj).1;omega),hk j (o.n.bM hj).2 (λe=>o.dd j hj e)]
 ·exact Lu
 ·have:=hlo i hi;exact⟨Om,Om⟩
 ·have h1:=hlo i e;have h2:=(o.n.bM hi).2;omega
end
def rz{ws wr}:∀x∈(bI ws wr).2.1,x∈ws:=by
 intro x hx;cases ws with
 |nil=>simp[bI]at hx
 |cons w r=>
  by_cases hw:w=[]
  ·rw[bI,aas hw]at hx;simp at hx
  ·rw[bI,aao hw]at hx;exact aaP _ hx
def OD(h:ah)(ws:List (By))(v:AV)(k:ah):Prop:=Ext h k/\∃x:EV,x.ev=(de ws).1/\v=.dQ [.agg x.row,.bool (de ws).2]/\Fr h.length k x.sn 1 (x.ev.names.map aq)/\Fr h.length k x.sv 1 (x.ev.bK.map aH)
def wD{h k}(e:Ext (h++[ak.cells [.int .i64 0,.str [],.af,.af,.str []] true false]) k):k[h.length]? =some (.cells [.int .i64 0,.str [],.af,.af,.str []] true false):=e.some (by rw[aan (aar _)];simp)
def MI{h k}(e:Ext (h++[ak.cells [.int .i64 0,.str [],.af,.af,.str []] true false]) k):aV 5 (.ptr h.length 0) (.agg [.int .i64 0,.str [],.af,.af,.str []]) (λz=>k[z]?)=some (az,.set h.length (.cells [.int .i64 0,.str [],.af,.af,.str []] true false)):=by rw[aL (wD e)];rfl
def MK{h k}(e:Ext (h++[ak.cells [.int .i64 0,.str [],.af,.af,.str []] true false]) k):ao (some 5) (.ptr h.length 0) (λz=>k[z]?)=some (.agg [.int .i64 0,.str [],.af,.af,.str []],.ar):=by rw[aA (wD e)];rfl
def MJ{h k}(e:Ext (h++[ak.cells [.int .i64 0,.str [],.af,.af,.str []] true false]) k):k.set h.length (.cells [.int .i64 0,.str [],.af,.af,.str []] true false)=k:=by
 have:=wD e;exact LZ
def MH{h k x}(ox:bd k x)(e:Ext (h++[ak.cells [.int .i64 0,.str [],.af,.af,.str []] true false]) k):aV 5 (.ptr h.length 0) (.agg x.row) (λz=>k[z]?)=some (az,.set h.length (.cells x.row true false)):=by rw[aL (wD e)];exact ox.st
def MG{h k:ah}{x:EV}(e:Ext (h++[ak.cells [.int .i64 0,.str [],.af,.af,.str []] true false]) k):ao (some 5) (.ptr h.length 0) (λz=>(k.set h.length (.cells x.row true false))[z]?)=some (.agg x.row,.ar):=by
 rw[aA (aaw (aad.1 (wD e)).1)];rfl
theorem tL:∀{n}{ws}{wr},(cA n ws wr).1.length=n
 | 0,_,_=>rfl
 |n+1,ws,wr=>by rw[cA,aah,tL]
theorem wQ:∀{n}{ws}{wr},(dh n ws wr).1.length=n
 | 0,_,_=>rfl
 |n+1,ws,wr=>by rw[dh,aah,wQ]
def wI(ws:List (By)):(de ws).1.names.length<=3/\(de ws).1.bK.length<=3:=by
 unfold de;cases fk (bI ws false).1 with
 |none=>exact⟨aaQ _,aaQ _⟩
 |some d=>
  have h3:(aM d).length<=3/\bQ d<=3:=by cases d<;>decide
  exact⟨by show(cA _ _ _).1.length<=3;rw[tL];exact h3.1,by show(dh _ _ _).1.length<=3;rw[wQ];exact h3.2⟩
def yk(k:Nat):ai:=(fn111).body.dr k
def Dd(k:Nat):ai:=(yk k).hd
def PV:fn111=⟨73,1,[(2,some (some 5)),(3,none)],.seq (Dd 0) (.seq (Dd 1) (.seq (Dd 2) (.seq (Dd 3) (.seq (Dd 4) (.seq (Dd 5) (yk 6))))))⟩:=rfl
def PU:yk 6=.seq (Dd 6) (yk 7):=rfl
def PT:yk 7=.seq (Dd 7) (yk 8):=rfl
attribute [local irreducible] WQ
section
variable {P:Program}(T:eD P) {h A B:ah}{kd:By}{b8:Nat}{kb:ak}{sw:AV}{wr:Bool}{ws Zv:List (By)}{sn sv:AV}{ns:List (By)}{vs:List Int}{ts:TS}
include T
theorem I4(hA:A=h++[.cells gO true false])(o:vX A kd b8 kb sw wr ws sn sv ns vs B)(hlen:ts.length=73)(t2:slot ts 2=.ptr h.length 0)(t4:slot ts 4=.ptr A.length 0)(t7:slot ts 7=.ptr (A.length+1) 0)
  (hw:de Zv=(⟨0,kd,ns,vs,[]⟩,!wr&&decide (ws.length=0))):WC P bP (yk 8) [] ts (A++[hO sw wr]++B) (FQ [(2,some (some 5)),(3,none)] (OD h Zv)):=by
 have hAl:A.length=h.length+1:=by rw[hA];simp
 obtain⟨Y,hY⟩:∃Y,Y=A++[hO sw wr]++B:=⟨_,rfl⟩;have Vt:Y=h++([ak.cells gO true false]++[hO sw wr]++B):=by rw[hY,hA];simp
 have m2:Y[h.length]? =some (.cells gO true false):=by rw[Vt,aan (aar _)];simp
 have m4:Y[A.length]? =some (.cells [sw,.bool wr] true false):=by rw[hY];exact Kk
 have m7:Y[A.length+1]? =some (.cells [.int .i64 0,.str kd,sn,sv,.str []] true false):=by rw[hY];exact o.m7
 have ln:=o.n;have lv:=o.v;rw[<-hY]at ln lv ⊢;have x:∃x:EV,x=⟨⟨0,kd,ns,vs,[]⟩,sn,sv⟩:=⟨_,rfl⟩;obtain⟨x,hx⟩:=x;have hrow:x.row=[.int .i64 0,.str kd,sn,sv,.str []]:=by rw[hx];rfl
 have ox:Fr h.length (Y.set h.length (.cells x.row true false)) x.sn 1 (x.ev.names.map aq)/\Fr h.length (Y.set h.length (.cells x.row true false)) x.sv 1 (x.ev.bK.map aH):=by
  rw[hx];exact⟨(ln.aB λj hj=>aau (by have:=(o.dn j hj).1;omega)).low Om,(lv.aB λj hj=>aau (by have:=(o.dv j hj).1;omega)).low Om⟩
 have oy:bd Y x:=by rw[hx];exact⟨ln.aT,lv.aT⟩
 have l4:∀{n:Option Nat}{a:Nat},ao n (.ptr A.length a) (λz=>Y[z]?)=dO n a (.cells [sw,.bool wr] true false):=aA m4;have l7:ao (some 5) (.ptr (A.length+1) 0) (λz=>Y[z]?)=some (.agg x.row,.ar):=by rw[aA m7,hrow];rfl
 have s2:aV 5 (.ptr h.length 0) (.agg x.row) (λz=>Y[z]?)=some (az,.set h.length (.cells x.row true false)):=by rw[aL m2];exact oy.st
 have l2:ao (some 5) (.ptr h.length 0) (λz=>(Y.set h.length (.cells x.row true false))[z]?)=some (.agg x.row,.ar):=by rw[aA (aaw (aad.1 m2).1)];rfl
 have hlw:=(o.s.aK (row:=aq));have fin:∀b,b=(!wr&&decide (ws.length=0))->OD h Zv (.dQ [.agg x.row,.bool b]) (Y.set h.length (.cells x.row true false)):=λb hb=>by
  refine⟨⟨([ak.cells gO true false]++[hO sw wr]++B).set 0 (.cells x.row true false),by rw[Vt,aa9 _ _ (aar _),abi]⟩,x,by rw[hw,hx],by rw[hw,hb],ox⟩
 unfold yk fn111;simp only[ai.j,ai.s,ai.r,ai.dr,ai.tl,ai.hd];cases wr with
 |true=>
  repeat (first|simp (config:={maxSteps:=1000000}) only[aU,aX,bz,bA,reduceAdd,reduceMul,reduceLeDiff,reduceEqDiff,bC,hlen,aay,aaB,t2,t4,t7,l4,l7,s2,aaD,aaI,ru,pH,pJ,pI,rq,pF,vI,AE,vJ,rr,mY,AF,vK,vL,rp,pG,vF,vE]|simp (config:={maxSteps:=1000000}) (disch:=first|(simp only[aac,aah,aal]<;>omega)|rfl|omega|fail) only[gp,aU,aX,bz,bA,reduceAdd,reduceMul,reduceLeDiff,reduceEqDiff,bC,hlen,aay,aaB,t2,t4,t7,l4,l7,s2,aaD,aaI,ru,pH,pJ,pI,rq,pF,vI,AE,vJ,rr,mY,AF,vK,vL,rp,pG,vF,vE])
  rw[Eu];refine⟨?_,?_⟩
  ·exact R9
  ·repeat (first|simp (config:={maxSteps:=1000000}) only[aU,aX,bz,bA,reduceAdd,reduceMul,reduceLeDiff,reduceEqDiff,bC,hlen,aay,aaB,t2,l2,pC,pD,pE,abF,abm]|simp (config:={maxSteps:=1000000}) (disch:=first|(simp only[aac,aah,aal]<;>omega)|rfl|omega|fail) only[gp,aU,aX,bz,bA,reduceAdd,reduceMul,reduceLeDiff,reduceEqDiff,bC,hlen,aay,aaB,t2,l2,pC,pD,pE,abF,abm])
   exact fin _ rfl
 |false=>
  repeat (first|simp (config:={maxSteps:=1000000}) only[aU,aX,bz,bA,reduceAdd,reduceMul,reduceLeDiff,reduceEqDiff,bC,hlen,aay,aaB,t2,t4,t7,l4,l7,s2,hlw,aaD,aaI,ru,pH,pJ,pI,rq,pF,vI,AE,vJ,rr,mY,AF,vK,vL,rp,pG,vF,vE]|simp (config:={maxSteps:=1000000}) (disch:=first|(simp only[aac,aah,aal]<;>omega)|rfl|omega|fail) only[gp,aU,aX,bz,bA,reduceAdd,reduceMul,reduceLeDiff,reduceEqDiff,bC,hlen,aay,aaB,t2,t4,t7,l4,l7,s2,hlw,aaD,aaI,ru,pH,pJ,pI,rq,pF,vI,AE,vJ,rr,mY,AF,vK,vL,rp,pG,vF,vE])
  rw[Eu];refine⟨?_,?_⟩
  ·exact R9
  ·repeat (first|simp (config:={maxSteps:=1000000}) only[aU,aX,bz,bA,reduceAdd,reduceMul,reduceLeDiff,reduceEqDiff,bC,hlen,aay,aaB,t2,l2,pC,pD,pE,abF,abm]|simp (config:={maxSteps:=1000000}) (disch:=first|(simp only[aac,aah,aal]<;>omega)|rfl|omega|fail) only[gp,aU,aX,bz,bA,reduceAdd,reduceMul,reduceLeDiff,reduceEqDiff,bC,hlen,aay,aaB,t2,l2,pC,pD,pE,abF,abm])
   refine fin _ ?_;cases ws<;>simp
   try omega
def PR(Z:nB P){vN rs c2 c3 a4}(hA:A=h++[.cells gO true false])(hkb:kb=.cells [rs,.int .i64 (vN:Nat),c2,c3,a4] true false)(hvN:vN<=100)(o:vX A kd b8 kb sw wr ws sn sv ns [] B)(hlen:ts.length=73)(t2:slot ts 2=.ptr h.length 0)(t4:slot ts 4=.ptr A.length 0)(t6:slot ts 6=.func (.func 208) [.ptr A.length 0] [])(t7:slot ts 7=.ptr (A.length+1) 0)(t8:slot ts 8=.ptr b8 0)
  (hw:de Zv=(⟨0,kd,ns,(dh vN ws wr).1,[]⟩,!(dh vN ws wr).2.2&&decide ((dh vN ws wr).2.1.length=0))):WC P bP (yk 7) [] ts (A++[hO sw wr]++B) (FQ [(2,some (some 5)),(3,none)] (OD h Zv)):=by
 have m8:=o.m8;rw[hkb]at m8;have l8:∀{n:Option Nat}{a:Nat},ao n (.ptr b8 a) (λz=>(A++[hO sw wr]++B)[z]?)=dO n a (.cells [rs,.int .i64 (vN:Nat),c2,c3,a4] true false):=aA m8;obtain⟨RR,Ug⟩:∃RR,RR=yk 8:=⟨_,rfl⟩;rw[PT,<-Ug];unfold Dd yk fn111;simp only[ai.j,ai.s,ai.r,ai.dr,ai.tl,ai.hd];refine Rs (A6 t2 t4 t6 t7 t8 @l8) ?_;refine WL.inv T.mix (λn ts' h'=>∃(k:Nat) (sw' X3:AV) (wr':Bool) (ws':List (By)) (vs':List Int) (B':ah),k<=vN/\n=vN-k/\h' =A++[hO sw' wr']++B'/\vX A kd b8 kb sw' wr' ws' sn X3 ns vs' B'/\vs'.length=k/\dh vN ws wr=(vs'++(dh (vN-k) ws' wr').1,(dh (vN-k) ws' wr').2)/\
   ts'.length=73/\slot ts' 2=.ptr h.length 0/\slot ts' 4=.ptr A.length 0/\slot ts' 6=.func (.func 208) [.ptr A.length 0] []/\slot ts' 7=.ptr (A.length+1) 0/\slot ts' 47=.int .i64 vN/\slot ts' 48=.int .i64 k) vN
  ⟨0,sw,sv,wr,ws,[],B,Om,rfl,rfl,o,rfl,rfl,(Sq t2),(Sq t2),(Sq t4),(Sq t6),(Sq t7),(Sq t2),gX⟩ ?_
 clear hlen t2 t4 t6 t7 t8 l8 m8 o;rintro _ ts' _ ⟨k,sw',X3,wr',ws',vs',B',hk,rfl,rfl,o,Ud,U7,hlen,u2,u4,u6,u7,u47,u48⟩;by_cases hlt:k<vN
 ·have e3:decide ((k:Int)<vN)=true:=aaj Om;refine Rs (A7 @u2 @u4 @u6 @u7 @u47 @u48 e3) ?_;refine WF.gen T.c208 (QP T Z o.s o.wl) ?_;rintro _ _ ⟨Vw,g,rfl,rfl,TZ⟩;obtain⟨UB,Xp⟩:∃UB,UB=((bI ws' wr').2.2 || !dA (bI ws' wr').1):=⟨_,rfl⟩;obtain⟨y,hy⟩:∃y,y=fQ (bI ws' wr').1:=⟨_,rfl⟩;rw[<-Xp,<-hy];have o2:=(o.tk (wr':=UB) TZ (λx hx=>o.wl x (rz x hx))).app g;have bN:dh vN ws wr=((vs'++[y])++(dh (vN-(k+1)) (bI ws' wr').2.1 UB).1,(dh (vN-(k+1)) (bI ws' wr').2.1 UB).2):=by
   rw[U7,show vN-k=(vN-(k+1))+1 by omega,dh,hy,Xp];simp
  have l7:∀{kk:ah}{n:Option Nat}{a:Nat},Ext (A++[hO Vw UB]++(B'++g)) kk->ao n (.ptr (A.length+1) a) (λz=>kk[z]?)=dO n a (.cells [.int .i64 0,.str kd,sn,X3,.str []] true false):=λe=>aA (e.some o2.m7)
  refine Rs (A7 @u2 @u4 @u6 @u7 @u47 @u48 @l7) ?_;refine WR.qh (B:=A++[hO Vw UB]) (cs:=vs'.map aH) (z:=aH y) (by rw[w8];exact o2.v) rfl ⟨_,rfl⟩ De (by simp;omega) ?_;rintro _ s' ⟨g2,rfl⟩ hF hlo hone hle hkp;rw[w8]at hF;have er:vs'.map aH++[aH y]=(vs'++[y]).map aH:=by rw[aap];rfl
  rw[er]at hF;have q7:=(aad.1 o2.m7).1;have m7':(A++[hO Vw UB]++g2)[A.length+1]? =some (.cells [.int .i64 0,.str kd,sn,X3,.str []] true false):=by
   rw[hkp _ q7 (λe=>by have:=(o2.dv _ e).1;omega)];exact o2.m7
  have s7:aV 1 (.ptr (A.length+1) 3) s' (λz=>(A++[hO Vw UB]++g2)[z]?)=some (az,.set (A.length+1) (.cells [.int .i64 0,.str kd,sn,s',.str []] true false)):=by
   rw[aL m7'];exact cg hone Si
  have o3:=o2.PZ hF hlo hle hkp;refine Rs (A8 @u2 @u4 @u6 @u7 @u47 @u48 @s7 (wrapN (show k+1<2^63 by omega))) ?_;exact⟨vN-(k+1),Om,k+1,Vw,s',UB,_,vs'++[y],_,Om,rfl,oG,o3,by simp[Ud],bN,rfl⟩
 ·have e3:decide ((k:Int)<vN)=false:=aaf Om;have ek:k=vN:=Om
  subst ek;rw[abi,dh,aaF]at U7;rw[U7]at hw;refine Rs (A7 @u2 @u4 @u6 @u7 @u47 @u48 e3) ?_;rw[Ug];exact I4 T hA o (Sq @u2) (Sq @u2) (Sq @u4) (Sq @u7) hw
def PS(Z:nB P){nN vN rs c2 c3 a4}(hA:A=h++[.cells gO true false])(hkb:kb=.cells [rs,.int .i64 (vN:Nat),c2,c3,a4] true false)(hnN:nN<=100)(hrs:∀G,kg .sl G rs=some nN)(hvN:vN<=100)(o:vX A kd b8 kb sw wr ws sn sv [] [] B)(hlen:ts.length=73)(t2:slot ts 2=.ptr h.length 0)(t4:slot ts 4=.ptr A.length 0)
  (t5:slot ts 5=.func (.func 207) [.ptr A.length 0] []) (t6:slot ts 6=.func (.func 208) [.ptr A.length 0] []) (t7:slot ts 7=.ptr (A.length+1) 0) (t8:slot ts 8=.ptr b8 0)
  (hw:de Zv=(⟨0,kd,(cA nN ws wr).1,(dh vN (cA nN ws wr).2.1 (cA nN ws wr).2.2).1,[]⟩,!(dh vN (cA nN ws wr).2.1 (cA nN ws wr).2.2).2.2&&decide ((dh vN (cA nN ws wr).2.1 (cA nN ws wr).2.2).2.1.length=0))):WC P bP (yk 6) [] ts (A++[hO sw wr]++B) (FQ [(2,some (some 5)),(3,none)] (OD h Zv)):=by
 have m8:=o.m8;rw[hkb]at m8;have l8:∀{n:Option Nat}{a:Nat},ao n (.ptr b8 a) (λz=>(A++[hO sw wr]++B)[z]?)=dO n a (.cells [rs,.int .i64 (vN:Nat),c2,c3,a4] true false):=aA m8;obtain⟨RR,Ug⟩:∃RR,RR=yk 7:=⟨_,rfl⟩;rw[PU,<-Ug];unfold Dd yk fn111;simp only[ai.j,ai.s,ai.r,ai.dr,ai.tl,ai.hd];refine Rs (A8 t2 t4 t5 t6 t7 t8 @l8 @hrs) ?_;refine WL.inv T.mix (λn ts' h'=>∃(k:Nat) (sw' X5:AV) (wr':Bool) (ws' ns':List (By)) (B':ah),k<=nN/\n=nN-k/\h' =A++[hO sw' wr']++B'/\vX A kd b8 kb sw' wr' ws' X5 sv ns' [] B'/\ns'.length=k/\cA nN ws wr=(ns'++(cA (nN-k) ws' wr').1,(cA (nN-k) ws' wr').2)/\
   ts'.length=73/\slot ts' 2=.ptr h.length 0/\slot ts' 4=.ptr A.length 0/\slot ts' 5=.func (.func 207) [.ptr A.length 0] []/\slot ts' 6=.func (.func 208) [.ptr A.length 0] []/\slot ts' 7=.ptr (A.length+1) 0/\slot ts' 8=.ptr b8 0/\slot ts' 34=.int .i64 nN/\slot ts' 35=.int .i64 k) nN
  ⟨0,sw,sn,wr,ws,[],B,Om,rfl,rfl,o,rfl,rfl,(Sq t2),(Sq t2),(Sq t4),(Sq t5),(Sq t6),(Sq t7),(Sq t8),(Sq t2),gX⟩ ?_
 clear hlen t2 t4 t5 t6 t7 t8 l8 m8 o;rintro _ ts' _ ⟨k,sw',X5,wr',ws',ns',B',hk,rfl,rfl,o,Ud,U7,hlen,u2,u4,u5,u6,u7,u8,u34,u35⟩;by_cases hlt:k<nN
 ·have e3:decide ((k:Int)<nN)=true:=aaj Om;refine Rs (A9 @u2 @u4 @u5 @u6 @u7 @u8 @u34 @u35 e3) ?_;refine WF.gen T.c207 (JL T o.s) ?_;rintro _ _ ⟨Vw,rfl,rfl,TZ⟩;obtain⟨UB,Xp⟩:∃UB,UB=(bI ws' wr').2.2:=⟨_,rfl⟩;obtain⟨y,hy⟩:∃y,y=(bI ws' wr').1:=⟨_,rfl⟩;rw[<-Xp,<-hy];have o2:=o.tk (wr':=UB) TZ (λx hx=>o.wl x (rz x hx));have bN:cA nN ws wr=((ns'++[y])++(cA (nN-(k+1)) (bI ws' wr').2.1 UB).1,(cA (nN-(k+1)) (bI ws' wr').2.1 UB).2):=by
   rw[U7,show nN-k=(nN-(k+1))+1 by omega,cA,hy,Xp];simp
  have l7:∀{kk:ah}{n:Option Nat}{a:Nat},Ext (A++[hO Vw UB]++B') kk->ao n (.ptr (A.length+1) a) (λz=>kk[z]?)=dO n a (.cells [.int .i64 0,.str kd,X5,sv,.str []] true false):=λe=>aA (e.some o2.m7)
  refine Rs (A9 @u2 @u4 @u5 @u6 @u7 @u8 @u34 @u35 @l7) ?_;refine WR.qh (B:=A++[hO Vw UB]) (cs:=ns'.map aq) (z:=aq y) (by rw[w8];exact o2.n) rfl ⟨_,rfl⟩ De (by simp;omega) ?_;rintro _ s' ⟨g2,rfl⟩ hF hlo hone hle hkp;rw[w8]at hF;have er:ns'.map aq++[aq y]=(ns'++[y]).map aq:=by rw[aap];rfl
  rw[er]at hF;have q7:=(aad.1 o2.m7).1;have m7':(A++[hO Vw UB]++g2)[A.length+1]? =some (.cells [.int .i64 0,.str kd,X5,sv,.str []] true false):=by
   rw[hkp _ q7 (λe=>by have:=(o2.dn _ e).1;omega)];exact o2.m7
  have s7:aV 1 (.ptr (A.length+1) 2) s' (λz=>(A++[hO Vw UB]++g2)[z]?)=some (az,.set (A.length+1) (.cells [.int .i64 0,.str kd,s',sv,.str []] true false)):=by
   rw[aL m7'];exact cg hone Si
  have o3:=o2.P0 hF hlo hle hkp;refine Rs (mE @u2 @u4 @u5 @u6 @u7 @u8 @u34 @u35 @s7 (wrapN (show k+1<2^63 by omega))) ?_;exact⟨nN-(k+1),Om,k+1,Vw,s',UB,_,ns'++[y],_,Om,rfl,oG,o3,by simp[Ud],bN,rfl⟩
 ·have e3:decide ((k:Int)<nN)=false:=aaf Om;have ek:k=nN:=Om
  subst ek;rw[abi,cA,aaF]at U7;rw[U7]at hw;refine Rs (A9 @u2 @u4 @u5 @u6 @u7 @u8 @u34 @u35 e3) ?_;rw[Ug];exact PR T Z hA hkb hvN o (Sq @u2) (Sq @u2) (Sq @u4) (Sq @u6) (Sq @u7) (Sq @u8) hw
def r111(Z:nB P){s ws}(hs:aI h s 1 (ws.map aq))(hwl:∀x∈ws,x.length<=2^40):ay P 111 [s] h (λv k=>∃x:EV,x.ev=(de ws).1/\v=.dQ [.agg x.row,.bool (de ws).2]/\Fr h.length k x.sn 1 (x.ev.names.map aq)/\Fr h.length k x.sv 1 (x.ev.bK.map aH)):=by
 refine .of T.mix (acP T.c111 (aaR some PV)) ?_;obtain⟨ts,Tp⟩:∃ts,ts=aR 73 [s]:=⟨_,rfl⟩;have hlen:ts.length=73:=by rw[Tp];rfl
 have t0:slot ts 0=s:=by rw[Tp];rfl
 obtain⟨RR,Ug⟩:∃RR,RR=yk 6:=⟨_,rfl⟩;show WC P bP _ [] (aR 73 [s]) h (FQ _ (OD h ws));rw[<-Tp,<-Ug];clear Tp;have hso:=hs.one;unfold Dd yk fn111;simp only[ai.j,ai.s,ai.r,ai.dr,ai.tl,ai.hd];refine Rs (A2 t0 @hso) ?_;obtain⟨A,hA⟩:∃A,A=h++[ak.cells gO true false]:=⟨_,rfl⟩;have hAl:A.length=h.length+1:=by rw[hA];simp
 have gw:=JL T (A:=A) (B:=[]) (wr:=false) (hs.ext (k:=A) ⟨_,hA⟩);rw[aaF,hA]at gw;refine WF.gen T.c207 gw ?_;rintro _ _ ⟨Vw,rfl,rfl,TZ⟩;rw[aaF];rw[<-hA]at TZ;have hwl2:∀x∈(bI ws false).2.1,x.length<=2^40:=λx hx=>hwl x (rz x hx)
 have UD:de ws=match fk (bI ws false).1 with
  |none=>(lJ,false)
  |some d=>(⟨0,bf d,(cA (aM d).length (bI ws false).2.1 (bI ws false).2.2).1,(dh (bQ d) (cA (aM d).length (bI ws false).2.1 (bI ws false).2.2).2.1 (cA (aM d).length (bI ws false).2.1 (bI ws false).2.2).2.2).1,[]⟩,!(dh (bQ d) (cA (aM d).length (bI ws false).2.1 (bI ws false).2.2).2.1 (cA (aM d).length (bI ws false).2.1 (bI ws false).2.2).2.2).2.2&&decide ((dh (bQ d) (cA (aM d).length (bI ws false).2.1 (bI ws false).2.2).2.1 (cA (aM d).length (bI ws false).2.1 (bI ws false).2.2).2.2).2.1.length=0)):=by
  unfold de;cases fk (bI ws false).1<;>rfl
 generalize (bI ws false).1=kd at *;generalize (bI ws false).2.1=ws2 at *;generalize (bI ws false).2.2=UB at *;refine Rs t0 ?_;refine WF.res T.c90 (r90 T) ?_;rintro _ g2 ⟨vf,rfl,hk⟩;have lk:∀{z:AV},iC .s z true (.map (h++[ak.cells gO true false]++[hO Vw UB]++[DV kd .af .af]).length) (.str kd) (λb=>(h++[ak.cells gO true false]++[hO Vw UB]++[DV kd .af .af]++g2)[b]?)=lK z true ((fk kd).map vf):=hk.look;unfold DV at lk;cases hd:fk kd with
 |none=>
  rw[hd]at lk UD;have TX:∀{z:AV},_=some (AV.dQ [z,.bool false],ja.ar):=@lk;have z2:∀{k:ah},Ext (h++[ak.cells gO true false]) k->k[h.length]? =some (.cells gO true false):=λe=>e.some (by rw[aan (aar _)];simp)
  have s2:∀{k:ah},Ext (h++[ak.cells gO true false]) k->aV 5 (.ptr h.length 0) (.agg [.int .i64 0,.str [],.af,.af,.str []]) (λz=>k[z]?)=some (az,.set h.length (.cells gO true false)):=λe=>by rw[aL (z2 e)];rfl
  have l2:∀{k:ah},Ext (h++[ak.cells gO true false]) k->ao (some 5) (.ptr h.length 0) (λz=>k[z]?)=some (.agg gO,.ar):=λe=>by rw[aA (z2 e)];rfl
  have sq:∀{k:ah},Ext (h++[ak.cells gO true false]) k->k.set h.length (.cells gO true false)=k:=λ{k} e=>by
   have:=z2 e;exact LZ
  refine Rs (A8 t0 @bV @TX @iF @aaI @s2 @sq @l2) ?_;exact⟨Xx,⟨lJ,.af,.af⟩,by rw[UD],by rw[UD];rfl,.nil,.nil⟩
 |some d=>
  rw[hd]at lk UD;have TX:∀{z:AV},_=some (AV.dQ [vf d,.bool true],ja.ar):=@lk;obtain⟨rs,a,hv,hr,ha,hab⟩:=(hk.k d).ex;rw[hv]at TX;have hlr:=hr.aK;have c1:=mP d;have c2:=mq d;have c3:=hr.one;have h3:(aM d).length<=3/\bQ d<=3:=by cases d<;>decide
  refine Rs (A8 t0 @bV @TX @aaD @c1 @c2 @c3 @ha) ?_;rw[Ug];obtain⟨kb,hkb⟩:∃kb,kb=ak.cells [rs,.int .i64 (bQ d:Nat),kG d,pZ d,a] true false:=⟨_,rfl⟩;obtain⟨b8,hb8⟩:∃b8,b8=(h++[ak.cells gO true false]++[hO Vw UB]++[ak.cells [.int .i64 0,.str kd,.af,.af,.str []] true false]++g2).length:=⟨_,rfl⟩;rw[<-hkb,<-hb8];have eh:h++[ak.cells gO true false]++[hO Vw UB]++[ak.cells [.int .i64 0,.str kd,.af,.af,.str []] true false]++g2++[kb]=A++[hO Vw UB]++([DV kd .af .af]++g2++[kb]):=by rw[hA];unfold DV;simp
  rw[eh];have o:vX A kd b8 kb Vw UB ws2 .af .af [] [] ([DV kd .af .af]++g2++[kb]):=by
   refine⟨?_,?_,?_,TZ,hwl2,.nil,.nil,λi hi=>(by cases hi),λi hi=>(by cases hi),λi hi=>(by cases hi)⟩
   ·rw[aan Si];simp
   ·rw[<-eh,hb8,aan (aar _),abi];rfl
   ·rw[hb8,hAl];simp only[aac,aav];omega
  refine PS T Z (nN:=(aM d).length) (vN:=bQ d) hA hkb Om hlr Om o (Sq t0) (Sq t0) ?_ ?_ ?_ ?_ (Sq t0) ?_
  all_goals first|(rw[UD,bY hd];done)|skip
  ·refine Zs t0 ?_;rw[hA];rfl
  ·refine Zs t0 ?_;rw[hA];rfl
  ·refine Zs t0 ?_;rw[hA];rfl
  ·refine Zs t0 ?_;rw[hA];simp
end
def tQ{c s n}(hs:s.length<=n):∀x∈bh c s,x.length<=n:=λx hx=>aa5 (tR x hx) hs
theorem sX{c}:∀{s},(dw c s).1.length<=s.length/\(dw c s).2.1.length<=s.length
 |[]=>⟨aar _,aar _⟩
 |x::r=>by
  have ih:=sX (c:=c) (s:=r);rw[dw];split
  ·simp
  ·simp only[aah];omega
def HC{h G:ah}{X Y:ak}{j:Nat}(hj:j≠h.length):(h++([X]++G))[j]? =(h++([Y]++G))[j]? :=by
 rw[<-aae,<-aae];exact rl hj
section
variable {P:Program}(T:eD P) {h:ah}
include T
def r99(X:vW P)(Z:nB P)(w:Pw h)(s:By)(hsl:s.length<=2^38)(n:Int):ay P 99 [.str s,.i n] h (λv k=>∃x:EV,x.ev=(cV s n).1/\v=.dQ [.agg x.row,.i (cV s n).2]/\Fr h.length k x.sn 1 (x.ev.names.map aq)/\Fr h.length k x.sv 1 (x.ev.bK.map aH)):=by
 refine .eQ 83 T.mix T.c99 ?_;intro ts hlen t0 t1;unfold fn99 gA;have w1:IntKind.i64.wrap ((s.length:Int)-7)=(s.length:Int)-7:=aY Om Om;have w2:IntKind.i64.wrap ((s.length:Int)-7-1)=(s.length:Int)-8:=by rw[aY Om Om];omega
 have s2:=@MI h;have l2:=@MK h;have sq:=@MJ h;have bad:∀{c:Int}{k:ah},cV s n=(lJ,c)->Ext h k->(Ext h k/\∃x:EV,x.ev=(cV s n).1/\AV.dQ [.agg [.i 0,.str [],.af,.af,.str []],.i c]=.dQ [.agg x.row,.i (cV s n).2]/\Fr h.length k x.sn 1 (x.ev.names.map aq)/\Fr h.length k x.sv 1 (x.ev.bK.map aH)):=
  λhe e=>⟨e,⟨lJ,.af,.af⟩,by rw[he],by rw[he];rfl,.nil,.nil⟩
 by_cases h8:s.length<8
 ·have d1:decide ((s.length:Int)-8<0)=true:=aaj Om;refine Rs (A8 t0 t1 @w1 @w2 @d1 @s2 @l2 @sq) ?_;exact(bad (by rw[cV,aas h8]) Xx).2
 have d1:decide ((s.length:Int)-8<0)=false:=aaf Om;have ea:(s.length:Int)-8=((s.length-8:Nat):Int):=Om
 rw[ea]at w2 d1;have hlt:s.length-8<s.length:=Om
 have w3:IntKind.i64.wrap (((s.length-8:Nat):Int)+1)=((s.length-7:Nat):Int):=by rw[aY Om Om];omega
 have gd:s.getD (s.length-8) 0=s[s.length-8]:=by rw[aaW,aai hlt];rfl
 by_cases hh:s[s.length-8]=35
 case neg=>
  have d2:decide ((s[s.length-8].toNat:Int)≠35)=true:=aaj λe=>hh (acF.1 (by simpa using (by omega:s[s.length-8].toNat=35)))
  repeat (first|simp (config:={maxSteps:=1000000}) only[aU,aX,bz,bA,reduceAdd,reduceMul,reduceLeDiff,reduceEqDiff,bC,hlen,aay,aaB,t0,t1,w1,w2,d1,jN hlt,d2,s2,l2,sq]|simp (config:={maxSteps:=1000000}) (disch:=first|(simp only[aac,aah,aal]<;>omega)|rfl|omega|fail) only[gp,aU,aX,bz,bA,reduceAdd,reduceMul,reduceLeDiff,reduceEqDiff,bC,hlen,aay,aaB,t0,t1,w1,w2,d1,jN hlt,d2,s2,l2,sq])
  exact(bad (by rw[cV,aao h8,aas (.inl (by rw[gd];exact hh))]) Xx).2
 have d2:decide ((s[s.length-8].toNat:Int)≠35)=false:=aaf (by rw[hh];decide)
 repeat (first|simp (config:={maxSteps:=1000000}) only[aU,aX,bz,bA,reduceAdd,reduceMul,reduceLeDiff,reduceEqDiff,bC,hlen,aay,aaB,t0,t1,w1,w2,d1,jN hlt,d2,w3,jH (show s.length-7<=s.length by omega)]|simp (config:={maxSteps:=1000000}) (disch:=first|(simp only[aac,aah,aal]<;>omega)|rfl|omega|fail) only[gp,aU,aX,bz,bA,reduceAdd,reduceMul,reduceLeDiff,reduceEqDiff,bC,hlen,aay,aaB,t0,t1,w1,w2,d1,jN hlt,d2,w3,jH (show s.length-7<=s.length by omega)])
 refine WF.ce T.c189 (r189 T _ (by rw[abv];omega)) λg1=>?_
 cases hd:nU (s.drop (s.length-7))with
 |false=>
  refine Rs (A7 t0 t1 @hd @aaI @s2 @l2 @sq) ?_;exact(bad (by rw[cV,aao h8,aas (.inr (by rw[hd];simp))]) Xx).2
 |true=>
 repeat (first|simp (config:={maxSteps:=1000000}) only[aU,aX,bz,bA,reduceAdd,reduceMul,reduceLeDiff,reduceEqDiff,bC,hlen,aay,aaB,t0,t1,hd,aaD,kW (show s.length-8<=s.length by omega)]|simp (config:={maxSteps:=1000000}) (disch:=first|(simp only[aac,aah,aal]<;>omega)|rfl|omega|fail) only[gp,aU,aX,bz,bA,reduceAdd,reduceMul,reduceLeDiff,reduceEqDiff,bC,hlen,aay,aaB,t0,t1,hd,aaD,kW (show s.length-8<=s.length by omega)])
 have WW:∀{α:Type}{a b:α},(if s.getD (s.length-8) 0≠35\/¬nU (s.drop (s.length-7))=true then a else b)=b:=λ{_ _ _}=>aao (by rw[gd,hd];simp[hh])
 refine WF.ce T.c187 (r187 T Z _ (by rw[aaZ];omega) (w.ext Xx)) λg2=>?_
 by_cases hc:hP (s.take (s.length-8))=s.drop (s.length-7)
 case neg=>
  have d3:decide (hP (s.take (s.length-8))≠s.drop (s.length-7))=true:=aaj hc
  repeat (first|simp (config:={maxSteps:=1000000}) only[aU,aX,bz,bA,reduceAdd,reduceMul,reduceLeDiff,reduceEqDiff,bC,hlen,aay,aaB,t0,t1,w3,jH (show s.length-7<=s.length by omega),d3,s2,l2,sq]|simp (config:={maxSteps:=1000000}) (disch:=first|(simp only[aac,aah,aal]<;>omega)|rfl|omega|fail) only[gp,aU,aX,bz,bA,reduceAdd,reduceMul,reduceLeDiff,reduceEqDiff,bC,hlen,aay,aaB,t0,t1,w3,jH (show s.length-7<=s.length by omega),d3,s2,l2,sq])
  exact(bad (by rw[cV,aao h8,WW,aas hc]) Xx).2
 have d3:decide (hP (s.take (s.length-8))≠s.drop (s.length-7))=false:=aaf (λz=>z hc);have hes:cV s n=if !dA (dw 32 (s.take (s.length-8))).1 || !(de (bh 32 (dw 32 (s.take (s.length-8))).2.1)).2||decide (eJ { (de (bh 32 (dw 32 (s.take (s.length-8))).2.1)).1 with num:=fQ (dw 32 (s.take (s.length-8))).1}≠0)then(lJ,25)else({ (de (bh 32 (dw 32 (s.take (s.length-8))).2.1)).1 with num:=fQ (dw 32 (s.take (s.length-8))).1},bX (decide (fQ (dw 32 (s.take (s.length-8))).1≠n)) 11):=(aao h8).trans (WW.trans (aao (λz=>z hc)))
 have htl:(s.take (s.length-8)).length<=2^38:=by rw[aaZ];omega
 have hcl:=sX (c:=32) (s:=s.take (s.length-8))
 repeat (first|simp (config:={maxSteps:=1000000}) only[aU,aX,bz,bA,reduceAdd,reduceMul,reduceLeDiff,reduceEqDiff,bC,hlen,aay,aaB,t0,t1,w3,jH (show s.length-7<=s.length by omega),d3,kW (show s.length-8<=s.length by omega)]|simp (config:={maxSteps:=1000000}) (disch:=first|(simp only[aac,aah,aal]<;>omega)|rfl|omega|fail) only[gp,aU,aX,bz,bA,reduceAdd,reduceMul,reduceLeDiff,reduceEqDiff,bC,hlen,aay,aaB,t0,t1,w3,jH (show s.length-7<=s.length by omega),d3,kW (show s.length-8<=s.length by omega)])
 refine WF.ce T.c98 (r98 T X _ 32 Om) λg3=>?_
 generalize hq1:(dw 32 (s.take (s.length-8))).1=a1 at hes hcl ⊢;generalize hq2:(dw 32 (s.take (s.length-8))).2.1=a2 at hes hcl ⊢;refine Rs (A2 t0 t1) ?_;refine WF.ce T.c190 (r190 T Z a1 Om) λg4=>?_
 refine Rs (A2 t0 t1) ?_;refine WF.res T.c64 (r64 T X a2 32 Om) ?_;intro v g5 hv;refine Rs (A2 t0 t1) ?_;have UC:=wI (bh 32 a2);refine WF.res T.c111 (r111 T Z hv (tQ Om)) ?_;rintro _ g6 ⟨x,hx,rfl,fn,fv⟩;have ox:bd _ x:=⟨fn.aT,fv.aT⟩;rw[<-hx]at hes UC;generalize (de (bh 32 a2)).2=fm at hes ⊢;obtain⟨x',Tu⟩:∃x':EV,x' =⟨{x.ev with num:=fQ a1},x.sn,x.sv⟩:=⟨_,rfl⟩;have Ua:x'.sn=x.sn:=by rw[Tu]
 have hsv:x'.sv=x.sv:=by rw[Tu]
 have Xz:x'.ev.names=x.ev.names:=by rw[Tu]
 have Ud:x'.ev.bK=x.ev.bK:=by rw[Tu]
 have hrow:x'.row=x.row.set 0 (.i (fQ a1)):=by rw[Tu];rfl
 have hev:({x.ev with num:=fQ a1}:cQ)=x'.ev:=by rw[Tu]
 rw[hev]at hes;have UF:cV s n=if !dA a1 || !fm||decide (eJ x'.ev≠0)then(lJ,25)else(x'.ev,bX (decide (fQ a1≠n)) 11):=hes
 rw[<-Ua,<-Xz]at fn;rw[<-hsv,<-Ud]at fv;have YP:bd _ x':=⟨fn.aT,fv.aT⟩;have st:∀{b':Nat}{a0 a1 a2 a3 a4:AV},lH 5 0 (.agg x.row) b' (.b [a0,a1,a2,a3,a4])=some (az,.set b' (.b x.row)):=λ{_ _ _ _ _ _}=>ox.st
 have lI:∀{b':Nat},lH 1 0 (.i (fQ a1)) b' (.b x.row)=some (az,.set b' (.b x'.row)):=λ{b'}=>by
  rw[hrow];exact cg rfl (by show 0+1<=5;omega)
 cases hdg:dA a1 with
 |false=>
  rw[hdg]at UF;refine Rs (A9 t0 t1 @st @lI @bZ @aaI @s2 @l2 @sq) ?_;exact z196
 |true=>
 cases fm with
 |false=>
  rw[hdg]at UF;refine Rs (mE t0 t1 @st @lI @bZ @aaI @aaD @s2 @l2 @sq) ?_;exact z196
 |true=>
 rw[hdg]at UF;refine Rs (A7 t0 t1 @st @lI @bZ @aaI @aaD) ?_;refine WF.ce T.c67 (r67 T (YP.ext Xx) ⟨by rw[Xz];omega,by rw[Ud];omega⟩) λg7=>?_
 by_cases UG:eJ x'.ev=0
 case neg=>
  have d4:decide (eJ x'.ev≠0)=true:=aaj UG;rw[d4]at UF;refine Rs (A6 t0 t1 @d4 @s2 @l2 @sq) ?_;exact z196
 have d4:decide (eJ x'.ev≠0)=false:=aaf (λz=>z UG);rw[d4]at UF;have key:∀{k:ah}{W:ah},bd W x'->Ext (h++[ak.b [.i 0,.str [],.af,.af,.str []]]) W->Ext W k->aV 5 (.ptr h.length 0) (.agg x'.row) (λz=>k[z]?)=some (az,.set h.length (.b x'.row)):=λo e1 e2=>MH (o.ext e2) (e1.trans e2)
 have sx:=λ{k:ah}=>@key k _ YP Xx
 have ly:=@MG h;refine Rs (A4 t0 t1 @d4 @bZ) ?_;refine WF.ce T.c85 (r85 T _ _) λg8=>?_
 have fn3:=((fn.app [ak.b x'.row]).app g7).app g8;have fv3:=((fv.app [ak.b x'.row]).app g7).app g8;refine Rs (A4 t0 t1 @sx @ly) ?_;refine⟨Xx,x',by rw[UF];rfl,by rw[UF];rfl,(fn3.aB λj hj=>?_).low ?_,(fv3.aB λj hj=>?_).low ?_⟩
 ·simp only[aae];refine HC λe=>?_
  have:=(fn3.bM hj).1;simp only[aac,aav]at this;omega
 ·exact z201
 ·simp only[aae];refine HC λe=>?_
  have:=(fv3.bM hj).1;simp only[aac,aav]at this;omega
 ·exact z201
end
end Go.Abs
