/- A part of the proof that HouseGraphs holds. No condition. -/
import Derived.Test.YtgplmdgpmbegiaaGreatDoorGa7
import Derived.Lib.Bytealg
import Derived.Test.YtgplmdgpmbegiaaGreatDoorGa6
import Derived.Lib.ItoaNum
import Derived.Lib.ItoaLen
import Derived.Lib.ItoaMem
import Derived.Lib.Join
import Derived.Test.YtgplmdgpmbegiaaGreatDoorGa0
set_option maxHeartbeats 4000000
set_option linter.all false
open Nat (reduceAdd reduceMul reduceLeDiff reduceEqDiff)
namespace Go.Abs
def lV{α:Type}(l:List α):l=[]\/∃m x,l=m++[x]:=by
 rcases List.eq_nil_or_concat l with h|⟨m,x,h⟩
 ·exact .inl h
 ·exact .inr ⟨m,x,by rw[h,List.concat_eq_append]⟩
def lz(l:List gq)(n:Int):Bool:=decide ((l.length:Int)<=n)&&l.all λe=>decide (e.kind.length<=40)&&decide (e.names.length<=6)&&decide (e.cE.length<=8)&&decide (e.text.length<=200)&&e.names.all λx=>decide (x.length<=40)
def bJ(c:UInt8):By->List (By)
 |[]=>[[]]
 |x::r=>
  if x=c then []::bJ c r
  else match bJ c r with
   |p::ps=>(x::p)::ps
   |[]=>[[x]]
def jS{c:UInt8}:∀{s:By},bJ c s≠[]
 |[]=>by simp[bJ]
 |x::r=>by
  unfold bJ;split
  ·simp
  ·split<;>simp
theorem sR{c:UInt8}:∀{s:By},c∉s->bJ c s=[s]
 |[],_=>rfl
 |x::r,h=>by
  unfold bJ;rw[X5 (λe=>h (by simp[e])),sR (λhr=>h (YB _ hr))]
theorem qV{c:UInt8}{q:By}:∀{p:By},c∉p->bJ c (p++c::q)=p::bJ c q
 |[],_=>by simp[bJ]
 |x::r,h=>by
  rw[Zg,bJ,X5 (λe=>h (by simp[e])),qV (λhr=>h (YB _ hr))]
theorem qU{c:UInt8}:∀{s:By},(bJ c s).length=s.count c+1
 |[]=>rfl
 |x::r=>by
  have ih:=qU (c:=c) (s:=r);unfold bJ;by_cases h:x=c
  ·subst h;rw[X9 rfl,XX,ih,List.count_cons_self]
  ·rw[X5 h,List.count_cons_of_ne h];cases hs:bJ c r with
   |nil=>exact absurd hs jS
   |cons p ps=>rw[hs]at ih;simpa using ih
theorem sS{c:UInt8}:∀{s:By},∀p∈bJ c s,p.length<=s.length
 |[]=>by simp[bJ]
 |x::r=>by
  have ih:=sS (c:=c) (s:=r);intro p hp;unfold bJ at hp;rw[XX];by_cases h:x=c
  ·rw[X9 h]at hp;rcases YA.1 hp with rfl|hp
   ·simp
   ·have:=ih p hp;omega
  ·rw[X5 h]at hp;cases hs:bJ c r with
   |nil=>exact absurd hs jS
   |cons q qs=>
    rw[hs]at hp ih;rcases YA.1 hp with rfl|hp
    ·have:=ih q Si;rw[XX];omega
    ·have:=ih p (by simp[hp]);omega
def jo(c:UInt8):List (By)->By
 |[]=>[]
 |[p]=>p
 |p::ps=>p++c::jo c ps
def nh{c:UInt8}{p:By}{r:List (By)}(h:r≠[]):jo c (p::r)=p++c::jo c r:=by
 cases r with
 |nil=>exact absurd rfl h
 |cons=>rfl
theorem jF{c:UInt8}:∀{s:By},jo c (bJ c s)=s
 |[]=>rfl
 |x::r=>by
  have ih:=jF (c:=c) (s:=r);unfold bJ;by_cases h:x=c
  ·subst h;rw[X9 rfl];cases hs:bJ x r with
   |nil=>exact absurd hs jS
   |cons p ps=>rw[hs]at ih;rw[jo,ih]<;>simp
  ·rw[X5 h];cases hs:bJ c r with
   |nil=>exact absurd hs jS
   |cons p ps=>
    rw[hs]at ih;cases ps with
    |nil=>rw[jo]at ih ⊢;rw[ih]
    |cons q qs=>
     rw[jo]at ih ⊢<;>first|(rw[<-ih];rfl)|simp
theorem F3{c:UInt8}:∀{s:By},c∉s->Lib.indexByte s c= -1
 |[],_=>rfl
 |x::r,h=>by
  unfold Lib.indexByte;have h1:(x==c)=false:=by simp;exactλe=>h (by simp[e])
  rw[h1,F3 (λhr=>h (YB _ hr))];rfl
theorem Cc{c:UInt8}{q:By}:∀{p:By},c∉p->Lib.indexByte (p++c::q) c=p.length
 |[],_=>by simp[Lib.indexByte]
 |x::r,h=>by
  have ih:=Cc (q:=q) (λhr=>h (YB _ hr):c∉r);rw[Zg,Lib.indexByte];have h1:(x==c)=false:=by simp;exactλe=>h (by simp[e])
  rw[h1,ih];have h2:((r.length:Int) == -1)=false:=Si
  rw[h2];simp
def vJ(c:UInt8)(s:By):(c∉s/\Lib.indexByte s c= -1)\/∃p q,c∉p/\s=p++c::q/\Lib.indexByte s c=p.length:=by
 by_cases h:c∈s
 ·right
  obtain⟨p,q,rfl,hp⟩:=List.eq_append_cons_of_mem h;exact⟨p,q,hp,rfl,Cc hp⟩
 ·exact .inl ⟨h,F3 h⟩
def Cu(s:By):Int:=s.foldl (λn c=>10*n+((c.toNat:Int)-48)) 0
def iM(s:By):Bool:=!decide (s.length=0)&&decide (s.length<=9) && !(decide (1<s.length)&&decide (s.head? =some 48))&&s.all fc
def rI(s:By):Bool:=!decide (s=[])&&s.all fc
def kZ(s:By):Int:=if iM s then Cu s else 0
def Ep:Nat->Nat->By
 | 0,u=>[UInt8.ofNat (48+u)]
 |f+1,u=>
  match Nat.blt u 10 with
  |true=>[UInt8.ofNat (48+u)]
  |false=>Ep f (u / 10)++[UInt8.ofNat (48+u%10)]
theorem y3:∀(f u:Nat),u<10^(f+1)->Ep f u=Lib.decDigits u
 | 0,u,h=>by rw[Lib.decDigits,dif_pos (by simpa using h)];rfl
 |f+1,u,h=>by
  unfold Ep;cases hb:Nat.blt u 10 with
  |true=>rw[Lib.decDigits,dif_pos (by rw[Nat.blt_eq]at hb;exact hb)]
  |false=>
   have hn:¬u<10:=λx=>by rw[<-Nat.blt_eq,hb]at x;cases x
   rw[Lib.decDigits,dif_neg hn,y3 f (u / 10) (by rw[Nat.pow_succ]at h;omega)]
def jG(n:Int):By:=Ep n.toNat n.toNat
def kC(n:Int):jG n=Lib.decDigits n.toNat:=y3 _ _ (Nat.lt_trans (Nat.lt_succ_self _) (Nat.lt_pow_self De))
def iE(s:By):Int:=s.foldl (λx c=>(339*x+(c.toNat:Int)).tmod 9999749) 1
def nG(s:By):By:=List.replicate (7-(jG (iE s)).length) 48++jG (iE s)
def wq(e:gq):List (By):=[jG e.num,e.kind]++e.names++e.cE.map jG
def iN(e:gq):By:=jo 32 (wq e)
def vg(e:gq):By:=iN e++[35]++nG (iN e)++[10]
def vB(l:List gq):By:=(l.map vg).flatten
def bR:List (By)->Bool->By×List (By)×Bool
 |[],_=>([],[],true)
 |w::r,wr=>if w=[]then([],[],true)else(w,r,wr)
def dh:Nat->List (By)->Bool->List (By)×List (By)×Bool
 | 0,ws,b=>([],ws,b)
 |n+1,ws,b=>((bR ws b).1:: (dh n (bR ws b).2.1 (bR ws b).2.2).1,(dh n (bR ws b).2.1 (bR ws b).2.2).2)
def fC:Nat->List (By)->Bool->List Int×List (By)×Bool
 | 0,ws,b=>([],ws,b)
 |n+1,ws,b=>(kZ (bR ws b).1:: (fC n (bR ws b).2.1 ((bR ws b).2.2 || !iM (bR ws b).1)).1,(fC n (bR ws b).2.1 ((bR ws b).2.2 || !iM (bR ws b).1)).2)
def lE:gq:=⟨0,[],[],[],[]⟩
def eE(ws:List (By)):gq×Bool:=
 match gT (bR ws false).1 with
 |none=>(lE,false)
 |some d=>
  let n:=dh (bM d).length (bR ws false).2.1 (bR ws false).2.2
  let v:=fC (cF d) n.2.1 n.2.2
  (⟨0,bA d,n.1,v.1,[]⟩,!v.2.2&&decide (v.2.1.length=0))
def fe(c:UInt8):By->By×By×Bool
 |[]=>([],[],false)
 |x::r=>if x=c then([],r,true)else(x:: (fe c r).1,(fe c r).2)
def fP(s:By)(n:Int):gq×Int:=
 if s.length<8 then(lE,25)else
 if s.getD (s.length-8) 0≠35\/¬rI (s.drop (s.length-7))=true then(lE,25)else
 if nG (s.take (s.length-8))≠s.drop (s.length-7)then(lE,27)else
 let h:=fe 32 (s.take (s.length-8))
 let e:=eE (bJ 32 h.2.1)
 if !iM h.1 || !e.2||decide (gV {e.1 with num:=kZ h.1}≠0)then(lE,25)else
 ({e.1 with num:=kZ h.1},bZ (decide (kZ h.1≠n)) 11)
def ri:Nat->By->List gq->Nat->List gq×Int×Int
 | 0,_,l,a=>(l,(a:Int),0)
 |f+1,s,l,a=>
  if s=[]then(l,(a:Int),0)else
  if !(fe 10 s).2.2 then(l,(a:Int),28)else
  let e:=fP (fe 10 s).1 ((l.length:Int)+1)
  if e.2≠0 then(l,(a:Int),e.2)else ri f (fe 10 s).2.1 (l++[e.1]) (a+(fe 10 s).1.length+1)
def lB(s:By):List gq×Int×Int:=if 1000000<s.length then([],0,26)else ri (s.length+1) s [] 0
def kW(w:By):Option (Nat×Bool×Nat):=
 if w=[108,101,102,116]then some (0,true,4)else
 if w=[102,114,111,109]then some (1,true,5)else
 if w=[108,105,110,101,115]then some (2,true,3)else
 if w=[117,110,115,97,102,101]then some (3,false,2)else
 if w=[116,97,112,101,115]then some (4,true,2)else
 if w=[114,101,108,101,97,115,101,100]then some (5,false,5)else
 if w=[119,97,110,116]then some (6,true,0)else none
def sd(l:List nE):List (By):=(l.map λp=>if p.rel then [p.name,jG p.nq]else []).flatten
def kE(R:gx)(n:By):Nat->List (By)
 | 0=>(cJ (eS R n).bp 0).map jG
 | 1=>iJ R n
 | 2=>(fq R n).map gN.name
 | 3=>kf R R.tick
 | 4=>(qX R n).aJ
 | 5=>sd R.aO
 |_=>[jG (zI R n).length,jG (dO R n).want,if(dO R n).acc then [97,99,99,101,112,116,101,100]else [111,112,101,110]]
def yd(l:List (By)):By:=if l=[]then [110,111,110,101]else jo 32 l
def nB(R:gx)(ws:List (By))(q:Nat×Bool×Nat):By×Int:=
 let n:=if q.2.1=true/\ws.length=2 then ws.getD 1 []else []
 if(q.2.1=true/\¬(ws.length=2/\n≠[]))\/(q.2.1=false/\ws.length≠1)then([],25)else
 if q.2.1=true/\dw R q.2.2 n=false then([],10)else(yd (kE R n q.1),0)
def Af(H:kI)(s:By):kI×By×Int:=
 if 4096<s.length then(H,[],26)else
 if s=[]then(H,[],25)else
 match kW ((bJ 32 s).headD [])with
 |some q=>(H,nB H.now (bJ 32 s) q)
 |none=>
  match gT ((bJ 32 s).headD [])with
  |none=>(H,[],13)
  |some _=>
   if !(eE (bJ 32 s)).2 then(H,[],25)else
   if 1000<=H.dt.length then(H,[],5)else
   let e:={ (eE (bJ 32 s)).1 with num:=(H.dt.length:Int)+1}
   if fU H e≠0 then(H,[],fU H e)else(nC H e,[100,111,110,101,32]++jG e.num,0)
structure CW(P:Program):Prop where
 ib:∀(args:Array Value) (w:World),(callFunc 288 args).run P w=((Extern.BytealgIndexByte.indexByte args).run P w).andThen λv w'=>.ok (.value v) w'
 ct:∀(args:Array Value) (w:World),(callFunc 262 args).run P w=((Extern.BytealgCount.count args).run P w).andThen λv w'=>.ok (.value v) w'
def AZ(c:UInt8):(c.toNat:Int).toNat.toUInt8=c:=Si
def qW{s}{n:Nat}{kk}(hn:n<=s.length):uT (.str s) none (some (.int kk (n:Int)))=some (.str (s.take n)):=by
 simp only[uT,jH hn,Zj,Nat.sub_zero]
def kh{s}{n:Nat}{kk}(hn:n<=s.length):uT (.str s) (some (.int kk (n:Int))) none=some (.str (s.drop n)):=by
 simp only[uT,mA hn];rw[YE Si]
def tP{p r kk}:uT (.str (p++r)) none (some (.int kk (p.length:Int)))=some (.str p):=by
 rw[qW Si];simp
def nM{p r c kk}:uT (.str (p++c::r)) (some (.int kk ((p.length+1:Nat):Int))) none=some (.str r):=by
 rw[kh Si];simp
def yA{α:Type}{don:List α}{z q:α}{m k:Nat}(hk:don.length=k)(hm:0<m):(don++List.replicate m z).set k q=(don++[q])++List.replicate (m-1) z:=by
 subst hk;obtain⟨n,rfl⟩:∃n,m=n+1:=⟨m-1,Om⟩;rw[Zx,YP _ _ (X8 _),YY];simp
section
variable {P:Program}(X:CW P) {h:ah}
include X
def MS(s:By)(c:UInt8):bF P (.func (.func 288) [] []) [.str s,.int .u8 c.toNat] h (λv h'=>v=.int .i64 (Lib.indexByte s c)/\h' =h):=by
 refine⟨_,[],?_,rfl,Si⟩;rw[Yo];intro m w cv vs hr hf hargs;rw[VR]at hf;obtain⟨f',a',c',rfl,hfn,ha,hc⟩:=hf;simp only[AF]at hfn;subst hfn;rw[bD]at ha hc;subst ha;subst hc;obtain⟨v1,vs1,rfl,h1,hargs⟩:=aS.1 hargs;obtain⟨v2,vs2,rfl,h2,hargs⟩:=aS.1 hargs;rw[bD]at hargs;subst hargs;have h1:v1=.string ⟨⟨s⟩⟩:=h1;have h2:v2=.int .u8 (c.toNat:Int):=h2;subst h1;subst h2;refine⟨_,λw=>rfl,?_⟩;simp only[invoke];rw[X.ib];have e:=Lib.run_indexByteString (P:=P) ⟨⟨s⟩⟩ (c.toNat:Int) w;rw[AZ]at e;have e':(Extern.BytealgIndexByte.indexByte (#[]++#[.string ⟨⟨s⟩⟩,.int .u8 (c.toNat:Int)]++#[])).run P w=.ok (.int .i64 (Lib.indexByte s c)) w:=by simpa using e
 exact z53
def MT(s:By)(c:UInt8):bF P (.func (.func 262) [] []) [.str s,.int .u8 c.toNat] h (λv h'=>v=.int .i64 (s.count c:Nat)/\h' =h):=by
 refine⟨_,[],?_,rfl,Si⟩;rw[Yo];intro m w cv vs hr hf hargs;rw[VR]at hf;obtain⟨f',a',c',rfl,hfn,ha,hc⟩:=hf;simp only[AF]at hfn;subst hfn;rw[bD]at ha hc;subst ha;subst hc;obtain⟨v1,vs1,rfl,h1,hargs⟩:=aS.1 hargs;obtain⟨v2,vs2,rfl,h2,hargs⟩:=aS.1 hargs;rw[bD]at hargs;subst hargs;have h1:v1=.string ⟨⟨s⟩⟩:=h1;have h2:v2=.int .u8 (c.toNat:Int):=h2;subst h1;subst h2;refine⟨_,λw=>rfl,?_⟩;simp only[invoke];rw[X.ct];have e:=Lib.run_countString (P:=P) ⟨⟨s⟩⟩ (c.toNat:Int) w;rw[AZ]at e;have e':(Extern.BytealgCount.count (#[]++#[.string ⟨⟨s⟩⟩,.int .u8 (c.toNat:Int)]++#[])).run P w=.ok (.int .i64 (s.count c:Nat)) w:=by simpa [Lib.countByte]using e
 exact z53
end
attribute [local irreducible] WP WC WE WB WR WF WL WG gg
section
variable {P:Program}(T:fI P) (X:CW P) {h:ah}
include T X
def r272(s:By)(c:UInt8):ay P 272 [.str s,.int .u8 c.toNat] h (λv _=>v=.int .i64 (Lib.indexByte s c)):=by
 refine .of T.mix T.c272 ?_;unfold fn272 zt;refine Wn ?_;refine WF.val (MS X s c) ?_;rintro _ g ⟨rfl,hg⟩;exact Wn Tv
def r221(s:By)(c:UInt8):ay P 221 [.str s,.str [c]] h (λv _=>v=.int .i64 (s.count c:Nat)):=by
 refine .of T.mix T.c221 ?_;unfold fn221;simp only[aQ,aT,ba,bd,reduceAdd,reduceMul,reduceLeDiff,reduceEqDiff,Yn,show decide (((1:Nat):Int)=0)=false from rfl,show decide (((1:Nat):Int)=1)=true from rfl,vH];refine WF.val (MT X s c) ?_;rintro _ g ⟨rfl,hg⟩;exact Wn Tv
def r253(s:By)(c:UInt8):ay P 253 [.str s,.str [c]] h (λv _=>v=.int .i64 (Lib.indexByte s c)):=by
 refine .of T.mix T.c253 ?_;unfold fn253;by_cases hs:[c]=s
 ·have d1:decide ([c]=s)=true:=XZ hs;have e:Lib.indexByte s c=0:=by rw[<-hs];simp[Lib.indexByte]
  simp only[aQ,aT,ba,bd,reduceAdd,reduceMul,reduceLeDiff,reduceEqDiff,Yn,show decide (((1:Nat):Int)=0)=false from rfl,d1,e]
 ·have d1:decide ([c]=s)=false:=XU hs;simp only[aQ,aT,ba,bd,reduceAdd,reduceMul,reduceLeDiff,reduceEqDiff,Yn,show decide (((1:Nat):Int)=0)=false from rfl,show decide (((1:Nat):Int)=1)=true from rfl,d1,vH];refine WF.ce T.c272 (r272 T X s c) λg=>?_
  exact Wn Tv
def r222(s:By)(c:UInt8):ay P 222 [.str s,.str [c]] h (λv _=>v=.int .i64 (Lib.indexByte s c)):=by
 refine .of T.mix T.c222 ?_;unfold fn222 zt;refine Wn ?_;refine WF.ce T.c253 (r253 T X s c) λg=>?_
 exact Wn Tv
set_option maxRecDepth 10000 in
def r128(s:By)(c:UInt8)(hs:s.length<=2^40):ay P 128 [.str s,.str [c],.int .i64 0,.int .i64 (-1)] h (λv h'=>aH h' v 1 ((bJ c s).map ao)):=by
 refine .of T.mix T.c128 ?_;obtain⟨ts,QP⟩:∃ts,ts=aU 66 [.str s,.str [c],.int .i64 0,.int .i64 (-1)]:=⟨_,rfl⟩;have hlen:ts.length=66:=by rw[QP];rfl
 have t0:slot ts 0=.str s:=by rw[QP];rfl
 have t1:slot ts 1=.str [c]:=by rw[QP];rfl
 have t2:slot ts 2=.int .i64 0:=by rw[QP];rfl
 have t3:slot ts 3=.int .i64 (-1):=by rw[QP];rfl
 unfold fn128;show WC P bT _ [] (aU 66 [.str s,.str [c],.int .i64 0,.int .i64 (-1)]) h _;rw[<-QP];clear QP;have hcnt:s.count c<=s.length:=List.count_le_length;have w1:IntKind.i64.wrap ((s.count c:Int)+1)=((s.count c+1:Nat):Int):=by rw[bw Om Om];omega
 have w2:IntKind.i64.wrap ((s.length:Int)+1)=((s.length+1:Nat):Int):=by rw[bw Om Om];omega
 have e1:min ((s.count c+1:Nat):Int) ((s.length+1:Nat):Int)=((s.count c+1:Nat):Int):=Om
 have w3:IntKind.i64.wrap (((s.count c+1:Nat):Int)-1)=((s.count c:Nat):Int):=by rw[bw Om Om];omega
 have dn:decide ([c]=([] :By))=false:=XU Si;have d1:decide ((-1:Int)=0)=false:=rfl;have d2:decide (-1<(0:Int))=true:=rfl;refine Rs (A7 t0 t1 t2 t3 @dn @d1 @d2) ?_;refine WF.ce T.c221 (r221 T X s c) λg1=>?_
 repeat (first|simp (config:={maxSteps:=1000000}) only[aQ,aT,ba,bd,reduceAdd,reduceMul,reduceLeDiff,reduceEqDiff,bg,hlen,Yb,Yf,t0,t1,t2,t3,w1,w2,e1,w3,nW (es:=1) (w:=16) (N0:=(h++g1).length) (n:=s.count c+1) (z:=[AV.str []]) (k:=.i64) (k':=.i64) Om Om]|simp (config:={maxSteps:=1000000}) (disch:=first|(simp only[XS,XX,X1]<;>omega)|rfl|omega|fail) only[eo,aQ,aT,ba,bd,reduceAdd,reduceMul,reduceLeDiff,reduceEqDiff,bg,hlen,Yb,Yf,t0,t1,t2,t3,w1,w2,e1,w3,nW (es:=1) (w:=16) (N0:=(h++g1).length) (n:=s.count c+1) (z:=[AV.str []]) (k:=.i64) (k':=.i64) Om Om])
 have hF:=Fr.AQ (N:=h.length) (n:=s.count c+1) (h:=h++g1) (z:=[AV.str []]) (es:=1) Si rfl;obtain⟨sv,hsv⟩:∃sv,sv=AV.slice (h++g1).length 0 (s.count c+1) 1:=⟨_,rfl⟩;rw[<-hsv]at hF ⊢;have er:List.replicate (s.count c+1) [AV.str []]=(List.replicate (s.count c+1) ([] :By)).map ao:=by simp[ao]
 rw[er,XV]at hF;rw[XV];refine WL.inv T.mix (λn ts' h'=>∃(k:Nat) (don:List (By)) (q:By) (g':ah),don.length=k/\bJ c s=don++bJ c q/\k+q.count c=s.count c/\n=s.count c-k/\h' =h++g'/\Fr h.length h' sv 1 ((don++List.replicate (s.count c+1-k) ([] :By)).map ao)/\ts'.length=66/\slot ts' 0=.str q/\slot ts' 1=.str [c]/\slot ts' 2=.int .i64 0/\slot ts' 3=.int .i64 ((s.count c:Nat):Int)/\slot ts' 9=sv/\slot ts' 10=.int .i64 k) (s.count c)
  ⟨0,[],s,_,rfl,rfl,Om,rfl,rfl,hF,(Sq t0),(Sq t0),(Sq t1),(Sq t2),(Sq t0),(Sq t0),iQ⟩ ?_
 rintro _ ts' _ ⟨k,don,q,g',hdl,U8,hkc,rfl,rfl,hF',R4,u0,u1,u2,u3,u9,WJ⟩;clear hlen t0 t1 t2 t3;have hlen:=R4;have Ve:k<(don++List.replicate (s.count c+1-k) ([] :By)).length:=by simp;omega
 have hql:q.length<=s.length:=by
  have e1:=jF (c:=c) (s:=s);have:∀(d:List (By)) (z:List (By)),(jo c z).length<=(jo c (d++z)).length:=by
   intro d
   induction d with
   |nil=>intro z;exact X8 _
   |cons x d ih=>
    intro z;by_cases hz:d++z=[]
    ·have:z=[]:=by simp at hz;exact hz.2
     subst this;simp[jo]
    ·rw[Zg,nh hz];have:=ih z;simp;omega
  have:=this don (bJ c q);rw[<-U8,jF,jF]at this;exact this
 rcases vJ c q with⟨hno,hix⟩|⟨p,q',hp,hq,hix⟩
 ·have hc0:q.count c=0:=List.count_eq_zero.2 hno;have e3:¬(k:Int)<((s.count c:Nat):Int):=Om
  have ek:s.count c+1-k=1:=Om
  have ixk:=hF'.a8.dM (kk:=.i64) Ve;have w4:IntKind.i64.wrap ((k:Int)+1)=((k+1:Nat):Int):=by rw[bw Om Om];omega
  refine Rs (A9 @u0 @u1 @u2 @u3 @u9 @WJ e3 @Yp @ixk) ?_;refine WR.vi (h0:=h) (off:=0) (x':=q) hF' Ve De rfl (by simp[ao]) ?_;intro g3 Xz Wv _;rw[yA hdl Om,ek]at Wv;simp only[YY,aal,Yo]at Wv;have esp:don++[q]=bJ c s:=by rw[U8,sR hno]
  rw[esp]at Wv;have S3:iZ none (some (AV.int .i64 ((k+1:Nat):Int))) (bJ c s).length=some (0,k+1):=jH (by rw[<-esp];simp;omega);obtain⟨s',es',QQ⟩:=Wv.a8.FG S3;refine Rs (A8 @u0 @u1 @u2 @u3 @u9 @WJ @w4 @es') ?_;have et:List.take (k+1-0) (List.drop 0 (bJ c s))=bJ c s:=by
   rw[Zj,YE (by rw[<-esp];simp;omega)]
  rw[et]at QQ;exact QQ
 ·have hcq:q.count c=q'.count c+1:=by rw[hq,List.count_append,List.count_eq_zero.2 hp,List.count_cons_self];omega
  have e3:(k:Int)<((s.count c:Nat):Int):=Om
  refine Rs (A8 @u0 @u1 @u2 @u3 @u9 @WJ e3 @Yi) ?_;refine WF.ce T.c222 (r222 T X q c) λg2=>?_
  have ixk:=(hF'.app g2).a8.dM (kk:=.i64) Ve;have w4:IntKind.i64.wrap ((k:Int)+1)=((k+1:Nat):Int):=by rw[bw Om Om];omega
  have TW:p.length<q.length:=by rw[hq];simp
  have w5:IntKind.i64.wrap ((p.length:Int)+0)=(p.length:Int):=by rw[bw Om Om];omega
  have w6:IntKind.i64.wrap ((p.length:Int)+((1:Nat):Int))=((p.length+1:Nat):Int):=by rw[bw Om Om];omega
  have dp:decide ((p.length:Int)<0)=false:=XU Om;have hF2:=hF'.app g2;rw[XV]at hF2 ⊢;rw[hix];subst hq
  repeat (first|simp (config:={maxSteps:=1000000}) only[aQ,aT,ba,bd,reduceAdd,reduceMul,reduceLeDiff,reduceEqDiff,bg,hlen,Yb,Yf,u0,u1,u2,u3,u9,WJ,dp,w5,ixk,tP,Yn,w6,nM]|simp (config:={maxSteps:=1000000}) (disch:=first|(simp only[XS,XX,X1]<;>omega)|rfl|omega|fail) only[eo,aQ,aT,ba,bd,reduceAdd,reduceMul,reduceLeDiff,reduceEqDiff,bg,hlen,Yb,Yf,u0,u1,u2,u3,u9,WJ,dp,w5,ixk,tP,Yn,w6,nM])
  refine WR.vi (h0:=h) (off:=0) (x':=p) hF2 Ve De rfl (by simp[ao]) ?_;intro g3 Xz Wv _;rw[yA hdl Om]at Wv
  repeat (first|simp (config:={maxSteps:=1000000}) only[aQ,aT,ba,bd,reduceAdd,reduceMul,reduceLeDiff,reduceEqDiff,bg,hlen,Yb,Yf,u0,u1,u2,u3,u9,WJ,Yn,w6,nM,w4]|simp (config:={maxSteps:=1000000}) (disch:=first|(simp only[XS,XX,X1]<;>omega)|rfl|omega|fail) only[eo,aQ,aT,ba,bd,reduceAdd,reduceMul,reduceLeDiff,reduceEqDiff,bg,hlen,Yb,Yf,u0,u1,u2,u3,u9,WJ,Yn,w6,nM,w4])
  have em:s.count c+1-k-1=s.count c+1-(k+1):=Om
  rw[em]at Wv;exact⟨s.count c-(k+1),Om,k+1,don++[p],q',g3,by simp[hdl],by rw[U8,qV hp];simp,Om,rfl,rfl,Wv,rfl,rfl⟩
def r64(s:By)(c:UInt8)(hs:s.length<=2^40):ay P 64 [.str s,.str [c]] h (λv h'=>aH h' v 1 ((bJ c s).map ao)):=by
 refine .of T.mix T.c64 ?_;unfold fn64;refine Wn ?_;refine WF.res T.c128 (r128 T X s c hs) ?_;intro v g hv;refine Wn ?_;exact hv
omit T X in
theorem y4{c}:∀{s},c∉s->fe c s=(s,[],false)
 |[],_=>rfl
 |x::r,h=>by
  simp only[YA,not_or]at h;rw[fe,X5 (λe=>h.1 e.symm),y4 h.2]
omit T X in
theorem wk{c}:∀{p q},c∉p->fe c (p++c::q)=(p,q,true)
 |[],q,_=>by rw[ZB,fe,X9 rfl]
 |x::r,q,h=>by
  simp only[YA,not_or]at h;rw[Zg,fe,X5 (λe=>h.1 e.symm),wk h.2]
def r188(s:By)(c:UInt8)(hs:s.length<=2^40):ay P 188 [.str s,.str [c]] h (λv _=>v=.dN [.str (fe c s).1,.str (fe c s).2.1,.bool (fe c s).2.2]):=by
 refine .of T.mix T.c188 ?_;unfold fn188;refine Wn ?_;refine WF.ce T.c253 (r253 T X s c) λg=>?_
 rcases vJ c s with⟨hno,hix⟩|⟨p,q,hp,hq,hix⟩
 ·refine Ws (A2 @hix (show decide ((0:Int)<=-1)=false from rfl)) ?_;rw[y4 hno]
 ·have d1:decide ((0:Int)<=(p.length:Int))=true:=XZ Om;have TW:p.length<s.length:=by rw[hq];simp
  have w6:IntKind.i64.wrap ((p.length:Int)+((1:Nat):Int))=((p.length+1:Nat):Int):=by rw[bw Om Om];omega
  rw[hix];subst hq;simp only[aQ,aT,ba,bd,reduceAdd,reduceMul,reduceLeDiff,reduceEqDiff,d1,Yn,w6,tP,nM];rw[wk hp]
def r98(s:By)(c:UInt8)(hs:s.length<=2^40):ay P 98 [.str s,.str [c]] h (λv _=>v=.dN [.str (fe c s).1,.str (fe c s).2.1,.bool (fe c s).2.2]):=by
 refine .of T.mix T.c98 ?_;unfold fn98;refine Wn ?_;refine WF.ce T.c188 (r188 T X s c hs) λg=>?_
 exact Wn Tv
end
def Pw(h:ah):Prop:=∃mu tl,h[2]? =some (.cells (Lib.pow10Tab.map (AV.int .u64)) mu tl)
def Pw.ext{h k}(o:Pw h)(e:Ext h k):Pw k:=by
 obtain⟨mu,tl,hb⟩:=o;exact⟨mu,tl,e.some hb⟩
structure qq(P:Program):Prop where
 itoa:∀{h:ah}{n:Int},-9223372036854775808<=n->n<=9223372036854775807->Pw h->ay P 113 [.i n] h (λv _=>v=.str (Lib.itoa n))
 join:∀{h:ah}{s:AV}{sep:By}{xs:List (By)},aH h s 1 (xs.map ao)->(Lib.join xs sep).length<=140737488355328/\xs.length<=140737488355328->ay P 114 [s,.str sep] h (λv _=>v=.str (Lib.join xs sep))
 atoi:∀{h:ah}{s:By},s.all fc=true->s≠[]->s.length<=9->ay P 254 [.str s] h (λv _=>v=.dN [.i (Cu s),.km])
 rep:∀{h:ah}{n:Nat},n<=7->ay P 252 [.str [48],.i (n:Nat)] h (λv _=>v=.str (List.replicate n 48))
def gF{n}(h:0<=n):Lib.itoa n=jG n:=by rw[kC];unfold Lib.itoa;rw[X5 Om]
theorem mv:∀{k u},u<10^(k+1)->(Lib.decDigits u).length<=k+1
 | 0,u,h=>by rw[Lib.decDigits,dif_pos (by simpa using h)];simp
 |k+1,u,h=>by
  by_cases hu:u<10
  ·rw[Lib.decDigits,dif_pos hu];simp
  ·rw[Lib.decDigits,dif_neg hu,XS];have:=mv (k:=k) (u:=u / 10) (by rw[Nat.pow_succ]at h;omega);simp;omega
def kB{c}:fc c=true↔48<=c.toNat/\c.toNat<=57:=by simp[fc]
def mQ{α:Type}{s:List α}{k:Nat}(hk:k<s.length):s.take (k+1)=s.take k++[s[k]]:=by
 rw[YF,XY hk];rfl
def gQ(sw:AV)(wr:Bool):ak:=.b [sw,.bool wr]
section
variable {P:Program}(T:fI P) {h A B:ah}
include T
set_option maxRecDepth 10000 in
def r189(s:By)(hs:s.length<=2^40):ay P 189 [.str s] h (λv _=>v=.bool (rI s)):=by
 refine .kV 18 T.mix T.c189 ?_;intro ts hlen t0;unfold fn189;refine Rs t0 ?_;refine WL.inv T.mix (λn ts' h'=>∃k:Nat,k<=s.length/\n=s.length-k/\h' =h++[.iter s k]/\(s.take k).all fc=true/\ts'.length=18/\slot ts' 0=.str s/\slot ts' 6=.ptr h.length 0) s.length
  ⟨0,Om,rfl,rfl,rfl,(Sq t0),(Sq t0),(Sq t0)⟩ ?_
 rintro _ ts' _ ⟨k,hk,rfl,rfl,hd,R4,u0,u6⟩;clear hlen t0;have hlen:=R4;by_cases hlt:k<s.length
 ·obtain⟨c,w,Te,hcw⟩:∃c w,Utf8.decode ⟨⟨s⟩⟩ k=(c,w)/\(c=s[k].toNat/\w=1/\s[k].toNat<128\/128<=c/\128<=s[k].toNat):=by
   by_cases hc:s[k].toNat<128
   ·exact⟨_,_,dec_lt hlt hc,.inl ⟨rfl,rfl,hc⟩⟩
   ·exact z193
  have hall:fc s[k]=false->AV.bool false=AV.bool (rI s):=λhx=>by
   have:s.all fc=false:=by rw[List.all_eq_false];exact⟨s[k],Ya hlt,by simp[hx]⟩
   simp only[rI,this,Bool.and_false]
  by_cases a5:(48:Int)<=c
  ·by_cases a6:(c:Int)<=57
   ·have hc:c=s[k].toNat/\w=1:=Om
    obtain⟨rfl,rfl⟩:=hc;have hy:fc s[k]=true:=kB.2 Om;have d1:decide ((s[k].toNat:Int)<48)=false:=XU Om;have d2:decide ((57:Int)<(s[k].toNat:Int))=false:=XU Om
    repeat (first|simp (config:={maxSteps:=1000000}) only[aQ,aT,ba,bd,reduceAdd,reduceMul,reduceLeDiff,reduceEqDiff,bg,hlen,Yb,Yf,u0,u6,dZ,hlt,Yf,Te,d1,d2]|simp (config:={maxSteps:=1000000}) (disch:=first|(simp only[XS,XX,X1]<;>omega)|rfl|omega|fail) only[eo,aQ,aT,ba,bd,reduceAdd,reduceMul,reduceLeDiff,reduceEqDiff,bg,hlen,Yb,Yf,u0,u6,dZ,hlt,Yf,Te,d1,d2])
    refine⟨s.length-(k+1),Om,k+1,Om,rfl,rfl,?_,trivial⟩;rw[mQ hlt,List.all_append,hd];simp[hy]
   ·have d1:decide ((c:Int)<48)=false:=XU Om;have d2:decide ((57:Int)<(c:Int))=true:=XZ Om
    repeat (first|simp (config:={maxSteps:=1000000}) only[aQ,aT,ba,bd,reduceAdd,reduceMul,reduceLeDiff,reduceEqDiff,bg,hlen,Yb,Yf,u0,u6,dZ,hlt,Yf,Te,d1,d2]|simp (config:={maxSteps:=1000000}) (disch:=first|(simp only[XS,XX,X1]<;>omega)|rfl|omega|fail) only[eo,aQ,aT,ba,bd,reduceAdd,reduceMul,reduceLeDiff,reduceEqDiff,bg,hlen,Yb,Yf,u0,u6,dZ,hlt,Yf,Te,d1,d2])
    exact JG
  ·have d1:decide ((c:Int)<48)=true:=XZ Om
   repeat (first|simp (config:={maxSteps:=1000000}) only[aQ,aT,ba,bd,reduceAdd,reduceMul,reduceLeDiff,reduceEqDiff,bg,hlen,Yb,Yf,u0,u6,dZ,hlt,Yf,Te,d1]|simp (config:={maxSteps:=1000000}) (disch:=first|(simp only[XS,XX,X1]<;>omega)|rfl|omega|fail) only[eo,aQ,aT,ba,bd,reduceAdd,reduceMul,reduceLeDiff,reduceEqDiff,bg,hlen,Yb,Yf,u0,u6,dZ,hlt,Yf,Te,d1])
   exact JG
 ·have ek:k=s.length:=Om
  rw[ek,Yz]at hd
  repeat (first|simp (config:={maxSteps:=1000000}) only[aQ,aT,ba,bd,reduceAdd,reduceMul,reduceLeDiff,reduceEqDiff,bg,hlen,Yb,Yf,u0,u6,dZ,hlt,Yb]|simp (config:={maxSteps:=1000000}) (disch:=first|(simp only[XS,XX,X1]<;>omega)|rfl|omega|fail) only[eo,aQ,aT,ba,bd,reduceAdd,reduceMul,reduceLeDiff,reduceEqDiff,bg,hlen,Yb,Yf,u0,u6,dZ,hlt,Yb])
  simp only[rI,hd,Bool.and_true,decide_not]
omit T in
theorem Ah{s}:iM s=(rI s&&decide (s.length<=9) && !(decide (1<s.length)&&decide (s.head? =some 48))):=by
 unfold iM rI;cases s with
 |nil=>rfl
 |cons x r=>cases (x::r).all fc<;>cases decide ((x::r).length<=9)<;>simp
set_option maxRecDepth 10000 in
def r190(Z:qq P)(s:By)(hs:s.length<=2^40):ay P 190 [.str s] h (λv _=>v=.dN [.i (kZ s),.bool (iM s)]):=by
 refine .kV 30 T.mix T.c190 ?_;intro ts hlen t0;unfold fn190;refine Rs t0 ?_;refine WF.ce T.c189 (r189 T s hs) λg=>?_
 have bad:iM s=false->AV.dN [.i 0,.bool false]=AV.dN [.i (kZ s),.bool (iM s)]:=λhb=>by unfold kZ;rw[hb];rfl
 have e0:=Ah (s:=s);cases hd:rI s with
 |false=>
  rw[hd]at e0;refine Rs (A3 t0 @hd @Yr) ?_;exact bad (by rw[e0];rfl)
 |true=>
  rw[hd]at e0;have Rl:=hd;unfold rI at Rl;simp only[Yv,Zi,ZK]at Rl;by_cases h9:9<s.length
  ·have d9:decide ((9:Int)<s.length)=true:=XZ Om;have q9:decide (s.length<=9)=false:=XU Om;rw[q9]at e0;refine Rs (A4 t0 @hd @Yk @d9) ?_;exact bad (by rw[e0];rfl)
  ·have d9:decide ((9:Int)<s.length)=false:=XU Om;have q9:decide (s.length<=9)=true:=XZ Om;rw[q9]at e0;obtain⟨c,r,rfl⟩:∃c r,s=c::r:=by cases s with|nil=>exact absurd rfl Rl.1|cons c r=>exact⟨c,r,rfl⟩
   by_cases h1:1<(c::r).length
   ·have d1:decide ((1:Int)<((c::r).length:Int))=true:=XZ Om;have q1:decide (1<(c::r).length)=true:=XZ h1;rw[q1]at e0;by_cases h2:c=48
    ·have d2:decide ((c.toNat:Int)=48)=true:=by rw[h2];rfl
     have q2:decide ((c::r).head? =some 48)=true:=by rw[h2];rfl
     rw[q2]at e0;refine Rs (A7 t0 @hd @Yk @d9 @d1 @vH @d2) ?_;exact bad (by rw[e0];rfl)
    ·have d2:decide ((c.toNat:Int)=48)=false:=XU λe=>h2 (UInt8.toNat_inj.1 (by simpa using (by omega:c.toNat=48)))
     have q2:decide ((c::r).head? =some 48)=false:=XU (by simp[h2]);rw[q2]at e0;have e1:iM (c::r)=true:=by rw[e0];rfl
     refine Rs (A7 t0 @hd @Yk @d9 @d1 @vH @d2) ?_;exact JJ
   ·have d1:decide ((1:Int)<((c::r).length:Int))=false:=XU Om;have q1:decide (1<(c::r).length)=false:=XU h1;rw[q1]at e0;have e1:iM (c::r)=true:=by rw[e0];rfl
    refine Rs (A5 t0 @hd @Yk @d9 @d1) ?_;exact JJ
set_option maxRecDepth 10000 in
def HH{sw ws wr}(hs:aH A sw 1 (ws.map ao)):
  dq P 207 [.ptr A.length 0] (A++[gQ sw wr]++B) (λv h'=>∃sw',v=.str (bR ws wr).1/\h' =A++[gQ sw' (bR ws wr).2.2]++B/\aH A sw' 1 ((bR ws wr).2.1.map ao)):=by
 refine .of T.mix T.c207 ?_;obtain⟨ts,QP⟩:∃ts,ts=aU 40 [.ptr A.length 0]:=⟨_,rfl⟩;have hlen:ts.length=40:=by rw[QP];rfl
 have t0:slot ts 0=.ptr A.length 0:=by rw[QP];rfl
 unfold fn207;show WC P bT _ [] (aU 40 [.ptr A.length 0]) (A++[gQ sw wr]++B) _;rw[<-QP];clear QP;unfold gQ;have c0:=hs.one;have hsE:∀{k:ah},aH (A++k) sw 1 (ws.map ao):=λ{k}=>hs.ext ⟨k,rfl⟩
 cases ws with
 |nil=>
  have d0:decide ((([] :List (By)).length:Int)=0)=true:=rfl;refine Rs (A4 t0 hs.aM @d0 @c0) ?_;exact⟨.af,by rw[bR];exact⟨rfl,rfl,aH.nil⟩⟩
 |cons w r=>
  have d0:decide (((w::r).length:Int)=0)=false:=XU (by simp;omega);have ix:=hs.qz (kk:=.i64) Si;have ld:∀{k:ah},Ext A k->ar none (cW sw 1 0) (λb=>k[b]?)=some (.str w,.au):=λ{k} e=>hs.kS (i:=0) Si rfl e
  by_cases hw:w=[]
  ·have d1:decide (w=[])=true:=XZ hw;refine Rs (A7 t0 hs.aM @d0 ix @ld @d1 @c0) ?_;exact⟨.af,by rw[bR,X9 hw];exact⟨rfl,rfl,aH.nil⟩⟩
  ·have d1:decide (w=[])=false:=XU hw;have S3:iZ (some (AV.i 1)) none (w::r).length=some (1,(w::r).length):=mA (k:=1) Si;obtain⟨s',es',QQ⟩:=hs.FG S3;have et:List.take ((w::r).length-1) (List.drop 1 (w::r))=r:=Si
   rw[et]at QQ;refine Rs (A9 t0 hs.aM @d0 ix @ld @d1 @c0 @es' QQ.one) ?_;exact⟨s',by rw[bR,X5 hw];exact⟨rfl,rfl,QQ⟩⟩
set_option maxRecDepth 10000 in
def Of(Z:qq P){sw ws wr}(hs:aH A sw 1 (ws.map ao))(hl:∀x∈ws,x.length<=2^40):
  dq P 208 [.ptr A.length 0] (A++[gQ sw wr]++B) (λv h'=>∃(sw':AV) (g:ah),v=.i (kZ (bR ws wr).1)/\h' =A++[gQ sw' ((bR ws wr).2.2 || !iM (bR ws wr).1)]++(B++g)/\aH A sw' 1 ((bR ws wr).2.1.map ao)):=by
 refine .of T.mix T.c208 ?_;obtain⟨ts,QP⟩:∃ts,ts=aU 23 [.ptr A.length 0]:=⟨_,rfl⟩;have hlen:ts.length=23:=by rw[QP];rfl
 have t0:slot ts 0=.ptr A.length 0:=by rw[QP];rfl
 unfold fn208;show WC P bT _ [] (aU 23 [.ptr A.length 0]) (A++[gQ sw wr]++B) _;rw[<-QP];clear QP;refine Rs t0 ?_;refine WF.gen T.c207 (HH T hs) ?_;rintro _ _ ⟨sw',rfl,rfl,QQ⟩;have hwl:(bR ws wr).1.length<=2^40:=by
  cases ws with
  |nil=>simp[bR]
  |cons w r=>
   by_cases hw:w=[]
   ·rw[bR,X9 hw];simp
   ·rw[bR,X5 hw];exact hl w Si
 generalize (bR ws wr).1=w at hwl ⊢;generalize (bR ws wr).2.2=wr' at QQ ⊢;generalize (bR ws wr).2.1=ws' at QQ ⊢;refine Rs t0 ?_;refine WF.ce T.c190 (r190 T Z w hwl) λg=>?_
 unfold gQ;have c0:=QQ.one;cases wr' with
 |true=>
  refine Rs (A3 t0 @c0 @Bool.true_or) ?_;exact⟨sw',g,by rw[XV],QQ⟩
 |false=>
  refine Rs (A3 t0 @c0 @Z6) ?_;exact⟨sw',g,by rw[XV],QQ⟩
end
def uh{α:Type}{p:α->Bool}{L:List α}{k:Nat}(hlt:k<L.length)(hi:L.findIdx? p=((L.drop k).findIdx? p).map (· +k)):(p L[k]=true->cP p L=(k:Int))/\(p L[k]=false->L.findIdx? p=((L.drop (k+1)).findIdx? p).map (· +(k+1))):=by
 have hd:L.drop k=L[k]::L.drop (k+1):=Si
 rw[hd,aab]at hi;constructor
 ·intro hp;rw[hp]at hi;rw[cP,hi];simp
 ·intro hp;rw[hp]at hi;rw[hi];exact P4
def wg{α:Type}{p:α->Bool}{L:List α}(hi:L.findIdx? p=((L.drop L.length).findIdx? p).map (· +L.length)):cP p L= -1:=by
 rw[YS]at hi;rw[cP,hi];rfl
set_option maxRecDepth 10000
section
variable {P:Program}(T:fI P) {h:ah}
include T
def r20(n lo hi:Int):ay P 20 [.i n,.i lo,.i hi] h (λv _=>v=.bool (decide (bE n lo hi≠0))):=by
 refine .nL 15 T.mix T.c20 ?_;intro ts hlen t0 t1 t2;unfold fn20;by_cases h1:n<lo
 ·have q1:decide (n<lo)=true:=XZ h1;refine Rs (A4 t0 t1 t2 q1) ?_;rw[bE,X9 (.inl h1)];rfl
 ·have q1:decide (n<lo)=false:=XU h1;by_cases h2:hi<n
  ·have q2:decide (hi<n)=true:=XZ h2;refine Rs (A5 t0 t1 t2 q1 q2) ?_;rw[bE,X9 (.inr h2)];rfl
  ·have q2:decide (hi<n)=false:=XU h2;refine Rs (A5 t0 t1 t2 q1 q2) ?_;rw[bE,X5 Om];rfl
def r35{L:List (By)}{s:AV}(hs:aH h s 1 (L.map ao))(hl:L.length<2^40)(n:By):ay P 35 [s,.str n] h (λv _=>v=.bool (decide (n∈L))):=by
 refine .eG 18 T.mix T.c35 ?_;intro ts hlen t0 t1;unfold fn35;refine Rs (A2 t0 t1) ?_;refine WL.inv T.mix (λm ts h'=>∃k:Nat,k<=L.length/\m=L.length-k/\h' =h/\(n∈L↔n∈L.drop k)/\ts.length=18/\slot ts 0=s/\slot ts 1=.str n/\slot ts 5=.i k) L.length
  ⟨0,Om,rfl,rfl,Iff.rfl,Sn,(Sq t0),(Sq t1),iQ⟩ ?_
 rintro _ ts _ ⟨k,hk,rfl,rfl,hi,hlen,t0,t1,t5⟩;by_cases hlt:k<L.length
 ·have hd:L.drop k=L[k]::L.drop (k+1):=Si
  rw[hd,YA]at hi;have e3:=fF hlt;have ix:=hs.dM (kk:=.i64) hlt;have ld:=hs.kS (i:=k) (x:=.str L[k]) hlt rfl (Ext.refl _);have e5:=wrapN (n:=k) Om;by_cases hp:L[k]=n
  ·have q:decide (L[k]=n)=true:=XZ hp;refine Rs (A8 t0 t1 t5 e3 hs.aM ix @ld q) ?_;exact Yx AV.bool (XZ (hi.2 (.inl hp.symm))).symm
  ·have q:decide (L[k]=n)=false:=XU hp;refine Rs (A9 t0 t1 t5 e3 hs.aM ix @ld q e5) ?_;exact⟨_,Om,k+1,Om,rfl,⟨λz=>(hi.1 z).resolve_left λe=>hp e.symm,λz=>hi.2 (.inr z)⟩,rfl⟩
 ·have e3:=gK hlt;have e4:k=L.length:=Om
  refine Rs (A5 t0 t1 t5 e3 hs.aM) ?_;rw[e4,YS]at hi;exact Yx AV.bool (XU (λz=>by simpa using hi.1 z)).symm
def r25{L M:List (By)}{s t:AV}(hs:aH h s 1 (L.map ao))(ht:aH h t 1 (M.map ao))(hl:L.length<2^40)(hm:M.length<2^40):ay P 25 [s,t] h (λv _=>v=.bool (decide (L=M))):=by
 refine .eG 26 T.mix T.c25 ?_;intro ts hlen t0 t1;unfold fn25 Dm;by_cases h1:L.length=M.length
 case neg=>
  exact PL
 have q:decide ((L.length:Int)≠M.length)=false:=XU Om;refine Rs (A5 t0 t1 hs.aM ht.aM q) ?_;refine WL.inv T.mix (λm ts h'=>∃k:Nat,k<=L.length/\m=L.length-k/\h' =h/\L.take k=M.take k/\ts.length=26/\slot ts 0=s/\slot ts 1=t/\slot ts 5=.i k) L.length
  ⟨0,Om,rfl,rfl,rfl,Sn,(Sq t0),(Sq t1),iQ⟩ ?_
 rintro _ ts h' ⟨k,hk,rfl,rfl,hi,hlen,t0,t1,t5⟩;by_cases hlt:k<L.length
 ·have Rd:k<M.length:=Om
  have e3:=fF hlt;have ix:=hs.dM (kk:=.i64) hlt;have iy:=ht.dM (kk:=.i64) Rd;have ld:∀{kk:ah},Ext h' kk->_:=λ{kk} e=>hs.kS (i:=k) (x:=.str L[k]) (k:=kk) hlt rfl e
  have ly:∀{kk:ah},Ext h' kk->_:=λ{kk} e=>ht.kS (i:=k) (x:=.str M[k]) (k:=kk) Rd rfl e
  exact z21
 ·exact z75
def r62{L M:List (Int)}{s t:AV}(hs:aH h s 1 (L.map aK))(ht:aH h t 1 (M.map aK))(hl:L.length<2^40)(hm:M.length<2^40):ay P 62 [s,t] h (λv _=>v=.bool (decide (L=M))):=by
 refine .eG 26 T.mix T.c62 ?_;intro ts hlen t0 t1;unfold fn62 Dm;by_cases h1:L.length=M.length
 case neg=>
  exact PL
 have q:decide ((L.length:Int)≠M.length)=false:=XU Om;refine Rs (A5 t0 t1 hs.aM ht.aM q) ?_;refine WL.inv T.mix (λm ts h'=>∃k:Nat,k<=L.length/\m=L.length-k/\h' =h/\L.take k=M.take k/\ts.length=26/\slot ts 0=s/\slot ts 1=t/\slot ts 5=.i k) L.length
  ⟨0,Om,rfl,rfl,rfl,Sn,(Sq t0),(Sq t1),iQ⟩ ?_
 rintro _ ts h' ⟨k,hk,rfl,rfl,hi,hlen,t0,t1,t5⟩;by_cases hlt:k<L.length
 ·have Rd:k<M.length:=Om
  have e3:=fF hlt;have ix:=hs.dM (kk:=.i64) hlt;have iy:=ht.dM (kk:=.i64) Rd;have ld:∀{kk:ah},Ext h' kk->_:=λ{kk} e=>hs.kS (i:=k) (x:=.i L[k]) (k:=kk) hlt rfl e
  have ly:∀{kk:ah},Ext h' kk->_:=λ{kk} e=>ht.kS (i:=k) (x:=.i M[k]) (k:=kk) Rd rfl e
  exact z21
 ·exact z75
def pE{f i w:Nat}{α:Type}{row:α->List AV}{nm:α->By}{L:List α}{s:AV}{V:RV}(c:bV P f=some (uP i w))(o:aC h V)(hs:aH h s w (L.map row))(hv:V.row[i]? =some s)(hr:∀y,(row y)[0]? =some (.str (nm y)))(hl:L.length<2^30)(n:By):ay P f [.agg V.row,.str n] h (λv _=>v=.i (cP (λy=>decide (nm y=n)) L)):=by
 refine .eG 22 T.mix c ?_;intro ts hlen t0 t1;unfold uP;have QO:=@aC.box _ _ o;refine Rs (A3 t0 t1 @QO) ?_;refine WL.inv T.mix (λm ts h'=>∃k:Nat,k<=L.length/\m=L.length-k/\h' =h++[ak.b V.row]/\L.findIdx? (λy=>decide (nm y=n))=((L.drop k).findIdx? (λy=>decide (nm y=n))).map (· +k)/\ts.length=22/\slot ts 1=.str n/\slot ts 2=.ptr h.length 0/\slot ts 5=.i k) L.length
  ⟨0,Om,rfl,rfl,Si,Sn,(Sq t1),Sw,iQ⟩ ?_
 rintro _ ts _ ⟨k,hk,rfl,rfl,hi,hlen,t1,t2,t5⟩;have lb:∀{kk n a},Ext (h++[ak.b V.row]) kk->ar n (.ptr h.length a) (λz=>kk[z]?)=dJ n a (.b V.row):=λ{_ _ _} e=>aA (e.some bh)
 by_cases hlt:k<L.length
 ·have e3:=fF hlt;have ix:=hs.dM (kk:=.i64) hlt;have e5:=wrapN (n:=k) Om;obtain⟨h1,h2⟩:=uh hlt hi;obtain⟨y,hy⟩:∃y,y=L[k]:=⟨_,rfl⟩;have ld:∀{kk:ah},Ext h kk->ar none (lK s w k 0) (λb=>kk[b]?)=some (.str (nm y),.au):=λ{kk} e=>hs.pY hlt (by rw[<-hy];exact hr y) e
  rw[<-hy]at h1 h2;by_cases hp:nm y=n
  ·have q:decide (nm y=n)=true:=XZ hp;refine Rs (o8 t1 t2 t5 @lb @hv hs.aM e3 ix @ld q) ?_;rw[h1 q]
  ·have q:decide (nm y=n)=false:=XU hp;refine Rs (pa t1 t2 t5 @lb @hv hs.aM e3 ix @ld q e5) ?_;exact⟨_,Om,k+1,Om,rfl,h2 q,rfl⟩
 ·have e3:=gK hlt;have e4:k=L.length:=Om
  refine Rs (A7 t1 t2 t5 @lb @hv hs.aM e3) ?_;subst e4;rw[wg hi]
def r28{V:RV}(o:aC h V)(l:eI V)(n:By):ay P 28 [.agg V.row,.str n] h (λv _=>v=.i (cP (λy=>decide (y.name=n)) V.lines)):=
 pE T (nm:=λy:gN=>y.name) T.c28 o o.i0 gk (λ_=>rfl) l.l0 n
def r141{V:RV}(o:aC h V)(l:eI V)(n:By):ay P 141 [.agg V.row,.str n] h (λv _=>v=.i (cP (λy=>decide (y.name=n)) V.aJ)):=
 pE T (nm:=λy:rW=>y.name) T.c141 o o.i1 lA (λ_=>rfl) l.l1 n
def r22{V:RV}(o:aC h V)(l:eI V)(n:By):ay P 22 [.agg V.row,.str n] h (λv _=>v=.i (cP (λy:jP×AV=>decide (y.1.name=n)) V.aj)):=
 pE T (nm:=λy:jP×AV=>y.1.name) T.c22 o o.i2 fK (λ_=>rfl) l.l2 n
def r55{V:RV}(o:aC h V)(l:eI V)(n:By):ay P 55 [.agg V.row,.str n] h (λv _=>v=.i (cP (λy:gy×AV=>decide (y.1.name=n)) V.aD)):=
 pE T (nm:=λy:gy×AV=>y.1.name) T.c55 o o.i3 fS (λ_=>rfl) l.l3 n
def r56{V:RV}(o:aC h V)(l:eI V)(n:By):ay P 56 [.agg V.row,.str n] h (λv _=>v=.i (cP (λy:jv×AV=>decide (y.1.name=n)) V.aG)):=
 pE T (nm:=λy:jv×AV=>y.1.name) T.c56 o o.i4 fy (λ_=>rfl) l.l4 n
def r57{V:RV}(o:aC h V)(l:eI V)(n:By):ay P 57 [.agg V.row,.str n] h (λv _=>v=.i (cP (λy=>decide (y.name=n)) V.aO)):=
 pE T (nm:=λy:nE=>y.name) T.c57 o o.i5 gW (λ_=>rfl) l.l5 n
end
def la(r:Nat×Bool):UInt8:=
 match r.1,r.2 with
 | 0,true=>108
 | 1,true=>116
 | 2,true=>115
 | 3,true=>109
 | 4,true=>106
 |_,true=>112
 | 0,false=>76
 | 1,false=>84
 | 2,false=>83
 | 3,false=>77
 | 4,false=>74
 |_,false=>80
def wZ(d:Kd):By:=(bM d).map la
def yW(k:By):List AV:=
 match gT k with
 |none=>[.str [],.i 0,.bool false]
 |some d=>[.str (wZ d),.i (cF d:Int),.bool true]
def gG(d:Kd):decide (bA d=[108,105,110,101])=decide (d=.line):=by cases d<;>rfl
def iB(d:Kd):decide (bA d=[116,97,112,101])=decide (d=.tape):=by cases d<;>rfl
def rB(d:Kd):decide (bA d=[115,104,111,116])=decide (d=.gA):=by cases d<;>rfl
def vP(d:Kd):decide (bA d=[99,111,112,121])=decide (d=.copy):=by cases d<;>rfl
def rC(d:Kd):decide (bA d=[97,99,99,101,112,116])=decide (d=.accept):=by cases d<;>rfl
def ia(d:Kd):decide (bA d=[115,111,117,114,99,101])=decide (d=.source):=by cases d<;>rfl
def jZ(d:Kd):decide (bA d=[109,111,100,117,108,101])=decide (d=.fY):=by cases d<;>rfl
def ji(d:Kd):decide (bA d=[109,101,114,103,101])=decide (d=.merge):=by cases d<;>rfl
def yS(d:Kd):decide (bA d=[114,117,110])=decide (d=.run):=by cases d<;>rfl
def vL(d:Kd):decide (bA d=[116,105,108,101])=decide (d=.fX):=by cases d<;>rfl
def vO(d:Kd):decide (bA d=[102,97,105,108])=decide (d=.fail):=by cases d<;>rfl
def vM(d:Kd):decide (bA d=[112,105,99,116,117,114,101])=decide (d=.gB):=by cases d<;>rfl
def qA(d:Kd):decide (bA d=[114,101,108,101,97,115,101])=decide (d=.rel):=by cases d<;>rfl
def n6(d:Kd):decide (bA d=[117,110,100,111])=decide (d=.fp):=by cases d<;>rfl
def gU:type_of% (AH @gG @iB @rB @vP @rC @ia @jZ @ji @yS @vL @vO @vM @qA @n6):=AH @gG @iB @rB @vP @rC @ia @jZ @ji @yS @vL @vO @vM @qA @n6
def BF:∀r:Nat×Bool,r.1<6->decide (97<=((la r).toNat:Int))=r.2
 |(0,true),_=>rfl
 |(1,true),_=>rfl
 |(2,true),_=>rfl
 |(3,true),_=>rfl
 |(4,true),_=>rfl
 |(5,true),_=>rfl
 |(0,false),_=>rfl
 |(1,false),_=>rfl
 |(2,false),_=>rfl
 |(3,false),_=>rfl
 |(4,false),_=>rfl
 |(5,false),_=>rfl
def DI(d:Kd):∀r∈bM d,r.1<6:=by cases d<;>decide
section
variable {P:Program}(T:fI P) {h:ah}
include T
def r101(k:By):ay P 101 [.str k] h (λv _=>v=.agg (yW k)):=by
 refine .kV 47 T.mix T.c101 ?_;intro ts hlen t0;unfold fn101;unfold yW;cases hk:gT k with
 |none=>
  have WZ:decide (k=[108,105,110,101])=false:=XU (dF hk .line);have WU:decide (k=[116,97,112,101])=false:=XU (dF hk .tape);have WW:decide (k=[115,104,111,116])=false:=XU (dF hk .gA);have Xa:decide (k=[99,111,112,121])=false:=XU (dF hk .copy);have Um:decide (k=[97,99,99,101,112,116])=false:=XU (dF hk .accept);have Ul:decide (k=[115,111,117,114,99,101])=false:=XU (dF hk .source);have WY:decide (k=[109,111,100,117,108,101])=false:=XU (dF hk .fY);have Vm:decide (k=[109,101,114,103,101])=false:=XU (dF hk .merge);have q_run:decide (k=[114,117,110])=false:=XU (dF hk .run);have WT:decide (k=[116,105,108,101])=false:=XU (dF hk .fX)
  have W9:decide (k=[102,97,105,108])=false:=XU (dF hk .fail);have WX:decide (k=[112,105,99,116,117,114,101])=false:=XU (dF hk .gB);have q_rel:decide (k=[114,101,108,101,97,115,101])=false:=XU (dF hk .rel);have WN:decide (k=[117,110,100,111])=false:=XU (dF hk .fp);exact Rs (C8 t0 @WZ @WU @WW @Xa @Um @Ul @WY @Vm @q_run @WT @W9 @WX @q_rel @WN) Tv
 |some d=>
  have QW:=cC hk;subst QW;clear hk;cases d
  all_goals
   refine o9 (A4 t0 @gU @Yi @Yp) ?_;rfl
def r39{x}(o:bt h x)(hl:x.ev.names.length<=2^40/\x.ev.cE.length<=2^40)(hn:∀n∈x.ev.names,n.length<2^63):ay P 39 [.agg x.row] h (λv _=>v=.i (gV x.ev)):=by
 refine .kV 59 T.mix T.c39 ?_;intro ts hlen t0;unfold fn39;have QO:=@bt.box _ _ o;refine Rs (A3 t0 @QO @nj) ?_;refine WF.ce T.c20 (r20 T _ _ _) λg1=>?_
 by_cases h0:bE x.ev.num 1 1000=0
 case neg=>
  have e0:decide (bE x.ev.num 1 1000≠0)=true:=XZ h0;refine Rs (A2 t0 e0) ?_;rw[gV,X9 h0]
 have e0:decide (bE x.ev.num 1 1000≠0)=false:=XU (λz=>z h0);refine Rs (A3 t0 e0 @bB) ?_;refine WF.ce T.c101 (r101 T _) λg2=>?_
 unfold yW;rw[gV,X5 (λz=>z h0)];cases hd:gT x.ev.kind with
 |none=>
  exact Rs (A2 t0 @Yr) Tv
 |some d=>
  have Sg:(wZ d).length=(bM d).length:=by rw[wZ,X2]
  have hr3:(bM d).length<=3/\cF d<=3:=by cases d<;>decide
  refine Rs (A7 t0 @Yk @aN @aY o.n.aM o.v.aM @Sg) ?_;by_cases h1:x.ev.names.length=(bM d).length
  case neg=>
   have q:decide ((x.ev.names.length:Int)≠(bM d).length)=true:=XZ Om;refine Rs (A2 t0 q) ?_;rw[X9 (.inl h1)]
  have q:decide ((x.ev.names.length:Int)≠(bM d).length)=false:=XU Om;by_cases h2:x.ev.cE.length=cF d
  case neg=>
   have q2:decide ((x.ev.cE.length:Int)≠cF d)=true:=XZ Om;refine Rs (A5 t0 @aY q q2 o.v.aM) ?_;rw[X9 (.inr h2)]
  have q2:decide ((x.ev.cE.length:Int)≠cF d)=false:=XU Om;refine Rs (A5 t0 @aY q q2 o.v.aM) ?_;rw[X5 Om];obtain⟨H,hH⟩:∃H,H=h++[ak.b x.row]++g1++g2++[ak.b [AV.str (wZ d),.i (cF d:Int),.bool true]]:=⟨_,rfl⟩;obtain⟨fb,hfb⟩:∃fb,fb=(h++[ak.b x.row]++g1++g2).length:=⟨_,rfl⟩;have Rq:Ext h H:=by rw[hH];exact Xx
  have me:H[h.length]? =some (.b x.row):=by rw[hH];exact(show Ext (h++[ak.b x.row]) _ from Xx).some bh
  have mf:H[fb]? =some (.b [AV.str (wZ d),.i (cF d:Int),.bool true]):=by rw[hH,hfb];exact bh
  rw[<-hH,<-hfb];refine WL.inv T.mix (λm ts h'=>∃k:Nat,k<=x.ev.names.length/\m=x.ev.names.length-k/\Ext H h'/\x.ev.names.any (λs=>!ed s)=(x.ev.names.drop k).any (λs=>!ed s)/\ts.length=59/\slot ts 1=.ptr h.length 0/\slot ts 3=.ptr fb 0/\slot ts 4=.i k) x.ev.names.length
   ⟨0,Om,rfl,.refl _,rfl,Sn,Sw,Sw,iQ⟩ ?_
  rintro _ ts h' ⟨k,hk,rfl,hx,hi,hlen,t1,t3,t4⟩;have le:∀{kk n a},Ext h' kk->ar n (.ptr h.length a) (λz=>kk[z]?)=dJ n a (.b x.row):=λ{_ _ _} e=>aA ((hx.trans e).some me)
  have lf:∀{kk n a},Ext h' kk->ar n (.ptr fb a) (λz=>kk[z]?)=dJ n a (.b [AV.str (wZ d),.i (cF d:Int),.bool true]):=λ{_ _ _} e=>aA ((hx.trans e).some mf)
  by_cases hlt:k<x.ev.names.length
  ·have e3:decide ((k:Int)<(bM d).length)=true:=XZ Om;have e5:=wrapN (n:=k) Om;have ix:=o.n.dM (kk:=.i64) hlt;have ld:∀{kk:ah},Ext h' kk->ar none (cW x.sn 1 k) (λb=>kk[b]?)=some (.str x.ev.names[k],.au):=λ{kk} e=>o.n.kS hlt rfl ((Rq.trans hx).trans e)
   have VH:x.ev.names.drop k=x.ev.names[k]::x.ev.names.drop (k+1):=Si
   rw[VH,aai]at hi;have hnk:=hn x.ev.names[k] (Ya _);obtain⟨y,hy⟩:∃y,y=x.ev.names[k]:=⟨_,rfl⟩;rw[<-hy]at ld hi hnk;refine Rs (o8 t1 t3 t4 @le @lf @Sg e3 @aN ix @ld) ?_;refine WF.ce T.c102 (r102 T y hnk) λg3=>?_
   cases hny:ed y with
   |false=>
    rw[hny]at hi;have hi:x.ev.names.any (λs=>!ed s)=true:=hi;refine Rs (A4 t1 t3 t4 @Yr) ?_;refine⟨(Rq.trans hx).trans Xx,?_⟩;rw[X9 hi]
   |true=>
    rw[hny]at hi;refine Rs (A5 t1 t3 t4 @Yk e5) ?_;exact Jh
  ·have e3:decide ((k:Int)<(bM d).length)=false:=XU Om;have e4:k=x.ev.names.length:=Om
   have hi0:x.ev.names.any (λs=>!ed s)=false:=by rw[hi,e4,YS];rfl
   rw[X5 (by rw[hi0];decide)];refine Rs (A6 t1 t3 t4 @lf @Sg e3) ?_;refine WL.inv T.mix (λm ts VS=>∃k:Nat,k<=x.ev.cE.length/\m=x.ev.cE.length-k/\Ext H VS/\x.ev.cE.any (λn=>decide (bE n 0 999999999≠0))=(x.ev.cE.drop k).any (λn=>decide (bE n 0 999999999≠0))/\ts.length=59/\slot ts 1=.ptr h.length 0/\slot ts 3=.ptr fb 0/\slot ts 5=.i k) x.ev.cE.length
    ⟨0,Om,rfl,hx,rfl,Sn,(Sq t1),(Sq t3),iQ⟩ ?_
   clear t1 t3 t4 hlen hlt hi e3 e4 hk le lf hx;clear ts k h';rintro _ ts h' ⟨k,hk,rfl,hx,hi,hlen,t1,t3,t5⟩;have le:∀{kk n a},Ext h' kk->ar n (.ptr h.length a) (λz=>kk[z]?)=dJ n a (.b x.row):=λ{_ _ _} e=>aA ((hx.trans e).some me)
   have lf:∀{kk n a},Ext h' kk->ar n (.ptr fb a) (λz=>kk[z]?)=dJ n a (.b [AV.str (wZ d),.i (cF d:Int),.bool true]):=λ{_ _ _} e=>aA ((hx.trans e).some mf)
   by_cases hlt:k<x.ev.cE.length
   ·have e3:decide ((k:Int)<cF d)=true:=XZ Om;have e5:=wrapN (n:=k) Om;have ix:=o.v.dM (kk:=.i64) hlt;have ld:∀{kk:ah},Ext h' kk->ar none (cW x.sv 1 k) (λb=>kk[b]?)=some (.i x.ev.cE[k],.au):=λ{kk} e=>o.v.kS hlt rfl ((Rq.trans hx).trans e)
    have VH:x.ev.cE.drop k=x.ev.cE[k]::x.ev.cE.drop (k+1):=Si
    rw[VH,aai]at hi;obtain⟨y,hy⟩:∃y,y=x.ev.cE[k]:=⟨_,rfl⟩;rw[<-hy]at ld hi;refine Rs (A9 t1 t3 t5 @le @lf e3 @aY ix @ld) ?_;refine WF.ce T.c20 (r20 T _ _ _) λg3=>?_
    cases hny:decide (bE y 0 999999999≠0)with
    |true=>
     rw[hny]at hi;have hi:x.ev.cE.any (λn=>decide (bE n 0 999999999≠0))=true:=hi;refine Rs (A3 t1 t3 t5) ?_;refine⟨(Rq.trans hx).trans Xx,?_⟩;rw[X9 hi]
    |false=>
     rw[hny]at hi;refine Rs (A4 t1 t3 t5 e5) ?_;exact Jh
   ·have e3:decide ((k:Int)<cF d)=false:=XU Om;have e4:k=x.ev.cE.length:=Om
    have hi0:x.ev.cE.any (λn=>decide (bE n 0 999999999≠0))=false:=by rw[hi,e4,YS];rfl
    rw[X5 (by rw[hi0];decide)];by_cases ht:x.ev.text=[]
    ·have q:decide (x.ev.text≠[])=false:=XU (λz=>z ht);refine Rs (A8 t1 t3 t5 @lf @le e3 @xW q) ?_;refine⟨Rq.trans hx,?_⟩;rw[X5 (λz=>z ht)]
    ·have q:decide (x.ev.text≠[])=true:=XZ ht;refine Rs (A8 t1 t3 t5 @lf @le e3 @xW q) ?_;refine⟨Rq.trans hx,?_⟩;rw[X9 ht]
end
def Di(R:gx)(e:gq):List (Nat×Bool)->Bool
 |[]=>false
 |r::_=>!r.2&&dw R r.1 (aP e 0)
def BZ{R e d}:kX d R e=if mO R e (bM d) 0 then 10 else bZ (Di R e (bM d)) 9:=by
 have:qQ R e (bM d) 0=Di R e (bM d):=by cases d<;>simp[bM,qQ,Di]
 rw[kX,this];rfl
def Am:∀r:Nat×Bool,r.1<6->r.2=false->IntKind.u8.wrap (IntKind.u8.wrap (((la r).toNat:Int)+97)-65)=((la (r.1,true)).toNat:Int)
 |(0,false),_,_=>rfl
 |(1,false),_,_=>rfl
 |(2,false),_,_=>rfl
 |(3,false),_,_=>rfl
 |(4,false),_,_=>rfl
 |(5,false),_,_=>rfl
section
variable {P:Program}(T:fI P) {h:ah}
include T
def QH{V}(o:aC h V)(l:eI V)(n:By):ay P 195 [.agg V.row,.int .u8 ((la (0,true)).toNat:Int),.str n] h (λv _=>∃i,v=.i i/\decide (0<=i)=dw V.an 0 n):=by
 refine .nL 36 T.mix T.c195 ?_;intro ts hlen t0 t1 t2;unfold fn195;have QO:=@aC.box _ _ o;have q0:decide (((la (0,true)).toNat:Int)=108)=true:=rfl;refine Rs (A6 t0 t1 t2 @QO q0 @aE) ?_;refine WF.ce T.c28 (r28 T (o.ext Xx) l n) λg1=>?_
 refine Rs t0 ?_;exact⟨_,rfl,fi (f:=λy:gN=>y.name)⟩
def QG{V}(o:aC h V)(l:eI V)(n:By):ay P 195 [.agg V.row,.int .u8 ((la (1,true)).toNat:Int),.str n] h (λv _=>∃i,v=.i i/\decide (0<=i)=dw V.an 1 n):=by
 refine .nL 36 T.mix T.c195 ?_;intro ts hlen t0 t1 t2;unfold fn195;have QO:=@aC.box _ _ o;have q0:decide (((la (1,true)).toNat:Int)=108)=false:=rfl;have q1:decide (((la (1,true)).toNat:Int)=116)=true:=rfl;refine Rs (A7 t0 t1 t2 @QO q0 q1 @aE) ?_;refine WF.ce T.c141 (r141 T (o.ext Xx) l n) λg1=>?_
 refine Rs t0 ?_;exact⟨_,rfl,fi (f:=λy:rW=>y.name)⟩
def QF{V}(o:aC h V)(l:eI V)(n:By):ay P 195 [.agg V.row,.int .u8 ((la (2,true)).toNat:Int),.str n] h (λv _=>∃i,v=.i i/\decide (0<=i)=dw V.an 2 n):=by
 refine .nL 36 T.mix T.c195 ?_;intro ts hlen t0 t1 t2;unfold fn195;have QO:=@aC.box _ _ o;have q0:decide (((la (2,true)).toNat:Int)=108)=false:=rfl;have q1:decide (((la (2,true)).toNat:Int)=116)=false:=rfl;have q2:decide (((la (2,true)).toNat:Int)=115)=true:=rfl;refine Rs (A8 t0 t1 t2 @QO q0 q1 q2 @aE) ?_;refine WF.ce T.c22 (r22 T (o.ext Xx) l n) λg1=>?_
 refine Rs t0 ?_;refine⟨_,rfl,(fi (f:=λy:jP×AV=>y.1.name)).trans ?_⟩;rw[<-jW];rfl
def QE{V}(o:aC h V)(l:eI V)(n:By):ay P 195 [.agg V.row,.int .u8 ((la (3,true)).toNat:Int),.str n] h (λv _=>∃i,v=.i i/\decide (0<=i)=dw V.an 3 n):=by
 refine .nL 36 T.mix T.c195 ?_;intro ts hlen t0 t1 t2;unfold fn195;have QO:=@aC.box _ _ o;have q0:decide (((la (3,true)).toNat:Int)=108)=false:=rfl;have q1:decide (((la (3,true)).toNat:Int)=116)=false:=rfl;have q2:decide (((la (3,true)).toNat:Int)=115)=false:=rfl;have q3:decide (((la (3,true)).toNat:Int)=109)=true:=rfl;refine Rs (A9 t0 t1 t2 @QO q0 q1 q2 q3 @aE) ?_;refine WF.ce T.c55 (r55 T (o.ext Xx) l n) λg1=>?_
 refine Rs t0 ?_;refine⟨_,rfl,(fi (f:=λy:gy×AV=>y.1.name)).trans ?_⟩;rw[<-gD];rfl
def QD{V}(o:aC h V)(l:eI V)(n:By):ay P 195 [.agg V.row,.int .u8 ((la (4,true)).toNat:Int),.str n] h (λv _=>∃i,v=.i i/\decide (0<=i)=dw V.an 4 n):=by
 refine .nL 36 T.mix T.c195 ?_;intro ts hlen t0 t1 t2;unfold fn195;have QO:=@aC.box _ _ o;have q0:decide (((la (4,true)).toNat:Int)=108)=false:=rfl;have q1:decide (((la (4,true)).toNat:Int)=116)=false:=rfl;have q2:decide (((la (4,true)).toNat:Int)=115)=false:=rfl;have q3:decide (((la (4,true)).toNat:Int)=109)=false:=rfl;have q4:decide (((la (4,true)).toNat:Int)=106)=true:=rfl;refine Rs (o8 t0 t1 t2 @QO q0 q1 q2 q3 q4 @aE) ?_;refine WF.ce T.c56 (r56 T (o.ext Xx) l n) λg1=>?_
 refine Rs t0 ?_;refine⟨_,rfl,(fi (f:=λy:jv×AV=>y.1.name)).trans ?_⟩;rw[<-eF];rfl
def QC{V}(o:aC h V)(l:eI V)(n:By):ay P 195 [.agg V.row,.int .u8 ((la (5,true)).toNat:Int),.str n] h (λv _=>∃i,v=.i i/\decide (0<=i)=dw V.an 5 n):=by
 refine .nL 36 T.mix T.c195 ?_;intro ts hlen t0 t1 t2;unfold fn195;have QO:=@aC.box _ _ o;have q0:decide (((la (5,true)).toNat:Int)=108)=false:=rfl;have q1:decide (((la (5,true)).toNat:Int)=116)=false:=rfl;have q2:decide (((la (5,true)).toNat:Int)=115)=false:=rfl;have q3:decide (((la (5,true)).toNat:Int)=109)=false:=rfl;have q4:decide (((la (5,true)).toNat:Int)=106)=false:=rfl;refine Rs (o8 t0 t1 t2 @QO q0 q1 q2 q3 q4 @aE) ?_;refine WF.ce T.c57 (r57 T (o.ext Xx) l n) λg1=>?_
 refine Rs t0 ?_;exact⟨_,rfl,fi (f:=λy:nE=>y.name)⟩
def r195{V}(o:aC h V)(l:eI V){t}(ht:t<6)(n:By):ay P 195 [.agg V.row,.int .u8 ((la (t,true)).toNat:Int),.str n] h (λv _=>∃i,v=.i i/\decide (0<=i)=dw V.an t n):=by
 match t,ht with
 | 0,_=>exact QH T o l n
 | 1,_=>exact QG T o l n
 | 2,_=>exact QF T o l n
 | 3,_=>exact QE T o l n
 | 4,_=>exact QD T o l n
 | 5,_=>exact QC T o l n
def r223{V x d}(o:aC h V)(l:eI V)(ox:bt h x)(wx:kT x.ev d):ay P 223 [.agg V.row,.agg x.row] h (λv _=>v=.i (kX d V.an x.ev)):=by
 refine .eG 55 T.mix T.c223 ?_;intro ts hlen t0 t1;unfold fn223;have QO:=@aC.box _ _ o;have hex:=@bt.box _ _ ox;refine Rs (A5 t0 t1 @QO @hex @bB) ?_;refine WF.ce T.c101 (r101 T _) λg1=>?_
 unfold yW;rw[wx.kd];obtain⟨L,hL⟩:∃L,L=bM d:=⟨_,rfl⟩;have hnl:x.ev.names.length=L.length:=by rw[hL];exact wx.nl
 have VQ:L.length<=3:=by rw[hL];cases d<;>decide
 have Wt:∀r∈L,r.1<6:=by rw[hL];exact DI d
 have Sg:(wZ d).length=L.length:=by rw[wZ,X2,hL]
 refine Rs (A2 t0 t1) ?_;obtain⟨H,hH⟩:∃H,H=h++[ak.b V.row]++[ak.b x.row]++g1:=⟨_,rfl⟩;obtain⟨eb,heb⟩:∃eb,eb=(h++[ak.b V.row]).length:=⟨_,rfl⟩;have Rq:Ext h H:=by rw[hH];exact Xx
 have mr:H[h.length]? =some (.b V.row):=by rw[hH];exact(show Ext (h++[ak.b V.row]) _ from Xx).some bh
 have me:H[eb]? =some (.b x.row):=by rw[hH,heb];exact(show Ext (h++[ak.b V.row]++[ak.b x.row]) _ from Xx).some bh
 rw[<-hH,<-heb];have TO:∀(i:Nat) (hi:i<L.length),aX 1 x.sn (.i (i:Int))=some (cW x.sn 1 i,.au):=λi hi=>ox.n.dM Om
 have hld:∀(i:Nat) (hi:i<L.length) (k':ah),Ext h k'->ar none (cW x.sn 1 i) (λb=>k'[b]?)=some (.str (aP x.ev i),.au):=λi hi k' e=>by
  exact PJ
 have hixs:∀(i:Nat) (hi:i<L.length),vI (.str (wZ d)) (.i (i:Int))=some (.int .u8 ((la L[i]).toNat:Int)):=λi hi=>by
  have hi':i<(wZ d).length:=Om
  rw[jL hi'];have:(wZ d)[i]=la L[i]:=by simp only[wZ,hL,Y7]
  rw[this]
 refine WL.inv T.mix (λm ts h'=>∃k:Nat,k<=L.length/\m=L.length-k/\Ext H h'/\mO V.an x.ev L 0=mO V.an x.ev (L.drop k) k/\ts.length=55/\slot ts 2=.ptr h.length 0/\slot ts 3=.ptr eb 0/\slot ts 5=.str (wZ d)/\slot ts 6=.i k) L.length
  ⟨0,Om,rfl,.refl _,rfl,Sn,Sw,Sw,Sw,iQ⟩ ?_
 clear t0 t1 hlen QO hex;clear ts;rintro _ ts h' ⟨k,hk,rfl,hx,hu,hlen,t2,t3,t5,t6⟩;have le:∀{kk n a},Ext h' kk->ar n (.ptr eb a) (λz=>kk[z]?)=dJ n a (.b x.row):=λ{_ _ _} e=>aA ((hx.trans e).some me)
 have lr:∀{kk n a},Ext h' kk->ar n (.ptr h.length a) (λz=>kk[z]?)=dJ n a (.b V.row):=λ{_ _ _} e=>aA ((hx.trans e).some mr)
 by_cases hlt:k<L.length
 ·have e3:=fF hlt;have e5:=wrapN (n:=k) Om;have iy:=TO k hlt;have ly:∀{k'},Ext h' k'->ar none (cW x.sn 1 k) (λb=>k'[b]?)=some (.str (aP x.ev k),.au):=λ{k'} e=>hld k hlt k' ((Rq.trans hx).trans e)
  have ii:=hixs k hlt;have hd:L.drop k=L[k]::L.drop (k+1):=Si
  obtain⟨r,Uw⟩:∃r,r=L[k]:=⟨_,rfl⟩;have U9:r.1<6:=by rw[Uw];exact Wt _ (Ya _)
  rw[hd,<-Uw,mO]at hu;rw[<-Uw]at ii;have qg:=BF r U9;cases R1:r.2 with
  |false=>
   rw[R1]at hu qg;refine Rs (A9 t2 t3 t5 t6 @Sg e3 @ii @qg e5) ?_;exact z183
  |true=>
   rw[R1]at hu qg;have er:r=(r.1,true):=by rw[<-R1]
   rw[er]at ii qg;refine Rs (AH t2 t3 t5 t6 @Sg e3 @ii @qg @le @lr @aE @aN @iy @ly) ?_;refine WF.res T.c195 (r195 T ((o.ext (Rq.trans hx)).ext Xx) l U9 _) ?_;rintro _ g3 ⟨i,rfl,hi⟩;have qi:decide (i<0)= !dw V.an r.1 (aP x.ev k):=by rw[<-hi];by_cases h0:0<=i<;>simp[h0]<;>omega
   cases hh:dw V.an r.1 (aP x.ev k)with
   |true=>
    rw[hh]at hu qi;have qi:decide (i<0)=false:=qi;refine Rs (A6 t2 t3 t5 t6 @qi e5) ?_;exact z183
   |false=>
    rw[hh]at hu qi;have qi:decide (i<0)=true:=qi;have hu1:mO V.an x.ev L 0=true:=by rw[hu];rfl
    refine Rs (A5 t2 t3 t5 t6 @qi) ?_;refine⟨(Rq.trans hx).trans Xx,?_⟩;rw[BZ,<-hL,X9 hu1]
 ·have e3:=gK hlt;have e4:k=L.length:=Om
  have TL:mO V.an x.ev L 0=false:=by rw[hu,e4,YS];rfl
  have U5:=Rq.trans hx;rw[BZ,<-hL,X5 (by rw[TL];decide)];refine Rs (A6 t2 t3 t5 t6 @Sg e3) ?_;cases hLc:L with
  |nil=>
   have q0:decide ((0:Int)<(([] :List (Nat×Bool)).length:Int))=false:=rfl;refine Rs (A5 t2 t3 t5 t6 q0) ?_;exact⟨U5,rfl⟩
  |cons r rest=>
   rw[Di];have q0:decide ((0:Int)<((r::rest).length:Int))=true:=XZ (by simp only[XX];omega);have VD:0<L.length:=by rw[hLc];simp
   have ii:vI (.str (wZ d)) (.i 0)=some (.int .u8 ((la r).toNat:Int)):=by
    have:=hixs 0 VD;simp only[hLc,List.getElem_cons_zero]at this;exact this
   have U9:r.1<6:=Wt r (by rw[hLc];simp);have qg:=BF r U9;have qz:aX 1 x.sn (.i 0)=some (cW x.sn 1 0,.au):=TO 0 VD;have ld0:∀{k':ah},Ext h' k'->ar none (cW x.sn 1 0) (λb=>k'[b]?)=some (.str (aP x.ev 0),.au):=λ{k'} e=>hld 0 VD k' (U5.trans e)
   cases R1:r.2 with
   |true=>
    rw[R1]at qg;have qg2:decide (((la r).toNat:Int)<97)=false:=XU (by have:=Zb qg;omega);refine Rs (A7 t2 t3 t5 t6 q0 @ii @qg2) ?_;exact⟨U5,rfl⟩
   |false=>
    rw[R1]at qg;have qg2:decide (((la r).toNat:Int)<97)=true:=XZ (by have:=of_decide_eq_false qg;omega);have ew:=Am r U9 R1;refine Rs (AH t2 t3 t5 t6 q0 @ii @qg2 @le @lr @aE @aN @qz @ld0 @ew) ?_;refine WF.res T.c195 (r195 T (o.ext U5) l U9 _) ?_;rintro _ g3 ⟨i,rfl,hi⟩;cases hh:dw V.an r.1 (aP x.ev 0)with
    |true=>
     exact z157
    |false=>
     exact z157
end
section
variable {P:Program}(T:fI P) {h:ah}
include T
def r84{V}(o:aC h V)(l:eI V){n}(hn:n∈jK V.an)(t:Int):ay P 84 [.agg V.row,.str n,.i t] h (λv _=>v=.bool (jA V.an t n)):=by
 refine .nL 17 T.mix T.c84 ?_;intro ts hlen t0 t1 t2;unfold fn84;have QO:=@aC.box _ _ o;have hlt:=cM hn;have Rd:aZ (jK V.an) n<V.aJ.length:=by simpa [jK,RV.an]using hlt
 have ix:aX 2 V.s1 (.i ((aZ (jK V.an) n:Nat):Int))=some (cW V.s1 2 (aZ (jK V.an) n),.au):=o.i1.dM Rd;have ev:jz V.an n=V.aJ[aZ (jK V.an) n]:=cV (f:=rW.name) (l:=V.aJ) hn;have ld:∀{k':ah},Ext h k'->ar none (lK V.s1 2 (aZ (jK V.an) n) 1) (λb=>k'[b]?)=some (.i (jz V.an n).last,.au):=λ{k'} e=>by
  rw[ev];exact o.i1.pY Rd rfl e
 refine Rs (A6 t0 t1 t2 @QO @lA @aE) ?_;refine WF.ce T.c141 (r141 T (o.ext Xx) l n) λg1=>?_
 have ei:cP (λy:rW=>decide (y.name=n)) V.aJ=(aZ (jK V.an) n:Int):=ep (f:=λy:rW=>y.name) hn;rw[ei];refine Rs (A5 t0 t1 t2 ix @ld) ?_;rfl
def r23{V}(o:aC h V)(l:eI V){x}(hx:aH h x.2 1 (x.1.aJ.map ao))(hl:x.1.aJ.length<2^30)(hk:∀n∈x.1.aJ,n∈jK V.an)(t:Int):
  ay P 23 [.agg V.row,.agg (bn x),.i t] h (λv _=>v=.bool (iI V.an x.1 t)):=by
 refine .nL 23 T.mix T.c23 ?_;intro ts hlen t0 t1 t2;unfold fn23;have QO:=@aC.box _ _ o;have ox:=hx.one;unfold bn at t1;refine Rs (A5 t0 t1 t2 @QO @ox) ?_;obtain⟨H,hH⟩:∃H,H=h++[ak.b V.row]++[ak.b [AV.str x.1.name,.str x.1.line,x.2]]:=⟨_,rfl⟩;obtain⟨sb,hsb⟩:∃sb,sb=(h++[ak.b V.row]).length:=⟨_,rfl⟩;have Rq:Ext h H:=by rw[hH];exact Xx
 have mr:H[h.length]? =some (.b V.row):=by rw[hH];exact(show Ext (h++[ak.b V.row]) _ from Xx).some bh
 have ms:H[sb]? =some (.b [AV.str x.1.name,.str x.1.line,x.2]):=by rw[hH,hsb];exact bh
 rw[<-hH,<-hsb];refine WL.inv T.mix (λn ts h'=>∃k:Nat,k<=x.1.aJ.length/\n=x.1.aJ.length-k/\Ext H h'/\iI V.an x.1 t=(x.1.aJ.drop k).any (jA V.an t)/\
   ts.length=23/\slot ts 2=.i t/\slot ts 3=.ptr h.length 0/\slot ts 4=.ptr sb 0/\slot ts 7=.i k) x.1.aJ.length
  ⟨0,Om,rfl,.refl _,rfl,Sn,(Sq t2),Sw,Sw,iQ⟩ ?_
 rintro _ ts h' ⟨k,QS,rfl,he,hi,hlen,t2,t3,t4,t7⟩;have lr:∀{kk n a},Ext h' kk->ar n (.ptr h.length a) (λz=>kk[z]?)=dJ n a (.b V.row):=λ{_ _ _} e=>aA ((he.trans e).some mr)
 have ls:∀{kk n a},Ext h' kk->ar n (.ptr sb a) (λz=>kk[z]?)=dJ n a (.b [AV.str x.1.name,.str x.1.line,x.2]):=λ{_ _ _} e=>aA ((he.trans e).some ms)
 by_cases hlt:k<x.1.aJ.length
 ·have e3:=fF hlt;have e5:=wrapN (n:=k) Om;have ix:=hx.dM (kk:=.i64) hlt;have hd:x.1.aJ.drop k=x.1.aJ[k]::x.1.aJ.drop (k+1):=Si
  have hm:=hk x.1.aJ[k] (Ya _);have ld:∀{kk:ah},Ext h' kk->ar none (cW x.2 1 k) (λb=>kk[b]?)=some (.str x.1.aJ[k],.au):=λ{kk} e=>hx.kS hlt rfl ((Rq.trans he).trans e)
  rw[hd,aai]at hi;obtain⟨y,hy⟩:∃y,y=x.1.aJ[k]:=⟨_,rfl⟩;rw[<-hy]at ld hi hm;refine Rs (pa t2 t3 t4 t7 @ls @lr hx.aM e3 ix @ld @aE) ?_;refine WF.ce T.c84 (r84 T ((o.ext (Rq.trans he)).ext Xx) l hm t) λg3=>?_
  cases hr:jA V.an t y with
  |true=>
   rw[hr]at hi;refine Rs (A4 t2 t3 t4 t7) ?_;refine⟨(Rq.trans he).trans Xx,?_⟩;rw[hi];rfl
  |false=>
   rw[hr]at hi;refine Rs (A5 t2 t3 t4 t7 e5) ?_;exact⟨_,Om,k+1,Om,rfl,he.trans Xx,hi,rfl⟩
 ·have e3:=gK hlt;have e4:k=x.1.aJ.length:=Om
  refine Rs (A7 t2 t3 t4 t7 @ls hx.aM e3) ?_;refine⟨Rq.trans he,?_⟩;rw[hi,e4,YS];rfl
end
def any_eq{α:Type}{p:α->Bool}{L:List α}{k:Nat}(hlt:k<L.length):(L.drop k).any p=(p L[k]||(L.drop (k+1)).any p):=by
 have hd:L.drop k=L[k]::L.drop (k+1):=Si
 rw[hd,aai]
section
variable {P:Program}(T:fI P) {h:ah}
include T
def r263(n:Int):ay P 263 [.i n] h (λv _=>v=.dN [.str (mP n),.str (jN n)]):=by
 refine .kV 11 T.mix T.c263 ?_;intro ts hlen t0;unfold fn263;by_cases h1:n=1
 ·have q1:decide (n=1)=true:=XZ h1;refine Rs (A2 t0 q1) ?_;subst h1;rfl
 have q1:decide (n=1)=false:=XU h1;by_cases h2:n=2
 ·have q2:decide (n=2)=true:=XZ h2;refine Rs (A3 t0 q1 q2) ?_;subst h2;rfl
 have q2:decide (n=2)=false:=XU h2;by_cases h3:n=3
 ·have q3:decide (n=3)=true:=XZ h3;refine Rs (A4 t0 q1 q2 q3) ?_;subst h3;rfl
 have q3:decide (n=3)=false:=XU h3;refine Rs (A4 t0 q1 q2 q3) ?_;rw[mP,X5 h1,X5 h2,X5 h3,jN,X5 h1,X5 h2];rfl
def r265{V:RV}(o:aC h V)(l:eI V)(n:By):ay P 265 [.agg V.row,.str n] h (λv _=>v=.bool (qd V.an n)):=by
 refine .eG 21 T.mix T.c265 ?_;intro ts hlen t0 t1;unfold fn265;have QO:=@aC.box _ _ o;have hl:=l.l5;refine Rs (A3 t0 t1 @QO) ?_;refine WL.inv T.mix (λm ts h'=>∃k:Nat,k<=V.aO.length/\m=V.aO.length-k/\h' =h++[ak.b V.row]/\qd V.an n=(V.aO.drop k).any (λp=>decide (p.yQ=n))/\ts.length=21/\slot ts 1=.str n/\slot ts 2=.ptr h.length 0/\slot ts 5=.i k) V.aO.length
  ⟨0,Om,rfl,rfl,rfl,Sn,(Sq t1),Sw,iQ⟩ ?_
 rintro _ ts _ ⟨k,hk,rfl,rfl,hi,hlen,t1,t2,t5⟩;have lb:∀{kk n a},Ext (h++[ak.b V.row]) kk->ar n (.ptr h.length a) (λz=>kk[z]?)=dJ n a (.b V.row):=λ{_ _ _} e=>aA (e.some bh)
 by_cases hlt:k<V.aO.length
 ·have e3:=fF hlt;have ix:=o.i5.dM (kk:=.i64) hlt;have e5:=wrapN (n:=k) Om;rw[any_eq hlt]at hi;obtain⟨y,hy⟩:∃y,y=V.aO[k]:=⟨_,rfl⟩;have ld:∀{kk:ah},Ext h kk->ar none (lK V.s5 4 k 1) (λb=>kk[b]?)=some (.str y.yQ,.au):=λ{kk} e=>o.i5.pY hlt (by rw[<-hy];rfl) e
  rw[<-hy]at hi;cases hp:decide (y.yQ=n)with
  |true=>
   rw[hp]at hi;refine Rs (o8 t1 t2 t5 @lb @gW o.i5.aM e3 ix @ld @hp) ?_;rw[hi];rfl
  |false=>
   rw[hp]at hi;refine Rs (pa t1 t2 t5 @lb @gW o.i5.aM e3 ix @ld @hp e5) ?_;exact⟨_,Om,k+1,Om,rfl,hi,rfl⟩
 ·have e3:=gK hlt;have e4:k=V.aO.length:=Om
  refine Rs (A7 t1 t2 t5 @lb @gW o.i5.aM e3) ?_;rw[hi,e4,YS];rfl
def r264{V}(o:aC h V)(l:eI V){n}(hn:n∈hO V.an):ay P 264 [.agg V.row,.str n] h (λv _=>v=.str (gS V.an n).gives):=by
 refine .eG 13 T.mix T.c264 ?_;intro ts hlen t0 t1;unfold fn264;have QO:=@aC.box _ _ o;have hlt:=cM hn;have Rd:aZ (hO V.an) n<V.aD.length:=by simpa [hO,RV.an]using hlt
 have ix:aX 4 V.s3 (.i ((aZ (hO V.an) n:Nat):Int))=some (cW V.s3 4 (aZ (hO V.an) n),.au):=o.i3.dM Rd;have ev:gS V.an n=(V.aD[aZ (hO V.an) n]).1:=by
  rw[gS,cV (f:=gy.name) (l:=V.an.aD) (d:=BX) hn];exact IK
 have ld:∀{k':ah},Ext h k'->ar none (lK V.s3 4 (aZ (hO V.an) n) 1) (λb=>k'[b]?)=some (.str (gS V.an n).gives,.au):=λ{k'} e=>by
  rw[ev];exact o.i3.pY Rd rfl e
 refine Rs (A5 t0 t1 @QO @fS @aE) ?_;refine WF.ce T.c55 (r55 T (o.ext Xx) l n) λg1=>?_
 have ei:cP (λy:gy×AV=>decide (y.1.name=n)) V.aD=(aZ (hO V.an) n:Int):=by
  rw[gD];exact ep (f:=λy:gy×AV=>y.1.name) (by rw[<-gD];exact hn)
 exact Dd
def r31{s l}(hs:aH h s 1 (l.map aK))(hl:l.length<2^30)(hb:∀s∈l,-1<=s/\s<=999999999):ay P 31 [s] h (λv _=>v=.i (ga l)):=by
 refine .kV 20 T.mix T.c31 ?_;intro ts hlen t0;unfold fn31;refine Rs t0 ?_;refine WL.inv T.mix (λn ts h'=>∃k:Nat,k<=l.length/\n=l.length-k/\h' =h/\ts.length=20/\slot ts 0=s/\slot ts 3=.i (ga (l.take k))/\slot ts 4=.i k) l.length
  ⟨0,Om,rfl,rfl,Sn,(Sq t0),iQ,iQ⟩ ?_
 rintro _ ts h' ⟨k,hk,rfl,rfl,hlen,t0,t3,t4⟩;by_cases hlt:k<l.length
 ·have e3:=fF hlt;have e5:=wrapN (n:=k) Om;have ix:=hs.dM (kk:=.i64) hlt;have ld:=hs.kS (i:=k) (x:=.i l[k]) hlt rfl (Ext.refl _);have hd:=um (l.take k) 1 (λs hs=>hb s (Y5 hs)) De De;have S9:=hb _ (Ya hlt);have Rl:-16777213<ga (l.take k)/\ga (l.take k)<16777213:=hd;have w1:IntKind.i64.wrap (257*ga (l.take k))=257*ga (l.take k):=bw Om Om;have w2:IntKind.i64.wrap (257*ga (l.take k)+l[k])=257*ga (l.take k)+l[k]:=bw Om Om;have er:=oA (k:=.i64) (a:=257*ga (l.take k)+l[k]) (b:=16777213) De;have Rc:ga (l.take (k+1))=(257*ga (l.take k)+l[k]).tmod 16777213:=by
   exact Jw
  rw[<-Rc]at er;refine Rs (pa t0 t3 t4 hs.aM e3 ix @ld @w1 @w2 @er e5) ?_;exact⟨_,Om,k+1,Om,rfl,rfl,rfl⟩
 ·have e3:=gK hlt;have e4:k=l.length:=Om
  refine Rs (A5 t0 t3 t4 hs.aM e3) ?_;rw[e4,Yz]
def r60{x}(hx:aH h x.2 1 (x.1.bp.map aK))(hl:x.1.bp.length<2^30):ay P 60 [.agg (bK x)] h (λv h'=>aH h' v 1 ((cJ x.1.bp 0).map aK)):=by
 refine .kV 23 T.mix T.c60 ?_;intro ts hlen t0;unfold fn60;have ox:=hx.one;unfold bK at t0;refine Rs (A2 t0 @ox) ?_;obtain⟨H0,Tl⟩:∃H0,H0=h++[ak.b [AV.str x.1.name,.str x.1.mod,x.2]]:=⟨_,rfl⟩;have e0:Ext h H0:=by rw[Tl];exact Xx
 have lb:∀{k n a},Ext H0 k->ar n (.ptr h.length a) (λz=>k[z]?)=dJ n a (.b [AV.str x.1.name,.str x.1.mod,x.2]):=λ{_ _ _} e=>aA (e.some (by rw[Tl];exact bh))
 rw[<-Tl];refine WL.inv T.mix (λn ts h'=>∃(k:Nat) (out:AV),k<=x.1.bp.length/\n=x.1.bp.length-k/\Ext H0 h'/\Fr H0.length h' out 1 ((cJ (x.1.bp.take k) 0).map aK)/\
   ts.length=23/\slot ts 1=.ptr h.length 0/\slot ts 3=out/\slot ts 4=.i k) x.1.bp.length
  ⟨0,.af,Om,rfl,Ext.refl _,.nil,Sn,(Sq t0),(Sq t0),iQ⟩ ?_
 rintro _ ts _ ⟨k,out,hk',rfl,⟨g,rfl⟩,hfr,hlen,t1,t3,t4⟩;by_cases hlt:k<x.1.bp.length
 ·have e3:=fF hlt;have ix:=hx.dM (kk:=.i64) hlt;have ld:∀{k':ah},Ext H0 k'->ar none (cW x.2 1 k) (λb=>k'[b]?)=some (.i x.1.bp[k],.au):=λ{k'} e=>hx.kS hlt rfl (e0.trans e)
  have e5:=wrapN (n:=k) Om;have Rc:cJ (x.1.bp.take (k+1)) 0=cJ (x.1.bp.take k) 0++(if x.1.bp[k]<0 then [(k:Int)]else []):=by
   exact PE
  by_cases hn:x.1.bp[k]<0
  ·have q:decide (x.1.bp[k]<0)=true:=XZ hn;rw[X9 hn]at Rc;refine Rs (A9 t1 t3 t4 @lb hx.aM e3 ix @ld q) ?_;have S4:=jX (l:=x.1.bp.take k) (i:=0);refine WR.fQ (h0:=H0) (cs:=(cJ (x.1.bp.take k) 0).map aK) (ys:=[aK (k:Int)]) (hfr.app _) (Fr.push (N:=0) (Yt _) [aK (k:Int)] Si).a8 De Si (by simp only[X2,YQ,XX,X1]at S4 ⊢;omega) Xx ?_;intro g' Q1 hff hkp;have hrow:(cJ (x.1.bp.take k) 0).map aK++[aK (k:Int)]=(cJ (x.1.bp.take (k+1)) 0).map aK:=by rw[Rc,X4];rfl
   rw[hrow]at hff;rw[hrow];refine Rs (A4 t1 t3 t4 e5) ?_;exact z49
  ·have q:decide (x.1.bp[k]<0)=false:=XU hn;rw[X5 hn,Yo]at Rc;refine Rs (o8 t1 t3 t4 @lb hx.aM e3 ix @ld q e5) ?_;refine⟨_,Om,k+1,out,Om,rfl,?_,rfl,rfl⟩;rw[Rc];exact hfr
 ·have e3:=gK hlt;have e4:k=x.1.bp.length:=Om
  refine Rs (A6 t1 t3 t4 @lb hx.aM e3) ?_;rw[e4,Yz]at hfr;exact⟨e0.trans Xx,hfr.a8⟩
def r127{V:RV}(o:aC h V)(l:eI V){M:List (By)}{s:AV}(hs:aH h s 1 (M.map ao))(hM:M.length<2^40):ay P 127 [.agg V.row,s] h (λv h'=>aH h' v 1 (((V.an.aj.filter λx=>decide (x.line∈M)).map jP.name).map ao)):=by
 refine .eG 32 T.mix T.c127 ?_;intro ts hlen t0 t1;unfold fn127;have QO:=@aC.box _ _ o;refine Rs (A3 t0 t1 @QO) ?_;obtain⟨H,hH⟩:∃H,H=h++[ak.b V.row]:=⟨_,rfl⟩;have Rq:Ext h H:=by rw[hH];exact Xx
 have mr:H[h.length]? =some (.b V.row):=by rw[hH];exact bh
 rw[<-hH];have eu:(V.an.aj.filter λx=>decide (x.line∈M)).map jP.name=(V.aj.filter λx=>decide (x.1.line∈M)).map λx=>x.1.name:=by
  simp only[RV.an,ZZ,ZD];rfl
 rw[eu];refine WL.inv T.mix (λn ts h'=>∃(k:Nat) (out:AV),k<=V.aj.length/\n=V.aj.length-k/\Ext H h'/\Fr H.length h' out 1 ((((V.aj.take k).filter λx=>decide (x.1.line∈M)).map λx=>x.1.name).map ao)/\
   ts.length=32/\slot ts 1=s/\slot ts 2=.ptr h.length 0/\slot ts 5=out/\slot ts 6=.i k) V.aj.length
  ⟨0,.af,Om,rfl,.refl _,.nil,Sn,(Sq t1),Sw,Sw,iQ⟩ ?_
 rintro _ ts h' ⟨k,out,QS,rfl,⟨g,rfl⟩,hfr,hlen,t1,t2,t5,t6⟩;have he:Ext H (H++g):=⟨_,rfl⟩;have lr:∀{kk n a},Ext (H++g) kk->ar n (.ptr h.length a) (λz=>kk[z]?)=dJ n a (.b V.row):=λ{_ _ _} e=>aA ((he.trans e).some mr)
 have S4:=l.l2;by_cases hlt:k<V.aj.length
 ·have e3:=fF hlt;have e5:=wrapN (n:=k) Om;have ix:=o.i2.dM (kk:=.i64) hlt;obtain⟨y,hy⟩:∃y,y=V.aj[k]:=⟨_,rfl⟩;have lf:∀{kk:ah},Ext (H++g) kk->ar none (lK V.s2 3 k 0) (λb=>kk[b]?)=some (.str y.1.name,.au):=λ{kk} e=>o.i2.pY hlt (by rw[<-hy];rfl) ((Rq.trans he).trans e)
  have lg:∀{kk:ah},Ext (H++g) kk->ar none (lK V.s2 3 k 1) (λb=>kk[b]?)=some (.str y.1.line,.au):=λ{kk} e=>o.i2.pY hlt (by rw[<-hy];rfl) ((Rq.trans he).trans e)
  have Rc:V.aj.take (k+1)=V.aj.take k++[y]:=by rw[hy,YF,XY hlt];rfl
  refine Rs (o8 t1 t2 t5 t6 @lr @fK o.i2.aM e3 ix @lg) ?_;refine WF.ce T.c35 (r35 T (hs.ext (Rq.trans he)) hM _) λg3=>?_
  cases hd:decide (y.1.line∈M)with
  |false=>
   refine Rs (A5 t1 t2 t5 t6 e5) ?_;exact z70
  |true=>
   refine Rs (A8 t1 t2 t5 t6 @lr @fK ix @lf) ?_;have Rn:((V.aj.take k).filter λx=>decide (x.1.line∈M)).length<=V.aj.length:=YI (Yu _ _) (by rw[YQ];omega);refine WR.fQ (h0:=H) (cs:=(((V.aj.take k).filter λx=>decide (x.1.line∈M)).map λx=>x.1.name).map ao) (ys:=[ao y.1.name]) ((hfr.app _).app _) (Fr.push (N:=0) (Yt _) [ao y.1.name] (by simp[ao])).a8 De Si (by simp only[X2,XX,X1];omega) (by rw[XV,XV];exact⟨_,rfl⟩) ?_;intro g' Q1 hff hkp;have hrow:(((V.aj.take k).filter λx=>decide (x.1.line∈M)).map λx=>x.1.name).map ao++[ao y.1.name]=(((V.aj.take (k+1)).filter λx=>decide (x.1.line∈M)).map λx=>x.1.name).map ao:=by
    exact MI
   rw[hrow]at hff;rw[hrow];refine Rs (A5 t1 t2 t5 t6 e5) ?_;exact z49
 ·have e3:=gK hlt;have e4:k=V.aj.length:=Om
  refine Rs (A8 t1 t2 t5 t6 @lr @fK o.i2.aM e3) ?_;rw[e4,Yz]at hfr;exact⟨Rq.trans he,hfr.a8⟩
end
end Go.Abs
namespace Go.Abs
section
variable {P:Program}{ro:Option Nat->Prop}{ks:List Kt}{ts:TS}{Q:Ex->TS->ah->Prop}
def WR.E3{h s y es cs ys h0 w d l}
  (hs:Fr h0.length h s es cs) (hy:aH h y es ys) (hes:0<es) (eC:(cs.length+ys.length)*w<=2^46) (he:Ext h0 h)
  (K:∀s' g,Fr h0.length (h0++g) s' es (cs++ys)->(∀b,b<h.length->sB s≠some b->(h0++g)[b]? =h[b]?)->h.length<=(h0++g).length->WP P ro l ks (put ts d s') (h0++g) Q):
  WR P ro (pF es w s y (λb=>h[b]?) h.length) false d l ks ts h Q:=by
 by_cases hn:ys.length=0
 ·have hys:ys=[]:=YW.1 hn;subst hys;obtain⟨g,rfl⟩:=he;rw[Yo]at K;have e:pF es w s y (λb=>(h0++g)[b]?) (h0++g).length=some (s,.au):=by
   simp only[pF,hy.ff];cases hs with
   |nil=>simp
   |mk hN hb h'=>simp
  rw[e,jc];exact K s g hs (λ_ _ _=>rfl) (X8 _)
 ·refine WR.fQ hs hy hes Om eC he λg h1 h2 h3=>K _ g h2 (λb hb hne=>h3 b hb λb0 o n e Xp hbb=>hne (by rw[Xp,hbb];rfl)) Om
end
def DZ{R}(w:fk R){x}(hx:x∈R.aD):gS R x.name=x:=ug (f:=gy.name) w.n3.nd hx
def pU{m l x}:cS m (l++[x])=if x.name∈cS m l then cS m l++x.bu else cS m l:=by
 rw[cS,List.foldl_append];rfl
def vt{m}:∀{l},(∀x∈l,x.bu.length<=2)->(cS m l).length<=1+2*l.length:=by
 intro l;have key:∀(l:List gy) (a:List (By)),(∀x∈l,x.bu.length<=2)->(l.foldl (λn x=>if x.name∈n then n++x.bu else n) a).length<=a.length+2*l.length:=by
  intro l
  induction l with
  |nil=>intro a _;simp
  |cons x l ih=>
   intro a hl;have h1:=hl x Si;have:=ih (if x.name∈a then a++x.bu else a) (λy hy=>hl y (YB _ hy));rw[aas];refine YI this ?_;split<;>simp only[XS,XX]<;>omega
 intro hl;exact key l [m] hl
set_option maxRecDepth 10000
attribute [local irreducible] WP WC WE WB WR WF WL WG gg WM
section
variable {P:Program}(T:fI P) {h:ah}
include T
def r58{V}(o:aC h V)(w:fk V.an)(m:By):ay P 58 [.agg V.row,.str m] h (λv h'=>aH h' v 1 (((jm V.an m).map gy.name).map ao)):=by
 refine .eG 60 T.mix T.c58 ?_;intro ts hlen t0 t1;unfold fn58;have QO:=@aC.box _ _ o;have l:=w.len;have hn32:V.aD.length<=32:=by have:=w.l3;simpa [RV.an]using this
 have hin:∀x∈V.an.aD,x.bu.length<=2:=λx hx=>(w.md x hx).2.1
 have hml:V.an.aD.length=V.aD.length:=by simp[RV.an]
 have ew:IntKind.i64.wrap ((V.aD.length:Int)-1)=(V.aD.length:Int)-1:=bw Om Om;have lb0:∀{kk n a},Ext (h++[ak.b V.row]) kk->ar n (.ptr h.length a) (λz=>kk[z]?)=dJ n a (.b V.row):=λ{_ _ _} e=>aA (e.some bh)
 refine Rs (A7 t0 t1 @QO @lb0 @fS o.i3.aM @ew) ?_;obtain⟨H,hH⟩:∃H,H=h++[ak.b V.row]:=⟨_,rfl⟩;have Rq:Ext h H:=by rw[hH];exact Xx
 have mr:H[h.length]? =some (.b V.row):=by rw[hH];exact bh
 rw[<-hH];refine WL.inv T.mix (λn ts h'=>∃(k:Nat) (ws:AV),k<=V.aD.length/\n=V.aD.length-k/\Ext H h'/\aH h' ws 1 ((cS m (V.an.aD.reverse.take k)).map ao)/\
   ts.length=60/\slot ts 2=.ptr h.length 0/\slot ts 5=ws/\slot ts 6=.i ((V.aD.length:Int)-1-k)) V.aD.length
  ⟨0,.slice H.length 0 1 1,Om,rfl,⟨_,rfl⟩,(Fr.push (N:=0) (Yt _) [ao m] (by simp[ao])).a8,Sn,Sw,Sw,(by simp only[aQ,aT,ba,bd,reduceAdd,reduceMul,reduceLeDiff,reduceEqDiff,bg,hlen,Yb,Yf];simp)⟩ ?_
 clear t0 t1 hlen lb0;clear ts;rintro _ ts h' ⟨k,ws,hk,rfl,⟨g,rfl⟩,Up,hlen,t2,t5,t6⟩;have he:Ext H (H++g):=⟨_,rfl⟩;have lr:∀{kk n a},Ext (H++g) kk->ar n (.ptr h.length a) (λz=>kk[z]?)=dJ n a (.b V.row):=λ{_ _ _} e=>aA ((he.trans e).some mr)
 have hwl:=vt (m:=m) (l:=V.an.aD.reverse.take k) (λx hx=>hin x (List.mem_reverse.1 (Y5 hx)));have htl:(V.an.aD.reverse.take k).length<=32:=by rw[YQ,ZQ];omega
 by_cases hlt:k<V.aD.length
 ·have hi:V.aD.length-1-k<V.aD.length:=Om
  have ei:(V.aD.length:Int)-1-k=((V.aD.length-1-k:Nat):Int):=Om
  have e3:decide (0<=(V.aD.length:Int)-1-k)=true:=XZ Om;have e5:IntKind.i64.wrap ((V.aD.length:Int)-1-k-1)=(V.aD.length:Int)-1-((k+1:Nat):Int):=by rw[bw Om Om];omega
  have ix:aX 4 V.s3 (.i ((V.aD.length:Int)-1-k))=some (cW V.s3 4 (V.aD.length-1-k),.au):=by rw[ei];exact o.i3.dM hi
  obtain⟨y,hy⟩:∃y,y=V.aD[V.aD.length-1-k]:=⟨_,rfl⟩;have U4:y∈V.aD:=by rw[hy];exact Ya _
  have ld:∀{kk:ah},Ext (H++g) kk->ar (some 4) (cW V.s3 4 (V.aD.length-1-k)) (λb=>kk[b]?)=some (.agg (aV y),.au):=λ{kk} e=>by rw[hy];exact o.i3.kR hi ((Rq.trans he).trans e)
  have Rc:V.an.aD.reverse.take (k+1)=V.an.aD.reverse.take k++[y.1]:=by
   have hk':k<V.an.aD.reverse.length:=by rw[ZQ];omega
   rw[YF,XY hk',List.getElem_reverse];simp only[RV.an,Y7,X2,Option.toList_some,hy]
  have oy:=(o.e3 y U4).one;have hy3:=o.e3 y U4;unfold aV at ld;refine Rs (A9 t2 t5 t6 e3 @lr @fS ix @ld @oy) ?_;refine WF.ce T.c35 (r35 T (Up.ext Xx) Om _) λg3=>?_
  cases hd:decide (y.1.name∈cS m (V.an.aD.reverse.take k))with
  |false=>
   refine Rs (A4 t2 t5 t6 e5) ?_;refine⟨_,Om,k+1,ws,Om,rfl,?_,rfl,rfl⟩;rw[Rc,pU,X5 (of_decide_eq_false hd)];exact Up.ext Xx
  |true=>
   refine Rs (A3 t2 t5 t6) ?_;obtain⟨H1,Vk⟩:∃H1,H1=H++g++[ak.b [AV.str y.1.name,.str y.1.gives,.str y.1.line,y.2]]++g3:=⟨_,rfl⟩;obtain⟨bx,QO⟩:∃bx,bx=(H++g).length:=⟨_,rfl⟩;have Sb:Ext (H++g) H1:=by rw[Vk];exact Xx
   have mx:H1[bx]? =some (.b [AV.str y.1.name,.str y.1.gives,.str y.1.line,y.2]):=by rw[Vk,QO];exact(show Ext (H++g++[ak.b [AV.str y.1.name,.str y.1.gives,.str y.1.line,y.2]]) _ from Xx).some bh
   have hbl:bx<H1.length:=(XT.1 mx).1;rw[<-Vk,<-QO];refine oX (λh=>h[bx]? =some (.b [AV.str y.1.name,.str y.1.gives,.str y.1.line,y.2])) ?_;refine de mx rfl rfl ?_;refine Rs t2 ?_;have x2:Ext H1 (H1++[ak.b []]):=⟨_,rfl⟩;have m2:(λh:ah=>h[bx]? =some (.b [AV.str y.1.name,.str y.1.gives,.str y.1.line,y.2])) (H1++[ak.b []]):=x2.some mx;refine de m2 rfl rfl ?_;refine Rs (A2 t2 t5) ?_;refine de m2 rfl rfl ?_;refine Rs (A2 t2 t5) ?_;refine WR.qo (N:=H1.length) bh (X8 _) (Up.ext (Sb.trans x2)) (by simp only[X2];omega) λs' g5 XG=>?_
   have x3:Ext H1 (H1++[ak.b []]++g5):=Xx;have m3:(λh:ah=>h[bx]? =some (.b [AV.str y.1.name,.str y.1.gives,.str y.1.line,y.2])) (H1++[ak.b []]++g5):=x3.some mx;refine Rs (A2 t2 t5) ?_;refine de m3 rfl rfl ?_;refine Rs (A2 t2 t5) ?_;refine kU m3 (v:=y.2) (λz hz=>?_) ?_
   ·simp only[aQ,aT,ba,bd,reduceAdd,reduceMul,reduceLeDiff,reduceEqDiff,bg,hlen,Yb,Yf,t2,aA hz]
   refine Rs (A2 t2 t5) ?_;refine de m3 rfl rfl ?_;refine Rs (A2 t2 t5) ?_;have SE:y.1.bu.length<=2:=hin y.1 (Ym U4);refine WR.E3 (h0:=H1) (ys:=y.1.bu.map ao) XG (hy3.ext (((Rq.trans he).trans Sb).trans x3)) De (by simp only[X2];omega) x3 λs6 g6 hf6 hk6 hl6=>?_
   have m6:(λh:ah=>h[bx]? =some (.b [AV.str y.1.name,.str y.1.gives,.str y.1.line,y.2])) (H1++g6):=(Ext.app g6 (Ext.refl H1)).some mx;refine Rs (A2 t2 t5) ?_;refine oT m6 rfl ?_;refine Rs (A4 t2 t5 t6 e5) ?_;refine⟨_,Om,k+1,s6,Om,rfl,⟨_,by rw[Vk];simp only[XV];rfl⟩,?_,rfl,rfl⟩;rw[Rc,pU,X9 (Zb hd),X4];exact hf6.a8
 ·have e3:decide (0<=(V.aD.length:Int)-1-k)=false:=XU Om;have e4:k=V.aD.length:=Om
  refine Rs (A4 t2 t5 t6 e3) ?_;have hns:cS m (V.an.aD.reverse.take k)=cS m V.an.aD.reverse:=by rw[e4,<-hml,<-ZQ,Yz]
  rw[hns]at Up hwl;have eu:(jm V.an m).map gy.name=(V.aD.filter λx=>decide (x.1.name∈cS m V.an.aD.reverse)).map λx=>x.1.name:=by
   rw[<-pq,iK,ZD];rfl
  rw[eu];obtain⟨W,hW⟩:∃W,W=cS m V.an.aD.reverse:=⟨_,rfl⟩;rw[<-hW]at Up hwl ⊢;have hwl2:W.length<=65:=Om
  clear hwl;refine WL.inv T.mix (λn ts h'=>∃(k:Nat) (out:AV),k<=V.aD.length/\n=V.aD.length-k/\Ext (H++g) h'/\Fr (H++g).length h' out 1 ((((V.aD.take k).filter λx=>decide (x.1.name∈W)).map λx=>x.1.name).map ao)/\
    ts.length=60/\slot ts 2=.ptr h.length 0/\slot ts 5=ws/\slot ts 8=out/\slot ts 9=.i k) V.aD.length
   ⟨0,.af,Om,rfl,.refl _,.nil,Sn,(Sq t2),(Sq t5),Sw,iQ⟩ ?_
  clear t2 t5 t6 hlen lr hlt e3 e4 hk htl hns;clear ts k;rintro _ ts _ ⟨k,out,QS,rfl,⟨g2,rfl⟩,hfr,hlen,t2,t5,t8,t9⟩;have Q0:Ext (H++g) (H++g++g2):=⟨_,rfl⟩;have lr:∀{kk n a},Ext (H++g++g2) kk->ar n (.ptr h.length a) (λz=>kk[z]?)=dJ n a (.b V.row):=λ{_ _ _} e=>aA (((he.trans Q0).trans e).some mr)
  by_cases hlt:k<V.aD.length
  ·have e3:=fF hlt;have e5:=wrapN (n:=k) Om;have ix:=o.i3.dM (kk:=.i64) hlt;obtain⟨y,hy⟩:∃y,y=V.aD[k]:=⟨_,rfl⟩;have lf:∀{kk:ah},Ext (H++g++g2) kk->ar none (lK V.s3 4 k 0) (λb=>kk[b]?)=some (.str y.1.name,.au):=λ{kk} e=>o.i3.pY hlt (by rw[<-hy];rfl) (((Rq.trans he).trans Q0).trans e)
   have Rc:V.aD.take (k+1)=V.aD.take k++[y]:=by rw[hy,YF,XY hlt];rfl
   refine Rs (o8 t2 t5 t8 t9 @lr @fS o.i3.aM e3 ix @lf) ?_;refine WF.ce T.c35 (r35 T (Up.ext Q0) Om _) λg3=>?_
   cases hd:decide (y.1.name∈W)with
   |false=>
    refine Rs (A5 t2 t5 t8 t9 e5) ?_;exact z70
   |true=>
    refine Rs (A8 t2 t5 t8 t9 @lr @fS ix @lf) ?_;have Rn:((V.aD.take k).filter λx=>decide (x.1.name∈W)).length<=V.aD.length:=YI (Yu _ _) (by rw[YQ];omega);refine WR.fQ (h0:=H++g) (cs:=(((V.aD.take k).filter λx=>decide (x.1.name∈W)).map λx=>x.1.name).map ao) (ys:=[ao y.1.name]) ((hfr.app _).app _) (Fr.push (N:=0) (Yt _) [ao y.1.name] (by simp[ao])).a8 De Si (by simp only[X2,XX,X1];omega) (by rw[XV,XV];exact⟨_,rfl⟩) ?_;intro g' Q1 hff hkp;have hrow:(((V.aD.take k).filter λx=>decide (x.1.name∈W)).map λx=>x.1.name).map ao++[ao y.1.name]=(((V.aD.take (k+1)).filter λx=>decide (x.1.name∈W)).map λx=>x.1.name).map ao:=by
     exact MI
    rw[hrow]at hff;rw[hrow];refine Rs (A5 t2 t5 t8 t9 e5) ?_;exact z49
  ·have e3:=gK hlt;have e4:k=V.aD.length:=Om
   refine Rs (A8 t2 t5 t8 t9 @lr @fS o.i3.aM e3) ?_;rw[e4,Yz]at hfr;exact⟨(Rq.trans he).trans Q0,hfr.a8⟩
def r59{V}(o:aC h V)(w:fk V.an)(m:By):ay P 59 [.agg V.row,.str m] h (λv h'=>aH h' v 1 (((fq V.an m).map gN.name).map ao)):=by
 refine .eG 64 T.mix T.c59 ?_;intro ts hlen t0 t1;unfold fn59;have QO:=@aC.box _ _ o;have l:=w.len;have hn32:V.aD.length<=32:=by have:=w.l3;simpa [RV.an]using this
 have hml:V.an.aD.length=V.aD.length:=by simp[RV.an]
 refine Rs (A4 t0 t1 @QO @aE) ?_;refine WF.res T.c58 (r58 T (o.ext Xx) w m) ?_;rintro ns g0 hns;obtain⟨M,hM⟩:∃M,M=jm V.an m:=⟨_,rfl⟩;rw[<-hM]at hns;have hMm:∀x∈M,x∈V.an.aD:=λx hx=>by rw[hM]at hx;exact(Zd.1 hx).1
 have hMl:M.length<=32:=by
  have h1:M.length<=V.an.aD.length:=by rw[hM];unfold jm;exact Yu _ _
  omega
 obtain⟨H,hH⟩:∃H,H=h++[ak.b V.row]++g0:=⟨_,rfl⟩;have Rq:Ext h H:=by rw[hH];exact Xx
 have mr:H[h.length]? =some (.b V.row):=by rw[hH];exact(show Ext (h++[ak.b V.row]) _ from Xx).some bh
 rw[<-hH]at hns ⊢;rw[ZD]at hns;refine Rs (A2 t0 t1) ?_;obtain⟨F,hF⟩:∃F:List gy->List (By),F=λl=>(l.filter λx=>decide (x.bu=[])).map gy.line:=⟨_,rfl⟩
 refine WL.inv T.mix (λn ts h'=>∃(k:Nat) (out:AV),k<=M.length/\n=M.length-k/\Ext H h'/\Fr H.length h' out 1 ((F (M.take k)).map ao)/\
   ts.length=64/\slot ts 2=.ptr h.length 0/\slot ts 5=ns/\slot ts 6=out/\slot ts 7=.af/\slot ts 8=.i k) M.length
  ⟨0,.af,Om,rfl,.refl _,(by rw[hF];exact .nil),Sn,Sw,Sw,Sw,Sw,iQ⟩ ?_
 rintro _ ts _ ⟨k,out,hk,rfl,⟨g,rfl⟩,hfr,hlen,t2,t5,t6,t7,t8⟩;have he:Ext H (H++g):=⟨_,rfl⟩;have lr:∀{kk n a},Ext (H++g) kk->ar n (.ptr h.length a) (λz=>kk[z]?)=dJ n a (.b V.row):=λ{_ _ _} e=>aA ((he.trans e).some mr)
 have hFl:∀j,(F (M.take j)).length<=M.length:=λj=>by
  rw[hF];simp only[X2];exact YI (Yu _ _) (by rw[YQ];omega)
 by_cases hlt:k<M.length
 ·have e3:=fF hlt;have e5:=wrapN (n:=k) Om;have ix:=hns.dM (kk:=.i64) hlt;obtain⟨x,hx⟩:∃x,x=M[k]:=⟨_,rfl⟩;have R0:x∈V.an.aD:=hMm x (by rw[hx];exact Ya _);have lf:∀{kk:ah},Ext (H++g) kk->ar none (cW ns 1 k) (λb=>kk[b]?)=some (.str x.name,.au):=λ{kk} e=>hns.kS hlt (by rw[<-hx];rfl) (he.trans e)
  have Uy:x.name∈hO V.an:=Ym R0;have hps:=cM Uy;have Sj:aZ (hO V.an) x.name<V.aD.length:=by simpa [hO,RV.an]using hps
  have iy:aX 4 V.s3 (.i ((aZ (hO V.an) x.name:Nat):Int))=some (cW V.s3 4 (aZ (hO V.an) x.name),.au):=o.i3.dM Sj;obtain⟨y,hy⟩:∃y,y=V.aD[aZ (hO V.an) x.name]:=⟨_,rfl⟩;have U4:y∈V.aD:=by rw[hy];exact Ya _
  have Un:y.1=x:=by
   have e1:=DZ w R0;rw[gS,cV (f:=gy.name) (l:=V.an.aD) (d:=BX) Uy]at e1;rw[<-e1,hy];exact IK
  have ly:∀{kk:ah},Ext (H++g) kk->ar (some 4) (cW V.s3 4 (aZ (hO V.an) x.name)) (λb=>kk[b]?)=some (.agg (aV y),.au):=λ{kk} e=>by rw[hy];exact o.i3.kR Sj ((Rq.trans he).trans e)
  have Rc:M.take (k+1)=M.take k++[x]:=by rw[hx,YF,XY hlt];rfl
  have oy:=o.e3 y U4;have Xb:=oy.one;unfold aV at ly;refine Rs (qt t2 t5 t6 t7 t8 hns.aM e3 @lr @fS @aE ix @lf) ?_;refine WF.ce T.c55 (r55 T ((o.ext (Rq.trans he)).ext Xx) l _) λg1=>?_
  have ei:cP (λy:gy×AV=>decide (y.1.name=x.name)) V.aD=(aZ (hO V.an) x.name:Int):=by
   rw[gD];exact ep (f:=λy:gy×AV=>y.1.name) (by rw[<-gD];exact Uy)
  rw[ei];refine Rs (A9 t2 t5 t6 t7 t8 @iy @ly @Xb oy.aM) ?_;rw[Un];by_cases hin:x.bu=[]
  ·have q:decide ((x.bu.length:Int)=0)=true:=XZ (by rw[hin];rfl);refine Rs (A6 t2 t5 t6 t7 t8 q) ?_;have Rn:=hFl k;refine WR.fQ (h0:=H) (cs:=(F (M.take k)).map ao) (ys:=[ao x.line]) (((hfr.app _).app _).app _) (Fr.push (N:=0) (Yt _) [ao x.line] (by simp[ao])).a8 De Si (by simp only[X2,XX,X1];omega) (by simp only[XV];exact⟨_,rfl⟩) ?_;intro g' Q1 hff hkp;have hrow:(F (M.take k)).map ao++[ao x.line]=(F (M.take (k+1))).map ao:=by
    rw[Rc,hF];simp only[ZA,Z7,aaq,hin,Yi,Yf,X4,YR,ZM]
   rw[hrow]at hff;rw[hrow];refine Rs (A6 t2 t5 t6 t7 t8 e5) ?_;exact z49
  ·have q:decide ((x.bu.length:Int)=0)=false:=XU (λz=>hin (YW.1 Om));refine Rs (A7 t2 t5 t6 t7 t8 q e5) ?_;refine⟨_,Om,k+1,out,Om,rfl,?_,rfl,rfl⟩;have:F (M.take (k+1))=F (M.take k):=by
    rw[Rc,hF];simp only[ZA,Z7,aaq,hin,Yp,YK,Yb,Yo]
   rw[this];exact(hfr.app _).app _
 ·have e3:=gK hlt;have e4:k=M.length:=Om
  rw[e4,Yz]at hfr;have Rn:=hFl M.length;rw[Yz]at Rn;have hsrc:∀y∈V.lines,decide (y.name∈F M)=decide (y.name∈(jm V.an m).map gy.line):=λy hy=>by
   refine ZJ.2 ?_;rw[<-hM,hF];simp only[Ys,Zd,YG];constructor
   ·rintro⟨x,⟨h1,_⟩,h2⟩;exact⟨x,h1,h2⟩
   ·rintro⟨x,h1,h2⟩;refine⟨x,⟨h1,?_⟩,h2⟩;rcases(w.md x (hMm x h1)).1 with⟨a,_⟩|⟨_,a⟩
    ·exact a
    ·have hnn:=w.n0.nm y.name (Ym hy);rw[<-h2,a]at hnn;cases hnn
  have eu:(fq V.an m).map gN.name=(V.lines.filter λy=>decide (y.name∈F M)).map gN.name:=by
   rw[fq];congr 1;exact(List.filter_congr λy hy=>hsrc y hy).symm
  rw[eu];obtain⟨W,hW⟩:∃W,W=F M:=⟨_,rfl⟩;rw[<-hW]at hfr Rn ⊢;have Up:=hfr.a8;refine Rs (A7 t2 t5 t6 t7 t8 hns.aM e3) ?_;refine WL.inv T.mix (λn ts h'=>∃(k:Nat) (res:AV),k<=V.lines.length/\n=V.lines.length-k/\Ext (H++g) h'/\Fr (H++g).length h' res 1 ((((V.lines.take k).filter λy=>decide (y.name∈W)).map gN.name).map ao)/\
    ts.length=64/\slot ts 2=.ptr h.length 0/\slot ts 6=out/\slot ts 7=res/\slot ts 10=.i k) V.lines.length
   ⟨0,.af,Om,rfl,.refl _,.nil,Sn,(Sq t2),(Sq t6),(Sq t7),iQ⟩ ?_
  clear t2 t5 t6 t7 t8 hlen lr hlt e3 e4 hk;clear ts k;rintro _ ts _ ⟨k,res,QS,rfl,⟨g2,rfl⟩,Tw,hlen,t2,t6,t7,t10⟩;have Q0:Ext (H++g) (H++g++g2):=⟨_,rfl⟩;have lr:∀{kk n a},Ext (H++g++g2) kk->ar n (.ptr h.length a) (λz=>kk[z]?)=dJ n a (.b V.row):=λ{_ _ _} e=>aA (((he.trans Q0).trans e).some mr)
  have S4:=l.l0;by_cases hlt:k<V.lines.length
  ·have e3:=fF hlt;have e5:=wrapN (n:=k) Om;have ix:=o.i0.dM (kk:=.i64) hlt;obtain⟨y,hy⟩:∃y,y=V.lines[k]:=⟨_,rfl⟩;have lf:∀{kk:ah},Ext (H++g++g2) kk->ar none (lK V.s0 3 k 0) (λb=>kk[b]?)=some (.str y.name,.au):=λ{kk} e=>o.i0.pY hlt (by rw[<-hy];rfl) (((Rq.trans he).trans Q0).trans e)
   have Rc:V.lines.take (k+1)=V.lines.take k++[y]:=by rw[hy,YF,XY hlt];rfl
   refine Rs (o8 t2 t6 t7 t10 @lr @gk o.i0.aM e3 ix @lf) ?_;refine WF.ce T.c35 (r35 T (Up.ext Q0) Om _) λg3=>?_
   cases hd:decide (y.name∈W)with
   |false=>
    refine Rs (A5 t2 t6 t7 t10 e5) ?_;refine⟨_,Om,k+1,res,Om,rfl,?_,rfl,rfl⟩;rw[Rc,ZA];simp only[Z7,aaq,hd,YK,Yb,Yo];exact Tw.app _
   |true=>
    refine Rs (A8 t2 t6 t7 t10 @lr @gk ix @lf) ?_;have hfl2:((V.lines.take k).filter λy=>decide (y.name∈W)).length<=V.lines.length:=YI (Yu _ _) (by rw[YQ];omega);refine WR.fQ (h0:=H++g) (cs:=(((V.lines.take k).filter λy=>decide (y.name∈W)).map gN.name).map ao) (ys:=[ao y.name]) ((Tw.app _).app _) (Fr.push (N:=0) (Yt _) [ao y.name] (by simp[ao])).a8 De Si (by simp only[X2,XX,X1];omega) (by rw[XV,XV];exact⟨_,rfl⟩) ?_;intro g' Q1 hff hkp;have hrow:(((V.lines.take k).filter λy=>decide (y.name∈W)).map gN.name).map ao++[ao y.name]=(((V.lines.take (k+1)).filter λy=>decide (y.name∈W)).map gN.name).map ao:=by
     exact MI
    rw[hrow]at hff;rw[hrow];refine Rs (A5 t2 t6 t7 t10 e5) ?_;exact z49
  ·have e3:=gK hlt;have e4:k=V.lines.length:=Om
   refine Rs (A8 t2 t6 t7 t10 @lr @gk o.i0.aM e3) ?_;rw[e4,Yz]at Tw;exact⟨(Rq.trans he).trans Q0,Tw.a8⟩
def r61{V}(o:aC h V)(w:fk V.an){p}(hp:p∈jg V.an):ay P 61 [.agg V.row,.str p] h (λv h'=>aH h' v 1 ((iJ V.an p).map ao)):=by
 refine .eG 26 T.mix T.c61 ?_;intro ts hlen t0 t1;unfold fn61;have QO:=@aC.box _ _ o;have l:=w.len;have hlt:=cM hp;have Rd:aZ (jg V.an) p<V.aO.length:=by simpa [jg,RV.an]using hlt
 have ix:aX 4 V.s5 (.i ((aZ (jg V.an) p:Nat):Int))=some (cW V.s5 4 (aZ (jg V.an) p),.au):=o.i5.dM Rd;have ev:gX V.an p=V.aO[aZ (jg V.an) p]:=cV (f:=nE.name) (l:=V.aO) hp;have ld:∀{k':ah},Ext h k'->ar none (lK V.s5 4 (aZ (jg V.an) p) 1) (λb=>k'[b]?)=some (.str (gX V.an p).yQ,.au):=λ{k'} e=>by
  rw[ev];exact o.i5.pY Rd rfl e
 have hpm:gX V.an p∈V.an.aO:=by rw[ev];exact Ya _
 have hj:(gX V.an p).yQ∈fM V.an:=(w.pc _ hpm).1;obtain⟨j,hjj⟩:∃j,j=(gX V.an p).yQ:=⟨_,rfl⟩;rw[<-hjj]at ld hj;have hlj:=cM hj;have hlj':aZ (fM V.an) j<V.aG.length:=by simpa [fM,RV.an]using hlj
 have iy:aX 3 V.s4 (.i ((aZ (fM V.an) j:Nat):Int))=some (cW V.s4 3 (aZ (fM V.an) j),.au):=o.i4.dM hlj';obtain⟨y,hy⟩:∃y,y=V.aG[aZ (fM V.an) j]:=⟨_,rfl⟩;have U4:y∈V.aG:=by rw[hy];exact Ya _
 have Un:y.1=eS V.an j:=by
  rw[eS,cV (f:=jv.name) (l:=V.an.aG) (d:=tU) hj,hy];exact IK
 have ly:∀{k':ah},Ext h k'->ar (some 3) (cW V.s4 3 (aZ (fM V.an) j)) (λb=>k'[b]?)=some (.agg (bK y),.au):=λ{k'} e=>by rw[hy];exact o.i4.kR hlj' e
 have oy:=(o.e4 y U4).one;unfold bK at ly;refine Rs (A6 t0 t1 @QO @fy @gW @aE) ?_;refine WF.ce T.c57 (r57 T (o.ext Xx) l p) λg1=>?_
 have ei:cP (λy:nE=>decide (y.name=p)) V.aO=(aZ (jg V.an) p:Int):=ep (f:=λy:nE=>y.name) hp;rw[ei];refine Rs (A4 t0 t1 ix @ld) ?_;refine WF.ce T.c56 (r56 T (o.ext Xx) l j) λg2=>?_
 have ej:cP (λy:jv×AV=>decide (y.1.name=j)) V.aG=(aZ (fM V.an) j:Int):=by
  rw[eF];exact ep (f:=λy:jv×AV=>y.1.name) (by rw[<-eF];exact hj)
 rw[ej];refine Rs (A6 t0 t1 @iy @ly @oy @aE) ?_;refine WF.res T.c59 (r59 T (o.ext Xx) w _) ?_;rintro v3 g3 h3;have hsl:((fq V.an y.1.mod).map gN.name).length<2^40:=by
  have h1:(fq V.an y.1.mod).length<=V.an.lines.length:=by unfold fq;exact Yu _ _
  have:=w.l0;rw[X2];omega
 refine Rs (A2 t0 t1) ?_;refine WF.res T.c127 (r127 T (o.ext Xx) l h3 hsl) ?_;rintro v4 g4 h4;refine Rs (A2 t0 t1) ?_;rw[iJ,<-hjj,<-Un];exact h4
end
def uR{s c}:iE (s++[c])=(339*iE s+(c.toNat:Int)).tmod 9999749:=by simp[iE]
theorem yv:∀(s:By) (a:Int),0<=a/\a<9999749->0<=s.foldl (λx c=>(339*x+(c.toNat:Int)).tmod 9999749) a/\s.foldl (λx c=>(339*x+(c.toNat:Int)).tmod 9999749) a<9999749
 |[],_,h=>h
 |c::s,a,h=>by
  rw[aas];exact yv s _ ⟨Int.tmod_nonneg _ Om,Int.tmod_lt_of_pos _ Om⟩
def nH(s:By):0<=iE s/\iE s<9999749:=yv s 1 Om
def tN(s:By):(jG (iE s)).length<=7:=by
 have:=nH s;rw[kC];exact mv (k:=6) Om
def uQ(s:By):(nG s).length=7:=by
 have:=tN s;unfold nG;rw[XS,Y6];omega
theorem rz{c}:∀{xs},Lib.join xs [c]=jo c xs
 |[]=>rfl
 |[x]=>Lib.join_one x [c]
 |x::y::r=>by
  rw[nh Si,<-rz (xs:=y::r),Lib.join_cons,Lib.join_cons];simp[Lib.joinTail]
def Cb:∀{xs},Lib.join xs []=xs.flatten
 |[]=>rfl
 |x::r=>by rw[Lib.join_cons];simp[Lib.joinTail]
section
variable {P:Program}(T:fI P) (Z:qq P) {h:ah}
include T Z
set_option maxRecDepth 10000 in
def r187(s:By)(hs:s.length<=2^40)(w:Pw h):ay P 187 [.str s] h (λv _=>v=.str (nG s)):=by
 refine .kV 28 T.mix T.c187 ?_;intro ts hlen t0;unfold fn187;refine Rs t0 ?_;refine WL.inv T.mix (λn ts' h'=>∃k:Nat,k<=s.length/\n=s.length-k/\h' =h/\ts'.length=28/\slot ts' 0=.str s/\slot ts' 3=.i (iE (s.take k))/\slot ts' 7=.i s.length/\slot ts' 8=.i k) s.length
  ⟨0,Om,rfl,rfl,(Sq t0),(Sq t0),iQ,(Sq t0),iQ⟩ ?_
 rintro _ ts' _ ⟨k,hk,rfl,rfl,R4,u0,u3,u7,u8⟩;clear hlen t0;have hlen:=R4;by_cases hlt:k<s.length
 ·have e3:=fF hlt;have hb:=nH (s.take k);have hcn:=UInt8.toNat_lt s[k];have w1:IntKind.i64.wrap (339*iE (s.take k))=339*iE (s.take k):=bw Om Om;have w2:IntKind.i64.wrap (s[k].toNat:Int)=(s[k].toNat:Int):=bw Om Om;have w3:IntKind.i64.wrap (339*iE (s.take k)+(s[k].toNat:Int))=339*iE (s.take k)+(s[k].toNat:Int):=bw Om Om;have er:=oA (k:=.i64) (a:=339*iE (s.take k)+(s[k].toNat:Int)) (b:=9999749) De;rw[<-uR,<-mQ hlt]at er
  repeat (first|simp (config:={maxSteps:=1000000}) only[aQ,aT,ba,bd,reduceAdd,reduceMul,reduceLeDiff,reduceEqDiff,bg,hlen,Yb,Yf,u0,u3,u7,u8,e3,jL hlt,w1,w2,w3,er,wrapN (show k+1<2^63 by omega)]|simp (config:={maxSteps:=1000000}) (disch:=first|(simp only[XS,XX,X1]<;>omega)|rfl|omega|fail) only[eo,aQ,aT,ba,bd,reduceAdd,reduceMul,reduceLeDiff,reduceEqDiff,bg,hlen,Yb,Yf,u0,u3,u7,u8,e3,jL hlt,w1,w2,w3,er,wrapN (show k+1<2^63 by omega)])
  exact z173
 ·have e3:=gK hlt;have ek:k=s.length:=Om
  rw[ek,Yz]at u3;have hb:=nH s;have hl:=tN s;refine Rs (A5 @u0 @u3 @u7 @u8 e3) ?_;refine WF.ce T.c113 (Z.itoa Om Om w) λg=>?_
  rw[gF hb.1];have w1:IntKind.i64.wrap (7-((jG (iE s)).length:Int))=((7-(jG (iE s)).length:Nat):Int):=by rw[bw Om Om];omega
  refine Rs (A2 @u0 @w1) ?_;refine WF.ce T.c252 (Z.rep Om) λg2=>?_
  refine Rs (A2 @u0 (jI (show(List.replicate (7-(jG (iE s)).length) (48:UInt8)).length+(jG (iE s)).length<2^62 by rw[Y6];omega))) ?_;rfl
def yl{x}(h0:0<=x)(h1:x<2^62)(w:Pw h):bF P (.func (.func 113) [] []) [.i x] h (λv _=>v=.str (jG x)):=by
 rw[<-gF h0];exact bF.of (a:=[]) (c:=[]) T.c113 (Z.itoa Om Om w)
end
structure Py(e:gq):Prop where
 num:0<=e.num/\e.num<2^62
 cE:∀x∈e.cE,0<=x/\x<2^62
 nl:e.names.length<=2^30
 vl:e.cE.length<=2^30
 bl:(iN e).length<=2^38
section
variable {P:Program}(T:fI P) (Z:qq P) {h:ah}
include T Z
set_option maxRecDepth 10000 in
def r186{x}(ox:bt h x)(en:Py x.ev)(w:Pw h):ay P 186 [.agg x.row] h (λv _=>v=.str (iN x.ev)):=by
 refine .kV 19 T.mix T.c186 ?_;intro ts hlen t0;unfold fn186;have QO:=@bt.box _ _ ox;have hnl:=en.nl;have RE:=en.vl;refine Rs (A5 t0 @QO @nj @bB @aN) ?_;refine WF.ce T.c113 (Z.itoa (by have:=en.num;omega) (by have:=en.num;omega) (w.ext Xx)) λg1=>?_
 rw[gF en.num.1];refine Rs (A4 t0 @nj @bB @aN) ?_;have hF:=Fr.push (N:=h.length) (h:=h++[ak.b x.row]++g1) (es:=1) (by simp only[XS];omega) (([jG x.ev.num,x.ev.kind] :List (By)).map ao) (by simp[ao]);refine WR.E3 (h0:=h) (cs:=([jG x.ev.num,x.ev.kind] :List (By)).map ao) (ys:=x.ev.names.map ao) hF (ox.n.ext Xx) De (by simp;omega) Xx ?_;intro s' g hfr hkp hle;rw[<-X4]at hfr;have Rk:(h++g)[h.length]? =some (.b x.row):=by
  rw[hkp _ (by simp only[XS,Yn];omega) (λe=>by have e2:(h++[ak.b x.row]++g1).length=h.length:=YU e;simp only[XS,Yn]at e2;omega)];simp
 have lb:∀{k:ah}{n':Option Nat}{a:Nat},Ext (h++g) k->ar n' (.ptr h.length a) (λz=>k[z]?)=dJ n' a (.b x.row):=λe=>aA (e.some Rk)
 refine Rs (A3 t0 @lb @aY) ?_;refine WF.res T.c199 (r199 T (ox.v.ext Xx) Om jG (λy hy k ek=>yl T Z (en.cE y hy).1 (en.cE y hy).2 (w.ext (Ext.trans Xx ek)))) ?_;intro v g2 hv;refine Rs t0 ?_;refine WR.E3 (h0:=h) (hfr.app g2) hv.a8 De (by simp;omega) Xx ?_;intro s2 g3 Tw hkp2 Tu;rw[<-X4]at Tw;refine Rs t0 ?_;have hbl:=en.bl;refine WF.ce T.c114 (Z.join Tw.a8 ⟨by rw[rz];show(iN x.ev).length<=_;omega,by simp;omega⟩) λg4=>?_
 refine Rs t0 ?_;rw[rz];rfl
set_option maxRecDepth 10000 in
def r97{x}(ox:bt h x)(en:Py x.ev)(w:Pw h):ay P 97 [.agg x.row] h (λv _=>v=.str (vg x.ev)):=by
 refine .kV 12 T.mix T.c97 ?_;intro ts hlen t0;unfold fn97;have QO:=@bt.box _ _ ox;have hbl:=en.bl;refine Rs (A3 t0 @QO @cA) ?_;refine WF.ce T.c186 (r186 T Z (ox.ext Xx) en (w.ext Xx)) λg=>?_
 refine Rs (A2 t0 (jI (show(iN x.ev).length+([35] :By).length<2^62 by simp;omega))) ?_;refine WF.ce T.c187 (r187 T Z _ Om (w.ext Xx)) λg2=>?_
 have h7:=uQ (iN x.ev);refine Rs (A3 t0 (jI (show(iN x.ev++[35]).length+(nG (iN x.ev)).length<2^62 by simp;omega)) (jI (show(iN x.ev++[35]++nG (iN x.ev)).length+([10] :By).length<2^62 by simp;omega))) ?_;rfl
theorem BK{e}:(vg e).length=(iN e).length+9:=by
 have:=uQ (iN e);unfold vg;simp;omega
end
def Ext.iR{h W b X}(e:Ext h W)(hb:h.length<=b):Ext h (W.set b X):=by
 obtain⟨g,rfl⟩:=e;exact⟨g.set (b-h.length) X,YP _ _ hb⟩
structure eV(B W0:ah)(b:Nat)(K:Nat->Prop)(W:ah)(U:RV):Prop where
 bk:b9 B.length W b U
 ex:Ext B W
 ln:W0.length<=W.length
 kp:∀i,K i->W[i]? =W0[i]?
 kl:∀i,K i->i<W0.length/\i≠b/\some i∉U.bl
section
variable {B W0 W W2:ah}{b:Nat}{K:Nat->Prop}{U:RV}(s:eV B W0 b K W U)
include s
def eV.grow(e:Ext W W2):eV B W0 b K W2 U:=by
 obtain⟨g,rfl⟩:=e;refine⟨s.bk.app g,s.ex.trans ⟨g,rfl⟩,YI s.ln Si,λi hi=>?_,s.kl⟩;rw[XW (YM (s.kl i hi).1 s.ln)];exact s.kp i hi
omit s in
theorem O9{L s' i}(h:some i∈{U with lines:=L,s0:=s'}.bl):some i∈U.bl\/sB s' =some i:=by
 exact IM
def eV.p0{L s'}(hff:Fr B.length W2 s' 3 (L.map cB))(hn:∀i,sB s' =some i->sB U.s0=some i\/W.length<=i)(hk:∀i,i<W.length->sB U.s0≠some i->W2[i]? =W[i]?)(hx:Ext B W2)(hl:W.length<=W2.length):
  eV B W0 b K (W2.set b (.b (U.row.set 1 s'))) {U with lines:=L,s0:=s'}:=by
 have hbl:=s.bk.lt;have Q4:sB U.s0≠some b:=λz=>s.bk.ne (by rw[<-z];simp[RV.bl])
 have hsb:∀i,sB s' =some i->i≠b:=λi hi z=>by
  exact z59
 obtain⟨X,hX⟩:∃X,X=ak.b (U.row.set 1 s'):=⟨_,rfl⟩;rw[<-hX];have g2:∀i,i≠b->(W2.set b X)[i]? =W2[i]? :=λi hi=>Yc (Zk hi)
 have gb:(W2.set b X)[b]? =some X:=Yd Om;refine⟨s.bk.Mw (hff.aB λi hi=>g2 i (hsb i hi)) hn (by rw[hX]at gb ⊢;exact gb) (λi hi h1 h2=>(g2 i h2).trans (hk i hi h1)),hx.iR s.bk.hN,by rw[YD];exact YI s.ln hl,λi hi=>?_,λi hi=>?_⟩
 ·exact IN
 ·obtain⟨h1,h2,h3⟩:=s.kl i hi;refine⟨h1,h2,λhm=>?_⟩;rcases O9 hm with z|z
  ·exact h3 z
  ·exact z91
def eV.q0{L}(hff:Fr B.length W2 U.s0 3 (L.map cB))(hk:∀i,i<W.length->sB U.s0≠some i->W2[i]? =W[i]?)(hx:Ext B W2)(hl:W.length<=W2.length):eV B W0 b K W2 {U with lines:=L}:=by
 have hbl:=s.bk.lt;have Q4:sB U.s0≠some b:=λz=>s.bk.ne (by rw[<-z];simp[RV.bl])
 refine⟨s.bk.Mw (s:=U.s0) hff (λi hi=>.inl hi) ((hk b hbl Q4).trans s.bk.m) (λi hi h1 _=>hk i hi h1),hx,YI s.ln hl,λi hi=>?_,s.kl⟩;exact JQ
omit s in
theorem O8{L s' i}(h:some i∈{U with aJ:=L,s1:=s'}.bl):some i∈U.bl\/sB s' =some i:=by
 exact IM
def eV.p1{L s'}(hff:Fr B.length W2 s' 2 (L.map dV))(hn:∀i,sB s' =some i->sB U.s1=some i\/W.length<=i)(hk:∀i,i<W.length->sB U.s1≠some i->W2[i]? =W[i]?)(hx:Ext B W2)(hl:W.length<=W2.length):
  eV B W0 b K (W2.set b (.b (U.row.set 2 s'))) {U with aJ:=L,s1:=s'}:=by
 have hbl:=s.bk.lt;have Q4:sB U.s1≠some b:=λz=>s.bk.ne (by rw[<-z];simp[RV.bl])
 have hsb:∀i,sB s' =some i->i≠b:=λi hi z=>by
  exact z59
 obtain⟨X,hX⟩:∃X,X=ak.b (U.row.set 2 s'):=⟨_,rfl⟩;rw[<-hX];have g2:∀i,i≠b->(W2.set b X)[i]? =W2[i]? :=λi hi=>Yc (Zk hi)
 have gb:(W2.set b X)[b]? =some X:=Yd Om;refine⟨s.bk.Qd (hff.aB λi hi=>g2 i (hsb i hi)) hn (by rw[hX]at gb ⊢;exact gb) (λi hi h1 h2=>(g2 i h2).trans (hk i hi h1)),hx.iR s.bk.hN,by rw[YD];exact YI s.ln hl,λi hi=>?_,λi hi=>?_⟩
 ·exact IN
 ·obtain⟨h1,h2,h3⟩:=s.kl i hi;refine⟨h1,h2,λhm=>?_⟩;rcases O8 hm with z|z
  ·exact h3 z
  ·exact z91
omit s in
theorem O4{L s' i}(h:some i∈{U with aO:=L,s5:=s'}.bl):some i∈U.bl\/sB s' =some i:=by
 exact IM
def eV.p5{L s'}(hff:Fr B.length W2 s' 4 (L.map dm))(hn:∀i,sB s' =some i->sB U.s5=some i\/W.length<=i)(hk:∀i,i<W.length->sB U.s5≠some i->W2[i]? =W[i]?)(hx:Ext B W2)(hl:W.length<=W2.length):
  eV B W0 b K (W2.set b (.b (U.row.set 6 s'))) {U with aO:=L,s5:=s'}:=by
 have hbl:=s.bk.lt;have Q4:sB U.s5≠some b:=λz=>s.bk.ne (by rw[<-z];simp[RV.bl])
 have hsb:∀i,sB s' =some i->i≠b:=λi hi z=>by
  exact z59
 obtain⟨X,hX⟩:∃X,X=ak.b (U.row.set 6 s'):=⟨_,rfl⟩;rw[<-hX];have g2:∀i,i≠b->(W2.set b X)[i]? =W2[i]? :=λi hi=>Yc (Zk hi)
 have gb:(W2.set b X)[b]? =some X:=Yd Om;refine⟨s.bk.Mv (hff.aB λi hi=>g2 i (hsb i hi)) hn (by rw[hX]at gb ⊢;exact gb) (λi hi h1 h2=>(g2 i h2).trans (hk i hi h1)),hx.iR s.bk.hN,by rw[YD];exact YI s.ln hl,λi hi=>?_,λi hi=>?_⟩
 ·exact IN
 ·obtain⟨h1,h2,h3⟩:=s.kl i hi;refine⟨h1,h2,λhm=>?_⟩;rcases O4 hm with z|z
  ·exact h3 z
  ·exact z91
def eV.q5{L}(hff:Fr B.length W2 U.s5 4 (L.map dm))(hk:∀i,i<W.length->sB U.s5≠some i->W2[i]? =W[i]?)(hx:Ext B W2)(hl:W.length<=W2.length):eV B W0 b K W2 {U with aO:=L}:=by
 have hbl:=s.bk.lt;have Q4:sB U.s5≠some b:=λz=>s.bk.ne (by rw[<-z];simp[RV.bl])
 refine⟨s.bk.Mv (s:=U.s5) hff (λi hi=>.inl hi) ((hk b hbl Q4).trans s.bk.m) (λi hi h1 _=>hk i hi h1),hx,YI s.ln hl,λi hi=>?_,s.kl⟩;exact JQ
omit s in
theorem O7{y t s' i}(h:some i∈{U with aj:=U.aj++[(y,t)],s2:=s'}.bl):some i∈U.bl\/sB s' =some i\/sB t=some i:=by
 exact IM
def eV.p2{y t s'}(hff:Fr B.length W2 s' 3 ((U.aj++[(y,t)]).map bn))(ht:Fr B.length W2 t 1 (y.aJ.map ao))(hn:∀i,sB s' =some i->sB U.s2=some i\/W.length<=i)(hnt:∀i,sB t=some i->W.length<=i/\sB s'≠some i)(hk:∀i,i<W.length->sB U.s2≠some i->W2[i]? =W[i]?)(hx:Ext B W2)(hl:W.length<=W2.length):
  eV B W0 b K (W2.set b (.b (U.row.set 3 s'))) {U with aj:=U.aj++[(y,t)],s2:=s'}:=by
 have hbl:=s.bk.lt;have Q4:sB U.s2≠some b:=λz=>s.bk.ne (by rw[<-z];simp[RV.bl])
 have hsb:∀i,sB s' =some i->i≠b:=λi hi z=>by
  exact z59
 have htb:∀i,sB t=some i->i≠b:=λi hi z=>by
  exact zm
 obtain⟨X,hX⟩:∃X,X=ak.b (U.row.set 3 s'):=⟨_,rfl⟩;rw[<-hX];have g2:∀i,i≠b->(W2.set b X)[i]? =W2[i]? :=λi hi=>Yc (Zk hi)
 have gb:(W2.set b X)[b]? =some X:=Yd Om;refine⟨s.bk.Qc (hff.aB λi hi=>g2 i (hsb i hi)) (ht.aB λi hi=>g2 i (htb i hi)) hn hnt (by rw[hX]at gb ⊢;exact gb) (λi hi h1 h2=>(g2 i h2).trans (hk i hi h1)),hx.iR s.bk.hN,by rw[YD];exact YI s.ln hl,λi hi=>?_,λi hi=>?_⟩
 ·exact IN
 ·obtain⟨h1,h2,h3⟩:=s.kl i hi;have VB:=s.ln;refine⟨h1,h2,λhm=>?_⟩;rcases O7 hm with z|z|z
  ·exact h3 z
  ·rcases hn i z with z|z
   ·exact GD
   ·omega
  ·have:=(hnt i z).1;omega
omit s in
theorem O6{y t s' i}(h:some i∈{U with aD:=U.aD++[(y,t)],s3:=s'}.bl):some i∈U.bl\/sB s' =some i\/sB t=some i:=by
 exact IM
def eV.p3{y t s'}(hff:Fr B.length W2 s' 4 ((U.aD++[(y,t)]).map aV))(ht:Fr B.length W2 t 1 (y.bu.map ao))(hn:∀i,sB s' =some i->sB U.s3=some i\/W.length<=i)(hnt:∀i,sB t=some i->W.length<=i/\sB s'≠some i)(hk:∀i,i<W.length->sB U.s3≠some i->W2[i]? =W[i]?)(hx:Ext B W2)(hl:W.length<=W2.length):
  eV B W0 b K (W2.set b (.b (U.row.set 4 s'))) {U with aD:=U.aD++[(y,t)],s3:=s'}:=by
 have hbl:=s.bk.lt;have Q4:sB U.s3≠some b:=λz=>s.bk.ne (by rw[<-z];simp[RV.bl])
 have hsb:∀i,sB s' =some i->i≠b:=λi hi z=>by
  exact z59
 have htb:∀i,sB t=some i->i≠b:=λi hi z=>by
  exact zm
 obtain⟨X,hX⟩:∃X,X=ak.b (U.row.set 4 s'):=⟨_,rfl⟩;rw[<-hX];have g2:∀i,i≠b->(W2.set b X)[i]? =W2[i]? :=λi hi=>Yc (Zk hi)
 have gb:(W2.set b X)[b]? =some X:=Yd Om;refine⟨s.bk.Qb (hff.aB λi hi=>g2 i (hsb i hi)) (ht.aB λi hi=>g2 i (htb i hi)) hn hnt (by rw[hX]at gb ⊢;exact gb) (λi hi h1 h2=>(g2 i h2).trans (hk i hi h1)),hx.iR s.bk.hN,by rw[YD];exact YI s.ln hl,λi hi=>?_,λi hi=>?_⟩
 ·exact IN
 ·obtain⟨h1,h2,h3⟩:=s.kl i hi;have VB:=s.ln;refine⟨h1,h2,λhm=>?_⟩;rcases O6 hm with z|z|z
  ·exact h3 z
  ·rcases hn i z with z|z
   ·exact GD
   ·omega
  ·have:=(hnt i z).1;omega
omit s in
theorem O5{y t s' i}(h:some i∈{U with aG:=U.aG++[(y,t)],s4:=s'}.bl):some i∈U.bl\/sB s' =some i\/sB t=some i:=by
 exact IM
def eV.p4{y t s'}(hff:Fr B.length W2 s' 3 ((U.aG++[(y,t)]).map bK))(ht:Fr B.length W2 t 1 (y.bp.map aK))(hn:∀i,sB s' =some i->sB U.s4=some i\/W.length<=i)(hnt:∀i,sB t=some i->W.length<=i/\sB s'≠some i)(hk:∀i,i<W.length->sB U.s4≠some i->W2[i]? =W[i]?)(hx:Ext B W2)(hl:W.length<=W2.length):
  eV B W0 b K (W2.set b (.b (U.row.set 5 s'))) {U with aG:=U.aG++[(y,t)],s4:=s'}:=by
 have hbl:=s.bk.lt;have Q4:sB U.s4≠some b:=λz=>s.bk.ne (by rw[<-z];simp[RV.bl])
 have hsb:∀i,sB s' =some i->i≠b:=λi hi z=>by
  exact z59
 have htb:∀i,sB t=some i->i≠b:=λi hi z=>by
  exact zm
 obtain⟨X,hX⟩:∃X,X=ak.b (U.row.set 5 s'):=⟨_,rfl⟩;rw[<-hX];have g2:∀i,i≠b->(W2.set b X)[i]? =W2[i]? :=λi hi=>Yc (Zk hi)
 have gb:(W2.set b X)[b]? =some X:=Yd Om;refine⟨s.bk.Qa (hff.aB λi hi=>g2 i (hsb i hi)) (ht.aB λi hi=>g2 i (htb i hi)) hn hnt (by rw[hX]at gb ⊢;exact gb) (λi hi h1 h2=>(g2 i h2).trans (hk i hi h1)),hx.iR s.bk.hN,by rw[YD];exact YI s.ln hl,λi hi=>?_,λi hi=>?_⟩
 ·exact IN
 ·obtain⟨h1,h2,h3⟩:=s.kl i hi;have VB:=s.ln;refine⟨h1,h2,λhm=>?_⟩;rcases O5 hm with z|z|z
  ·exact h3 z
  ·rcases hn i z with z|z
   ·exact GD
   ·omega
  ·have:=(hnt i z).1;omega
def eV.qJ{i}(hi:i<U.aG.length){y}(hy:y.name=U.aG[i].1.name/\y.mod=U.aG[i].1.mod)(hf:Fr B.length W2 U.aG[i].2 1 (y.bp.map aK))(hk:∀j,j<W.length->sB U.aG[i].2≠some j->W2[j]? =W[j]?)(hx:Ext B W2)(hl:W.length<=W2.length):
  eV B W0 b K W2 {U with aG:=U.aG.set i (y,U.aG[i].2) }:=by
 have Sm:sB U.aG[i].2∈U.bl:=by simp only[RV.bl,X3,Ys];exact .inr ⟨_,Ya hi,rfl⟩
 have hbl:{U with aG:=U.aG.set i (y,U.aG[i].2) }.bl=U.bl:=by
  simp only[RV.bl,Z1];congr 1;have:sB U.aG[i].2=(U.aG.map λx=>sB x.2)[i]'(by simpa using hi):=Si
  exact Gy
 refine⟨s.bk.P9 hi hy hf hk,hx,YI s.ln hl,λj hj=>?_,λj hj=>by rw[hbl];exact s.kl j hj⟩;obtain⟨h1,h2,h3⟩:=s.kl j hj;rw[hk j (YM h1 s.ln) (λz=>h3 (by rw[<-z];exact Sm))];exact s.kp j hj
omit s in
theorem O3{i j y t}(h:some j∈{U with aj:=U.aj.set i (y,t) }.bl):some j∈U.bl\/sB t=some j:=by
 simp only[RV.bl,X3,Ys]at h ⊢;rcases h with((h|⟨x,hx,h⟩)|h)|h
 ·exact .inl (.inl (.inl (.inl h)))
 ·rcases ZG hx with hx|hx
  ·exact .inl (.inl (.inl (.inr ⟨x,hx,h⟩)))
  ·rw[hx]at h;exact .inr h
 ·exact .inl (.inl (.inr h))
 ·exact .inl (.inr h)
def eV.qS{i}(hi:i<U.aj.length){y t}(hs:Fr B.length W2 U.s2 3 ((U.aj.set i (y,t)).map bn))(ht:Fr B.length W2 t 1 (y.aJ.map ao))(hnt:∀j,sB t=some j->W.length<=j)
  (hk:∀j,j<W.length->sB U.s2≠some j->sB U.aj[i].2≠some j->W2[j]? =W[j]?) (hx:Ext B W2) (hl:W.length<=W2.length):eV B W0 b K W2 {U with aj:=U.aj.set i (y,t) }:=by
 have m1:sB U.s2∈U.bl:=by simp[RV.bl]
 have m2:sB U.aj[i].2∈U.bl:=by simp only[RV.bl,X3,Ys];exact .inl (.inl (.inr ⟨_,Ya hi,rfl⟩))
 refine⟨s.bk.P8 hi hs ht hnt hk,hx,YI s.ln hl,λj hj=>?_,λj hj=>?_⟩
 ·obtain⟨h1,h2,h3⟩:=s.kl j hj;rw[hk j (YM h1 s.ln) (λz=>h3 (by rw[<-z];exact m1)) (λz=>h3 (by rw[<-z];exact m2))];exact s.kp j hj
 ·obtain⟨h1,h2,h3⟩:=s.kl j hj;refine⟨h1,h2,λhm=>?_⟩;rcases O3 hm with z|z
  ·exact h3 z
  ·have:=hnt j z;have:=s.ln;omega
end
def ow(k:Nat):ai:=((fn224).body.dr k).hd
def qy(k:Nat):ai:=(fn224).body.dr k
def Nt:qy 9=.seq (ow 9) .ret:=rfl
def Nu:qy 8=.seq (ow 8) (qy 9):=rfl
def Nv:qy 7=.seq (ow 7) (qy 8):=rfl
def Nw:qy 6=.seq (ow 6) (qy 7):=rfl
def Nx:qy 5=.seq (ow 5) (qy 6):=rfl
def Ny:qy 4=.seq (ow 4) (qy 5):=rfl
def Nz:qy 3=.seq (ow 3) (qy 4):=rfl
def NA:qy 2=.seq (ow 2) (qy 3):=rfl
def NB:qy 1=.seq (ow 1) (qy 2):=rfl
def NC:fn224=⟨100,1,[(2,some (some 7))],.seq (ow 0) (qy 1)⟩:=rfl
def kK:List AV:=[.i 0,.af,.af,.af,.af,.af,.af]
def QK(h:ah)(i:Nat):Prop:=i<h.length\/i=h.length+1
def wJ(h:ah)(r:ak)(W:ah)(U:RV):Prop:=eV h (h++[r]++[.b kK]) h.length (QK h) W U
def wJ.rb{h W r U}(s:wJ h r W U):W[h.length+1]? =some (.b kK):=by
 rw[eV.kp s _ (.inr rfl)];simp
def I0(h:ah)(V:RV):AV->ah->Prop:=λv h'=>Ext h h'/\∃V':RV,V'.an=V.an/\v=.agg V'.row/\cK h.length h' V'
section
variable {P:Program}(T:fI P) {h W:ah}{ts:TS}{V U:RV}{r:ak}
include T
def Qw(s:wJ h r W U)(hr:U.an=V.an)(hlen:ts.length=100)(t1:slot ts 1=.ptr h.length 0)(t2:slot ts 2=.ptr (h.length+1) 0):
  WC P bT (qy 9) [] ts W (FQ [(2,some (some 7))] (I0 h V)):=by
 have:=T.mix;rw[Nt];unfold ow fn224;simp only[ai.j,ai.s,ai.r,ai.dr,ai.tl,ai.hd];have lb:=@e9 _ _ _ s.bk.m;have sb:=@aL 7 (h.length+1) 0 (.agg U.row) (λz=>W[z]?) _ s.rb;have st:=@aC.st _ _ s.bk.o.ok;unfold kK at sb;rw[st]at sb;have hl:=(XT.1 s.rb).1;have gm:(W.set (h.length+1) (.b U.row))[h.length+1]? =some (.b U.row):=Yd hl
 repeat (first|simp (config:={maxSteps:=1000000}) only[aQ,aT,ba,bd,reduceAdd,reduceMul,reduceLeDiff,reduceEqDiff,bg,hlen,Yb,Yf,t1,t2,lb,sb,aE,aA gm]|simp (config:={maxSteps:=1000000}) (disch:=first|(simp only[XS,XX,X1]<;>omega)|rfl|omega|fail) only[eo,aQ,aT,ba,bd,reduceAdd,reduceMul,reduceLeDiff,reduceEqDiff,bg,hlen,Yb,Yf,t1,t2,lb,sb,aE,aA gm])
 refine⟨s.ex.iR Om,U,hr,rfl,s.bk.o.au λi hi=>?_⟩;have:i≠h.length+1:=λe=>(s.kl _ (.inr rfl)).2.2 (e▸hi)
 rw[Yc (Zk this)]
def ND(o:aC h V)(w:fk V.an)(hj:∀x∈V.aG,x.1.bp.length<=2^30)(s:wJ h r W U)(hr:U.an={V.an with aG:=V.an.aG.take 0})(hlen:ts.length=100)(t1:slot ts 1=.ptr h.length 0)(t2:slot ts 2=.ptr (h.length+1) 0)(t5:slot ts 5=V.s4):
  WC P bT (qy 8) [] ts W (FQ [(2,some (some 7))] (I0 h V)):=by
 have hL:V.aG.length<=16:=by have:=w.l4;simpa [RV.an]using this
 have hRl:V.an.aG.length=V.aG.length:=by simp[RV.an]
 rw[Nu];unfold ow fn224;simp only[ai.j,ai.s,ai.r,ai.dr,ai.tl,ai.hd];refine Rs (A3 t1 t2 t5) ?_;refine WL.inv T.mix (λm ts h'=>∃(k:Nat) (U:RV),k<=V.aG.length/\m=V.aG.length-k/\wJ h r h' U/\U.an={V.an with aG:=V.an.aG.take k}/\ts.length=100/\slot ts 1=.ptr h.length 0/\slot ts 2=.ptr (h.length+1) 0/\slot ts 5=V.s4/\slot ts 10=.i k) V.aG.length
  ⟨0,U,Om,rfl,s,hr,Sn,(Sq t1),(Sq t2),(Sq t5),iQ⟩ ?_
 clear t1 t2 t5 hlen s hr;rintro _ ts W ⟨k,U,hk,rfl,s,hr,hlen,t1,t2,t5,t10⟩;have oW:=o.ext s.ex;by_cases hlt:k<V.aG.length
 ·have e3:=fF hlt;have e5:=wrapN (n:=k) Om;have ix:=oW.i4.dM (kk:=.i64) hlt;obtain⟨y,hy⟩:∃y,y=V.aG[k]:=⟨_,rfl⟩;have SA:y∈V.aG:=by rw[hy];exact Ya _
  have ld:∀{k':ah},Ext W k'->ar (some 3) (cW V.s4 3 k) (λb=>k'[b]?)=some (.agg (bK y),.au):=λ{k'} e=>by rw[hy];exact oW.i4.kR hlt e
  have oy:=oW.e4 y SA;have Xb:=oy.one;unfold bK at ld;obtain⟨n,hn⟩:∃n,n=W.length:=⟨_,rfl⟩;refine Rs (A9 t1 t2 t5 t10 oW.i4.aM e3 ix @ld @Xb) ?_;refine WR.qo (N:=n+1) bh (by rw[hn];simp) (oy.ext Xx) (by have:=hj y SA;simp only[X2];omega) λt g f=>?_
  have p1:=f.a8.one;rw[<-hn];obtain⟨W3,Ra⟩:∃W3,W3=W++[ak.b [AV.str y.1.name,AV.str y.1.mod,y.2]]++[.b []]++g:=⟨_,rfl⟩;rw[<-Ra]at f ⊢;have Wx:Ext W W3:=by rw[Ra];exact Xx
  have l3:n+2<=W3.length:=by rw[Ra,hn];simp only[XS,XX,X1];omega
  have m3:W3[n]? =some (.b [AV.str y.1.name,AV.str y.1.mod,y.2]):=by rw[Ra,hn];exact(show Ext (W++[ak.b [AV.str y.1.name,AV.str y.1.mod,y.2]]) _ from Xx).some bh
  have VY:aW 1 (.ptr n 2) t (λz=>W3[z]?)=some (az,.set n (.b [AV.str y.1.name,AV.str y.1.mod,t])):=(aL m3).trans (bY p1 (by show 2+1<=3;omega));refine Rs (A6 t1 t2 t5 t10 @VY @p1) ?_;obtain⟨W4,RH⟩:∃W4,W4=W3.set n (.b [AV.str y.1.name,AV.str y.1.mod,t]):=⟨_,rfl⟩;rw[<-RH];have l4:W4.length=W3.length:=by rw[RH,YD]
  have k4:∀i,i≠n->W4[i]? =W3[i]? :=λi hi=>by rw[RH,Yc (Zk hi)]
  have m4:W4[n]? =some (.b [AV.str y.1.name,AV.str y.1.mod,t]):=by rw[RH,Yd Om]
  have e4:Ext W W4:=by rw[RH];exact Wx.iR Om
  have s4:wJ h r W4 U:=s.grow e4;have f4:Fr (n+1) W4 t 1 (y.1.bp.map aK):=f.aB λi hi=>k4 i (by have:=(f.bQ hi).1;omega)
  have lr:=@e9 _ _ _ s4.bk.m;have ln4:=@e9 _ _ _ m4;clear Wx m3 VY f RH Ra;refine Rs (A8 t1 t2 t5 t10 @lr @ln4 @fy @p1) ?_;have SW:U.aG.length<=16:=by
   have h1:U.an.aG.length=U.aG.length:=by simp[RV.an]
   exact z131
  obtain⟨z,hz⟩:∃z:List AV,z=bK (y.1,t):=⟨_,rfl⟩;have SJ:[AV.str y.1.name,AV.str y.1.mod,t]=z:=by rw[hz];rfl
  rw[SJ];have Xi:aH (W4++[ak.cells z true true]) (AV.slice W4.length 0 1 3) 3 [z]:=by
   exact JV
  refine WR.fQ (h0:=h) (cs:=U.aG.map bK) (ys:=[z]) ((s4.bk.o.i4).app _) Xi De Si (by simp only[X2,XX,X1];omega) (s4.ex.trans Xx) ?_;intro g' Q1 hff hkp;have hrow:U.aG.map bK++[z]=(U.aG++[(y.1,t)]).map bK:=by rw[X4,hz];rfl
  rw[hrow]at hff;rw[hrow];obtain⟨s',QQ⟩:∃s',s' =AV.slice (W4++[ak.cells z true true]).length 0 ((U.aG++[(y.1,t)]).map bK).length 3:=⟨_,rfl⟩;rw[<-QQ]at hff;rw[<-QQ];have SK:sB s' =some (W4.length+1):=by rw[QQ];simp[sB]
  have q1:s'.one=true:=by rw[QQ];rfl
  obtain⟨W5,Tk⟩:∃W5,W5=h++g':=⟨_,rfl⟩;rw[<-Tk]at Q1 hff hkp ⊢;have hk1:∀i,i<W4.length->sB U.s4≠some i->W5[i]? =W4[i]? :=λi hi hne=>by
   exact Mt
  have hl5:W4.length<=W5.length:=by rw[Q1];simp only[XS];omega
  have htb:∀i,sB t=some i->W.length<=i/\i<W4.length:=λi hi=>by have:=f4.bQ hi;omega
  have bW:∀i,sB t=some i->sB U.s4≠some i:=λi hi e=>by
   exact z85
  have f5:Fr h.length W5 t 1 (y.1.bp.map aK):=(f4.aB λi hi=>hk1 i (htb i hi).2 (bW i hi)).low (by have:=s.bk.lt;omega);have Ww:W.length<=W4.length:=e4.len;have s5:wJ h r (W5.set h.length (.b (U.row.set 5 s'))) {U with aG:=U.aG++[(y.1,t)],s4:=s'}:=
   s.p4 hff f5 (λi hi=>.inr (by rw[SK]at hi;cases hi;omega)) (λi hi=>⟨(htb i hi).1,λe=>by rw[SK]at e;cases e;have:=(htb _ hi).2;omega⟩) (λi hi hne=>(hk1 i Om hne).trans (e4.get hi)) (by rw[Tk];exact⟨_,rfl⟩) Om
  have mB:W5[h.length]? =some (.b U.row):=(hk1 _ s4.bk.lt (λz=>s4.bk.ne (by rw[<-z];simp[RV.bl]))).trans s4.bk.m;have Su:aW 1 (.ptr h.length 5) s' (λz=>W5[z]?)=some (az,.set h.length (.b (U.row.set 5 s'))):=(aL mB).trans (bY q1 (by show 5+1<=7;omega));refine Rs (A7 t1 t2 t5 t10 @Su q1 e5) ?_;refine⟨_,Om,k+1,_,Om,rfl,s5,?_,rfl⟩;have:V.an.aG.take (k+1)=V.an.aG.take k++[y.1]:=by
   exact ME
  rw[this];have hf:(U.aG++[(y.1,t)]).map Prod.fst=V.an.aG.take k++[y.1]:=by
   have h1:U.an.aG=V.an.aG.take k:=by rw[hr]
   rw[X4,<-h1];rfl
  have e:({U with aG:=U.aG++[(y.1,t)],s4:=s'}:RV).an={U.an with aG:=(U.aG++[(y.1,t)]).map Prod.fst}:=rfl;rw[e,hf,hr]
 ·have e3:decide ((k:Int)<V.aG.length)=false:=XU Om;have e4:k=V.aG.length:=Om
  rw[e4,<-hRl,Yz]at hr;refine Rs (A6 t1 t2 t5 t10 oW.i4.aM e3) ?_;refine Qw T s hr Sn (Sq t1) (Sq t2)
def NF(o:aC h V)(w:fk V.an)(hm:∀x∈V.aD,x.1.bu.length<=2^30)(hj:∀x∈V.aG,x.1.bp.length<=2^30)(s:wJ h r W U)(hr:U.an={V.an with aD:=V.an.aD.take 0,aG:=[] })(hlen:ts.length=100)(t1:slot ts 1=.ptr h.length 0)(t2:slot ts 2=.ptr (h.length+1) 0)(t4:slot ts 4=V.s3)(t5:slot ts 5=V.s4):
  WC P bT (qy 7) [] ts W (FQ [(2,some (some 7))] (I0 h V)):=by
 have hL:V.aD.length<=32:=by have:=w.l3;simpa [RV.an]using this
 have hRl:V.an.aD.length=V.aD.length:=by simp[RV.an]
 rw[Nv];unfold ow fn224;simp only[ai.j,ai.s,ai.r,ai.dr,ai.tl,ai.hd];refine Rs (A3 t1 t2 t4) ?_;refine WL.inv T.mix (λm ts h'=>∃(k:Nat) (U:RV),k<=V.aD.length/\m=V.aD.length-k/\wJ h r h' U/\U.an={V.an with aD:=V.an.aD.take k,aG:=[] }/\ts.length=100/\slot ts 1=.ptr h.length 0/\slot ts 2=.ptr (h.length+1) 0/\slot ts 4=V.s3/\slot ts 5=V.s4/\slot ts 8=.i k) V.aD.length
  ⟨0,U,Om,rfl,s,hr,Sn,(Sq t1),(Sq t2),(Sq t4),(Sq t5),iQ⟩ ?_
 clear t1 t2 t4 t5 hlen s hr;rintro _ ts W ⟨k,U,hk,rfl,s,hr,hlen,t1,t2,t4,t5,t8⟩;have oW:=o.ext s.ex;by_cases hlt:k<V.aD.length
 ·have e3:=fF hlt;have e5:=wrapN (n:=k) Om;have ix:=oW.i3.dM (kk:=.i64) hlt;obtain⟨y,hy⟩:∃y,y=V.aD[k]:=⟨_,rfl⟩;have SA:y∈V.aD:=by rw[hy];exact Ya _
  have ld:∀{k':ah},Ext W k'->ar (some 4) (cW V.s3 4 k) (λb=>k'[b]?)=some (.agg (aV y),.au):=λ{k'} e=>by rw[hy];exact oW.i3.kR hlt e
  have oy:=oW.e3 y SA;have Xb:=oy.one;unfold aV at ld;obtain⟨n,hn⟩:∃n,n=W.length:=⟨_,rfl⟩;refine Rs (o8 t1 t2 t4 t5 t8 oW.i3.aM e3 ix @ld @Xb) ?_;refine WR.qo (N:=n+1) bh (by rw[hn];simp) (oy.ext Xx) (by have:=hm y SA;simp only[X2];omega) λt g f=>?_
  have p1:=f.a8.one;rw[<-hn];obtain⟨W3,Ra⟩:∃W3,W3=W++[ak.b [AV.str y.1.name,AV.str y.1.gives,AV.str y.1.line,y.2]]++[.b []]++g:=⟨_,rfl⟩;rw[<-Ra]at f ⊢;have Wx:Ext W W3:=by rw[Ra];exact Xx
  have l3:n+2<=W3.length:=by rw[Ra,hn];simp only[XS,XX,X1];omega
  have m3:W3[n]? =some (.b [AV.str y.1.name,AV.str y.1.gives,AV.str y.1.line,y.2]):=by rw[Ra,hn];exact(show Ext (W++[ak.b [AV.str y.1.name,AV.str y.1.gives,AV.str y.1.line,y.2]]) _ from Xx).some bh
  have VY:aW 1 (.ptr n 3) t (λz=>W3[z]?)=some (az,.set n (.b [AV.str y.1.name,AV.str y.1.gives,AV.str y.1.line,t])):=(aL m3).trans (bY p1 (by show 3+1<=4;omega));refine Rs (A7 t1 t2 t4 t5 t8 @VY @p1) ?_;obtain⟨W4,RH⟩:∃W4,W4=W3.set n (.b [AV.str y.1.name,AV.str y.1.gives,AV.str y.1.line,t]):=⟨_,rfl⟩;rw[<-RH];have l4:W4.length=W3.length:=by rw[RH,YD]
  have k4:∀i,i≠n->W4[i]? =W3[i]? :=λi hi=>by rw[RH,Yc (Zk hi)]
  have m4:W4[n]? =some (.b [AV.str y.1.name,AV.str y.1.gives,AV.str y.1.line,t]):=by rw[RH,Yd Om]
  have e4:Ext W W4:=by rw[RH];exact Wx.iR Om
  have s4:wJ h r W4 U:=s.grow e4;have f4:Fr (n+1) W4 t 1 (y.1.bu.map ao):=f.aB λi hi=>k4 i (by have:=(f.bQ hi).1;omega)
  have lr:=@e9 _ _ _ s4.bk.m;have ln4:=@e9 _ _ _ m4;clear Wx m3 VY f RH Ra;refine Rs (A9 t1 t2 t4 t5 t8 @lr @ln4 @fS @p1) ?_;have SW:U.aD.length<=32:=by
   have h1:U.an.aD.length=U.aD.length:=by simp[RV.an]
   exact z131
  obtain⟨z,hz⟩:∃z:List AV,z=aV (y.1,t):=⟨_,rfl⟩;have SJ:[AV.str y.1.name,AV.str y.1.gives,AV.str y.1.line,t]=z:=by rw[hz];rfl
  rw[SJ];have Xi:aH (W4++[ak.cells z true true]) (AV.slice W4.length 0 1 4) 4 [z]:=by
   have:=(Fr.push (N:=0) (es:=4) (h:=W4) (Yt _) [z] (λx hx=>by rw[Yl]at hx;rw[hx,hz];rfl)).a8
   simpa using this
  refine WR.fQ (h0:=h) (cs:=U.aD.map aV) (ys:=[z]) ((s4.bk.o.i3).app _) Xi De Si (by simp only[X2,XX,X1];omega) (s4.ex.trans Xx) ?_;intro g' Q1 hff hkp;have hrow:U.aD.map aV++[z]=(U.aD++[(y.1,t)]).map aV:=by rw[X4,hz];rfl
  rw[hrow]at hff;rw[hrow];obtain⟨s',QQ⟩:∃s',s' =AV.slice (W4++[ak.cells z true true]).length 0 ((U.aD++[(y.1,t)]).map aV).length 4:=⟨_,rfl⟩;rw[<-QQ]at hff;rw[<-QQ];have SK:sB s' =some (W4.length+1):=by rw[QQ];simp[sB]
  have q1:s'.one=true:=by rw[QQ];rfl
  obtain⟨W5,Tk⟩:∃W5,W5=h++g':=⟨_,rfl⟩;rw[<-Tk]at Q1 hff hkp ⊢;have hk1:∀i,i<W4.length->sB U.s3≠some i->W5[i]? =W4[i]? :=λi hi hne=>by
   exact Mt
  have hl5:W4.length<=W5.length:=by rw[Q1];simp only[XS];omega
  have htb:∀i,sB t=some i->W.length<=i/\i<W4.length:=λi hi=>by have:=f4.bQ hi;omega
  have bW:∀i,sB t=some i->sB U.s3≠some i:=λi hi e=>by
   exact z85
  have f5:Fr h.length W5 t 1 (y.1.bu.map ao):=(f4.aB λi hi=>hk1 i (htb i hi).2 (bW i hi)).low (by have:=s.bk.lt;omega);have Ww:W.length<=W4.length:=e4.len;have s5:wJ h r (W5.set h.length (.b (U.row.set 4 s'))) {U with aD:=U.aD++[(y.1,t)],s3:=s'}:=
   s.p3 hff f5 (λi hi=>.inr (by rw[SK]at hi;cases hi;omega)) (λi hi=>⟨(htb i hi).1,λe=>by rw[SK]at e;cases e;have:=(htb _ hi).2;omega⟩) (λi hi hne=>(hk1 i Om hne).trans (e4.get hi)) (by rw[Tk];exact⟨_,rfl⟩) Om
  have mB:W5[h.length]? =some (.b U.row):=(hk1 _ s4.bk.lt (λz=>s4.bk.ne (by rw[<-z];simp[RV.bl]))).trans s4.bk.m;have Su:aW 1 (.ptr h.length 4) s' (λz=>W5[z]?)=some (az,.set h.length (.b (U.row.set 4 s'))):=(aL mB).trans (bY q1 (by show 4+1<=7;omega));refine Rs (A8 t1 t2 t4 t5 t8 @Su q1 e5) ?_;refine⟨_,Om,k+1,_,Om,rfl,s5,?_,rfl⟩;have:V.an.aD.take (k+1)=V.an.aD.take k++[y.1]:=by
   exact ME
  rw[this];have hf:(U.aD++[(y.1,t)]).map Prod.fst=V.an.aD.take k++[y.1]:=by
   have h1:U.an.aD=V.an.aD.take k:=by rw[hr]
   rw[X4,<-h1];rfl
  have e:({U with aD:=U.aD++[(y.1,t)],s3:=s'}:RV).an={U.an with aD:=(U.aD++[(y.1,t)]).map Prod.fst}:=rfl;rw[e,hf,hr]
 ·have e3:decide ((k:Int)<V.aD.length)=false:=XU Om;have e4:k=V.aD.length:=Om
  rw[e4,<-hRl,Yz]at hr;refine Rs (A7 t1 t2 t4 t5 t8 oW.i3.aM e3) ?_;refine ND T o w hj s hr Sn (Sq t1) (Sq t2) (Sq t5)
def NG(o:aC h V)(w:fk V.an)(hs:∀x∈V.aj,x.1.aJ.length<=2^30)(hm:∀x∈V.aD,x.1.bu.length<=2^30)(hj:∀x∈V.aG,x.1.bp.length<=2^30)(s:wJ h r W U)(hr:U.an={V.an with aj:=V.an.aj.take 0,aD:=[],aG:=[] })(hlen:ts.length=100)(t1:slot ts 1=.ptr h.length 0)(t2:slot ts 2=.ptr (h.length+1) 0)(t3:slot ts 3=V.s2)(t4:slot ts 4=V.s3)(t5:slot ts 5=V.s4):
  WC P bT (qy 6) [] ts W (FQ [(2,some (some 7))] (I0 h V)):=by
 have hL:V.aj.length<=64:=by have:=w.l2;simpa [RV.an]using this
 have hRl:V.an.aj.length=V.aj.length:=by simp[RV.an]
 rw[Nw];unfold ow fn224;simp only[ai.j,ai.s,ai.r,ai.dr,ai.tl,ai.hd];refine Rs (A3 t1 t2 t3) ?_;refine WL.inv T.mix (λm ts h'=>∃(k:Nat) (U:RV),k<=V.aj.length/\m=V.aj.length-k/\wJ h r h' U/\U.an={V.an with aj:=V.an.aj.take k,aD:=[],aG:=[] }/\ts.length=100/\slot ts 1=.ptr h.length 0/\slot ts 2=.ptr (h.length+1) 0/\slot ts 3=V.s2/\slot ts 4=V.s3/\slot ts 5=V.s4/\slot ts 6=.i k) V.aj.length
  ⟨0,U,Om,rfl,s,hr,Sn,(Sq t1),(Sq t2),(Sq t3),(Sq t4),(Sq t5),iQ⟩ ?_
 clear t1 t2 t3 t4 t5 hlen s hr;rintro _ ts W ⟨k,U,hk,rfl,s,hr,hlen,t1,t2,t3,t4,t5,t6⟩;have oW:=o.ext s.ex;by_cases hlt:k<V.aj.length
 ·have e3:=fF hlt;have e5:=wrapN (n:=k) Om;have ix:=oW.i2.dM (kk:=.i64) hlt;obtain⟨y,hy⟩:∃y,y=V.aj[k]:=⟨_,rfl⟩;have SA:y∈V.aj:=by rw[hy];exact Ya _
  have ld:∀{k':ah},Ext W k'->ar (some 3) (cW V.s2 3 k) (λb=>k'[b]?)=some (.agg (bn y),.au):=λ{k'} e=>by rw[hy];exact oW.i2.kR hlt e
  have oy:=oW.e2 y SA;have Xb:=oy.one;unfold bn at ld;obtain⟨n,hn⟩:∃n,n=W.length:=⟨_,rfl⟩;refine Rs (pa t1 t2 t3 t4 t5 t6 oW.i2.aM e3 ix @ld @Xb) ?_;refine WR.qo (N:=n+1) bh (by rw[hn];simp) (oy.ext Xx) (by have:=hs y SA;simp only[X2];omega) λt g f=>?_
  have p1:=f.a8.one;rw[<-hn];obtain⟨W3,Ra⟩:∃W3,W3=W++[ak.b [AV.str y.1.name,AV.str y.1.line,y.2]]++[.b []]++g:=⟨_,rfl⟩;rw[<-Ra]at f ⊢;have Wx:Ext W W3:=by rw[Ra];exact Xx
  have l3:n+2<=W3.length:=by rw[Ra,hn];simp only[XS,XX,X1];omega
  have m3:W3[n]? =some (.b [AV.str y.1.name,AV.str y.1.line,y.2]):=by rw[Ra,hn];exact(show Ext (W++[ak.b [AV.str y.1.name,AV.str y.1.line,y.2]]) _ from Xx).some bh
  have VY:aW 1 (.ptr n 2) t (λz=>W3[z]?)=some (az,.set n (.b [AV.str y.1.name,AV.str y.1.line,t])):=(aL m3).trans (bY p1 (by show 2+1<=3;omega));refine Rs (A8 t1 t2 t3 t4 t5 t6 @VY @p1) ?_;obtain⟨W4,RH⟩:∃W4,W4=W3.set n (.b [AV.str y.1.name,AV.str y.1.line,t]):=⟨_,rfl⟩;rw[<-RH];have l4:W4.length=W3.length:=by rw[RH,YD]
  have k4:∀i,i≠n->W4[i]? =W3[i]? :=λi hi=>by rw[RH,Yc (Zk hi)]
  have m4:W4[n]? =some (.b [AV.str y.1.name,AV.str y.1.line,t]):=by rw[RH,Yd Om]
  have e4:Ext W W4:=by rw[RH];exact Wx.iR Om
  have s4:wJ h r W4 U:=s.grow e4;have f4:Fr (n+1) W4 t 1 (y.1.aJ.map ao):=f.aB λi hi=>k4 i (by have:=(f.bQ hi).1;omega)
  have lr:=@e9 _ _ _ s4.bk.m;have ln4:=@e9 _ _ _ m4;clear Wx m3 VY f RH Ra;refine Rs (o8 t1 t2 t3 t4 t5 t6 @lr @ln4 @fK @p1) ?_;have SW:U.aj.length<=64:=by
   have h1:U.an.aj.length=U.aj.length:=by simp[RV.an]
   exact z131
  obtain⟨z,hz⟩:∃z:List AV,z=bn (y.1,t):=⟨_,rfl⟩;have SJ:[AV.str y.1.name,AV.str y.1.line,t]=z:=by rw[hz];rfl
  rw[SJ];have Xi:aH (W4++[ak.cells z true true]) (AV.slice W4.length 0 1 3) 3 [z]:=by
   exact JV
  refine WR.fQ (h0:=h) (cs:=U.aj.map bn) (ys:=[z]) ((s4.bk.o.i2).app _) Xi De Si (by simp only[X2,XX,X1];omega) (s4.ex.trans Xx) ?_;intro g' Q1 hff hkp;have hrow:U.aj.map bn++[z]=(U.aj++[(y.1,t)]).map bn:=by rw[X4,hz];rfl
  rw[hrow]at hff;rw[hrow];obtain⟨s',QQ⟩:∃s',s' =AV.slice (W4++[ak.cells z true true]).length 0 ((U.aj++[(y.1,t)]).map bn).length 3:=⟨_,rfl⟩;rw[<-QQ]at hff;rw[<-QQ];have SK:sB s' =some (W4.length+1):=by rw[QQ];simp[sB]
  have q1:s'.one=true:=by rw[QQ];rfl
  obtain⟨W5,Tk⟩:∃W5,W5=h++g':=⟨_,rfl⟩;rw[<-Tk]at Q1 hff hkp ⊢;have hk1:∀i,i<W4.length->sB U.s2≠some i->W5[i]? =W4[i]? :=λi hi hne=>by
   exact Mt
  have hl5:W4.length<=W5.length:=by rw[Q1];simp only[XS];omega
  have htb:∀i,sB t=some i->W.length<=i/\i<W4.length:=λi hi=>by have:=f4.bQ hi;omega
  have bW:∀i,sB t=some i->sB U.s2≠some i:=λi hi e=>by
   exact z85
  have f5:Fr h.length W5 t 1 (y.1.aJ.map ao):=(f4.aB λi hi=>hk1 i (htb i hi).2 (bW i hi)).low (by have:=s.bk.lt;omega);have Ww:W.length<=W4.length:=e4.len;have s5:wJ h r (W5.set h.length (.b (U.row.set 3 s'))) {U with aj:=U.aj++[(y.1,t)],s2:=s'}:=
   s.p2 hff f5 (λi hi=>.inr (by rw[SK]at hi;cases hi;omega)) (λi hi=>⟨(htb i hi).1,λe=>by rw[SK]at e;cases e;have:=(htb _ hi).2;omega⟩) (λi hi hne=>(hk1 i Om hne).trans (e4.get hi)) (by rw[Tk];exact⟨_,rfl⟩) Om
  have mB:W5[h.length]? =some (.b U.row):=(hk1 _ s4.bk.lt (λz=>s4.bk.ne (by rw[<-z];simp[RV.bl]))).trans s4.bk.m;have Su:aW 1 (.ptr h.length 3) s' (λz=>W5[z]?)=some (az,.set h.length (.b (U.row.set 3 s'))):=(aL mB).trans (bY q1 (by show 3+1<=7;omega));refine Rs (A9 t1 t2 t3 t4 t5 t6 @Su q1 e5) ?_;refine⟨_,Om,k+1,_,Om,rfl,s5,?_,rfl⟩;have:V.an.aj.take (k+1)=V.an.aj.take k++[y.1]:=by
   exact ME
  rw[this];have hf:(U.aj++[(y.1,t)]).map Prod.fst=V.an.aj.take k++[y.1]:=by
   have h1:U.an.aj=V.an.aj.take k:=by rw[hr]
   rw[X4,<-h1];rfl
  have e:({U with aj:=U.aj++[(y.1,t)],s2:=s'}:RV).an={U.an with aj:=(U.aj++[(y.1,t)]).map Prod.fst}:=rfl;rw[e,hf,hr]
 ·have e3:decide ((k:Int)<V.aj.length)=false:=XU Om;have e4:k=V.aj.length:=Om
  rw[e4,<-hRl,Yz]at hr;refine Rs (A8 t1 t2 t3 t4 t5 t6 oW.i2.aM e3) ?_;refine NF T o w hm hj s hr Sn (Sq t1) (Sq t2) (Sq t4) (Sq t5)
def NH(o:aC h V)(w:fk V.an)(hs:∀x∈V.aj,x.1.aJ.length<=2^30)(hm:∀x∈V.aD,x.1.bu.length<=2^30)(hj:∀x∈V.aG,x.1.bp.length<=2^30)
  {W0}(hW0:W0=h++[.b V.row]++[.b kK]) (hlen:ts.length=100) (t1:slot ts 1=.ptr h.length 0) (t2:slot ts 2=.ptr (h.length+1) 0):
  WC P bT (qy 1) [] ts W0 (FQ [(2,some (some 7))] (I0 h V)):=by
 have nb0:V.lines.length<=16:=w.l0;have nb5:V.aO.length<=16:=w.l5;have nb1:V.aJ.length<=16:=w.l1;have o0:=o.i0.one;have o1:=o.i1.one;have o2:=o.i2.one;have o3:=o.i3.one;have o4:=o.i4.one;have o5:=o.i5.one;have m0:W0[h.length]? =some (.b [AV.i V.tick,V.s0,V.s1,V.s2,V.s3,V.s4,V.s5]):=by rw[hW0];simp;rfl
 have z0:W0[h.length+1]? =some (.b kK):=by rw[hW0];simp
 have e0:Ext h W0:=by rw[hW0];exact Xx
 rw[NB,NA,Nz,Ny,Nx];unfold ow fn224;simp only[ai.j,ai.s,ai.r,ai.dr,ai.tl,ai.hd];obtain⟨n0,Vb⟩:∃n,n=W0.length:=⟨_,rfl⟩;have lr0:=@e9 _ _ _ m0;refine Rs (A4 t1 t2 @lr0 @o0) ?_;refine WR.qo (N:=n0) (w:=32) bh (Nat.le_of_eq Vb) ((o.i0.ext e0).ext Xx) (by simp only[X2];omega) λa0 g0 f0=>?_
 have p0:=f0.a8.one;obtain⟨Y0,hY0⟩:∃Y,Y=W0++[ak.b []]++g0:=⟨_,rfl⟩;rw[<-hY0]at f0 ⊢;have eY0:Ext W0 Y0:=by rw[hY0];exact Xx
 have sb0:aW 1 (.ptr h.length 1) a0 (λz=>Y0[z]?)=some (az,.set h.length (.b [AV.i V.tick,a0,V.s1,V.s2,V.s3,V.s4,V.s5])):=(aL (eY0.some m0)).trans (bY p0 (by show 1+1<=7;omega));refine Rs (A4 t1 t2 @sb0 @p0) ?_;obtain⟨W1,TE⟩:∃W,W=Y0.set h.length (.b [AV.i V.tick,a0,V.s1,V.s2,V.s3,V.s4,V.s5]):=⟨_,rfl⟩;rw[<-TE];have l1:W0.length<=W1.length:=by rw[TE,YD];exact eY0.len
 have k1:∀i,i<W0.length->i≠h.length->W1[i]? =W0[i]? :=λi hi hne=>by rw[TE,Yc (Zk hne),eY0.get hi]
 have m1:W1[h.length]? =some (.b [AV.i V.tick,a0,V.s1,V.s2,V.s3,V.s4,V.s5]):=by rw[TE,Yd (by have:=eY0.len;have:=(XT.1 m0).1;omega)]
 have e1:Ext h W1:=by rw[TE];exact(e0.trans eY0).iR (X8 _)
 have z1:W1[h.length+1]? =some (.b kK):=(k1 _ (XT.1 z0).1 Om).trans z0;have c0:Fr n0 W1 a0 3 (V.lines.map cB):=f0.aB λi hi=>by
  have:=(f0.bQ hi).1;have:=(XT.1 z0).1;rw[TE,Yc Om]
 clear f0 sb0 lr0;obtain⟨n1,hn1⟩:∃n,n=W1.length:=⟨_,rfl⟩;have lr1:=@e9 _ _ _ m1;refine Rs (A4 t1 t2 @lr1 @o1) ?_;refine WR.qo (N:=n1) (w:=24) bh (Nat.le_of_eq hn1) ((o.i1.ext e1).ext Xx) (by simp only[X2];omega) λa1 g1 f1=>?_
 have p1:=f1.a8.one;obtain⟨Y1,US⟩:∃Y,Y=W1++[ak.b []]++g1:=⟨_,rfl⟩;rw[<-US]at f1 ⊢;have eY1:Ext W1 Y1:=by rw[US];exact Xx
 have sb1:aW 1 (.ptr h.length 2) a1 (λz=>Y1[z]?)=some (az,.set h.length (.b [AV.i V.tick,a0,a1,V.s2,V.s3,V.s4,V.s5])):=(aL (eY1.some m1)).trans (bY p1 (by show 2+1<=7;omega));refine Rs (A4 t1 t2 @sb1 @p1) ?_;obtain⟨W2,Rt⟩:∃W,W=Y1.set h.length (.b [AV.i V.tick,a0,a1,V.s2,V.s3,V.s4,V.s5]):=⟨_,rfl⟩;rw[<-Rt];have l2:W1.length<=W2.length:=by rw[Rt,YD];exact eY1.len
 have k2:∀i,i<W1.length->i≠h.length->W2[i]? =W1[i]? :=λi hi hne=>by rw[Rt,Yc (Zk hne),eY1.get hi]
 have m2:W2[h.length]? =some (.b [AV.i V.tick,a0,a1,V.s2,V.s3,V.s4,V.s5]):=by rw[Rt,Yd (by have:=eY1.len;have:=(XT.1 m1).1;omega)]
 have e2:Ext h W2:=by rw[Rt];exact(e1.trans eY1).iR (X8 _)
 have z2:W2[h.length+1]? =some (.b kK):=(k2 _ (XT.1 z1).1 Om).trans z1;have c1:Fr n1 W2 a1 2 (V.aJ.map dV):=f1.aB λi hi=>by
  have:=(f1.bQ hi).1;have:=(XT.1 z1).1;rw[Rt,Yc Om]
 clear f1 sb1 lr1;obtain⟨n2,hn2⟩:∃n,n=W2.length:=⟨_,rfl⟩;have lr2:=@e9 _ _ _ m2;refine Rs (A4 t1 t2 @lr2 @o5) ?_;refine WR.qo (N:=n2) (w:=48) bh (Nat.le_of_eq hn2) ((o.i5.ext e2).ext Xx) (by simp only[X2];omega) λa5 g2 f5=>?_
 have p5:=f5.a8.one;obtain⟨Y2,Tj⟩:∃Y,Y=W2++[ak.b []]++g2:=⟨_,rfl⟩;rw[<-Tj]at f5 ⊢;have TI:Ext W2 Y2:=by rw[Tj];exact Xx
 have sb2:aW 1 (.ptr h.length 6) a5 (λz=>Y2[z]?)=some (az,.set h.length (.b [AV.i V.tick,a0,a1,V.s2,V.s3,V.s4,a5])):=(aL (TI.some m2)).trans (bY p5 (by show 6+1<=7;omega));refine Rs (A4 t1 t2 @sb2 @p5) ?_;obtain⟨W3,Ra⟩:∃W,W=Y2.set h.length (.b [AV.i V.tick,a0,a1,V.s2,V.s3,V.s4,a5]):=⟨_,rfl⟩;rw[<-Ra];have l3:W2.length<=W3.length:=by rw[Ra,YD];exact TI.len
 have k3:∀i,i<W2.length->i≠h.length->W3[i]? =W2[i]? :=λi hi hne=>by rw[Ra,Yc (Zk hne),TI.get hi]
 have m3:W3[h.length]? =some (.b [AV.i V.tick,a0,a1,V.s2,V.s3,V.s4,a5]):=by rw[Ra,Yd (by have:=TI.len;have:=(XT.1 m2).1;omega)]
 have e3:Ext h W3:=by rw[Ra];exact(e2.trans TI).iR (X8 _)
 have z3:W3[h.length+1]? =some (.b kK):=(k3 _ (XT.1 z2).1 Om).trans z2;have c5:Fr n2 W3 a5 4 (V.aO.map dm):=f5.aB λi hi=>by
  have:=(f5.bQ hi).1;have:=(XT.1 z2).1;rw[Ra,Yc Om]
 clear f5 sb2 lr2;have lr3:=@e9 _ _ _ m3;have T3:=(XT.1 m3).1;have s3:aW 1 (.ptr h.length 3) .af (λz=>W3[z]?)=some (az,.set h.length (.b [AV.i V.tick,a0,a1,.af,V.s3,V.s4,a5])):=(aL m3).trans (bY rfl (by show 3+1<=7;omega));have m4:(W3.set h.length (.b [AV.i V.tick,a0,a1,.af,V.s3,V.s4,a5]))[h.length]? =some (.b [AV.i V.tick,a0,a1,.af,V.s3,V.s4,a5]):=Yd T3;have s4:aW 1 (.ptr h.length 4) .af (λz=>(W3.set h.length (.b [AV.i V.tick,a0,a1,.af,V.s3,V.s4,a5]))[z]?)=some (az,.set h.length (.b [AV.i V.tick,a0,a1,.af,.af,V.s4,a5])):=(aL m4).trans (bY rfl (by show 4+1<=7;omega));have m5:((W3.set h.length (.b [AV.i V.tick,a0,a1,.af,V.s3,V.s4,a5])).set h.length (.b [AV.i V.tick,a0,a1,.af,.af,V.s4,a5]))[h.length]? =some (.b [AV.i V.tick,a0,a1,.af,.af,V.s4,a5]):=Yd (by rw[YD];exact T3)
 have s5:aW 1 (.ptr h.length 5) .af (λz=>((W3.set h.length (.b [AV.i V.tick,a0,a1,.af,V.s3,V.s4,a5])).set h.length (.b [AV.i V.tick,a0,a1,.af,.af,V.s4,a5]))[z]?)=some (az,.set h.length (.b [AV.i V.tick,a0,a1,.af,.af,.af,a5])):=(aL m5).trans (bY rfl (by show 5+1<=7;omega));obtain⟨W6,SD⟩:∃W,W=W3.set h.length (.b [AV.i V.tick,a0,a1,.af,.af,.af,a5]):=⟨_,rfl⟩;have k6:∀i,i≠h.length->W6[i]? =W3[i]? :=λi hi=>by rw[SD,Yc (Zk hi)]
 have m6:W6[h.length]? =some (.b [AV.i V.tick,a0,a1,.af,.af,.af,a5]):=by rw[SD,Yd T3]
 have l0:n0=h.length+2:=by rw[Vb,hW0];simp
 have r0:∀i,sB a0=some i->n0<=i/\i<W1.length:=λi hi=>c0.bQ hi
 have r1:∀i,sB a1=some i->n1<=i/\i<W2.length:=λi hi=>c1.bQ hi
 have r5:∀i,sB a5=some i->n2<=i/\i<W3.length:=λi hi=>c5.bQ hi
 have fa0:Fr h.length W6 a0 3 (V.lines.map cB):=(c0.aB λi hi=>by
  have:=r0 i hi;rw[k6 i Om,k3 i Om Om,k2 i Om Om]).low Om
 have fa1:Fr h.length W6 a1 2 (V.aJ.map dV):=(c1.aB λi hi=>by
  have:=r1 i hi;rw[k6 i Om,k3 i Om Om]).low Om
 have fa5:Fr h.length W6 a5 4 (V.aO.map dm):=(c5.aB λi hi=>by
  have:=r5 i hi;rw[k6 i Om]).low Om
 obtain⟨U,hU⟩:∃U:RV,U=⟨V.tick,V.lines,V.aJ,[],[],[],V.aO,a0,a1,.af,.af,.af,a5⟩:=⟨_,rfl⟩;have hbl:U.bl=[sB a0,sB a1,none,none,none,sB a5]:=by rw[hU];rfl
 have hlo:∀i,some i∈U.bl->h.length+2<=i:=λi hi=>by
  rw[hbl]at hi;simp only[YA,YT,Zz,reduceCtorEq,false_or]at hi;rcases hi with hi|hi|hi
  ·have:=r0 i hi.symm;omega
  ·have:=r1 i hi.symm;omega
  ·have:=r5 i hi.symm;omega
 have RF:lh U.bl:=by
  rw[hbl];refine YV.2 ⟨λy hy b hb e=>?_,YV.2 ⟨λy hy b hb e=>?_,YV.2 ⟨(λy hy b hb e=>by cases hb),YV.2 ⟨(λy hy b hb e=>by cases hb),YV.2 ⟨(λy hy b hb e=>by cases hb),Zy _ _⟩⟩⟩⟩⟩
  ·have h1:=r0 b hb;subst e;simp only[YA,YT,Zz,reduceCtorEq,false_or]at hy;rcases hy with hy|hy
   ·have:=r1 b hy.symm;omega
   ·have:=r5 b hy.symm;omega
  ·have h1:=r1 b hb;subst e;simp only[YA,YT,Zz,reduceCtorEq,false_or]at hy;have:=r5 b hy.symm;omega
 have own:cK h.length W6 U:=by
  rw[hU]at RF ⊢;exact⟨fa0,fa1,.nil,.nil,.nil,fa5,(λx hx=>by cases hx),(λx hx=>by cases hx),(λx hx=>by cases hx),RF⟩
 have s:wJ h (.b V.row) W6 U:=by
  refine⟨⟨own,X8 _,by rw[hU];exact m6,λhi=>by have:=hlo _ hi;omega⟩,by rw[SD];exact e3.iR (X8 _),by rw[<-hW0,SD,YD];omega,λi hi=>?_,λi hi=>⟨?_,?_,λhm=>?_⟩⟩
  ·have:i≠h.length/\i<W0.length:=by rcases hi with hi|hi<;>omega
   rw[<-hW0,k6 i this.1,k3 i Om this.1,k2 i Om this.1,k1 i Om this.1]
  ·simp only[XS,XX,X1];rcases hi with hi|hi<;>omega
  ·rcases hi with hi|hi<;>omega
  ·have:=hlo _ hm;rcases hi with hi|hi<;>omega
 clear c0 c1 c5 fa0 fa1 fa5 own RF;refine Rs (A9 t1 t2 @lr3 @o2 @o3 @o4 @s3 @s4 @s5) ?_;have aT:((W3.set h.length (.b [AV.i V.tick,a0,a1,.af,V.s3,V.s4,a5])).set h.length (.b [AV.i V.tick,a0,a1,.af,.af,V.s4,a5])).set h.length (.b [AV.i V.tick,a0,a1,.af,.af,.af,a5])=W6:=by rw[SD,List.set_set,List.set_set]
 rw[aT];exact NG T o w hs hm hj s (by rw[hU];rfl) Sn (Sq t1) (Sq t2) Sw Sw Sw
def r224(o:aC h V)(w:fk V.an):ay P 224 [.agg V.row] h (λv h'=>∃V':RV,V'.an=V.an/\v=.agg V'.row/\cK h.length h' V'):=by
 have i:=w.yT;have hs:∀x∈V.aj,x.1.aJ.length<=2^30:=λx hx=>by have:=(i.sh x hx).2;omega
 have hm:∀x∈V.aD,x.1.bu.length<=2^30:=λx hx=>by have:=(w.md x.1 (Ym hx)).2.1;omega
 have hj:∀x∈V.aG,x.1.bp.length<=2^30:=λx hx=>by have:=(w.jb x.1 (Ym hx)).2.2.1;omega
 refine .of T.mix (aaw T.c224 (Yx some NC)) ?_;obtain⟨ts,QP⟩:∃ts,ts=aU 100 [.agg V.row]:=⟨_,rfl⟩;have hlen:ts.length=100:=by rw[QP];rfl
 have t0:slot ts 0=.agg V.row:=by rw[QP];rfl
 show WC P bT (.seq (ow 0) (qy 1)) [] (aU 100 [.agg V.row]) h (FQ [(2,some (some 7))] (I0 h V));rw[<-QP];clear QP;have QO:=@aC.box _ _ o;unfold ow fn224;simp only[ai.j,ai.s,ai.r,ai.dr,ai.tl,ai.hd];refine Rs (A2 t0 @QO) ?_;refine NH T o w hs hm hj rfl Sn Sw (by simp only[aQ,aT,ba,bd,reduceAdd,reduceMul,reduceLeDiff,reduceEqDiff,bg,hlen,Yb,Yf];simp)
end
end Go.Abs
namespace Go.Abs
def QJ(X:ah)(V:RV)(i:Nat):Prop:=(i<X.length/\some i∉V.bl)\/i=X.length+1\/i=X.length+2
def cH(B X:ah)(x:EV)(V:RV)(W:ah)(U:RV):Prop:=
 eV B (X++[.b V.row]++[.b x.row]++[.b kK]) X.length (QJ X V) W U
def rT(B X:ah)(V:RV)(c:Int)(R':gx):AV->ah->Prop:=λv k=>
 Ext B k/\X.length<=k.length/\(∀i,i<X.length->some i∉V.bl->k[i]? =X[i]?)/\∃V':RV,v=.dN [.agg V'.row,.i c]/\cK B.length k V'/\(c=0->V'.an=R')/\∀i,some i∈V'.bl->some i∈V.bl\/X.length<=i
section
variable {B X W:ah}{x:EV}{V U:RV}(s:cH B X x V W U)
include s
def cH.lr{k n a}(e:Ext W k):ar n (.ptr X.length a) (λz=>k[z]?)=dJ n a (.b U.row):=aA (e.some s.bk.m)
def cH.Lw:W[X.length+1]? =some (.b x.row):=by rw[eV.kp s _ (.inr (.inl rfl))];simp
def cH.Lv:W[X.length+2]? =some (.b kK):=by rw[eV.kp s _ (.inr (.inr rfl))];simp
def cH.le{k n a}(e:Ext W k):ar n (.ptr (X.length+1) a) (λz=>k[z]?)=dJ n a (.b x.row):=aA (e.some s.Lw)
def cH.sb{k}(e:Ext W k):aW 7 (.ptr (X.length+2) 0) (.agg U.row) (λz=>k[z]?)=some (az,.set (X.length+2) (.b U.row)):=by
 have h1:=@aL 7 (X.length+2) 0 (.agg U.row) (λz=>k[z]?) _ (e.some s.Lv);have st:=@aC.st _ _ s.bk.o.ok;unfold kK at h1;rw[st]at h1;exact h1
def cH.gm{k}(e:Ext W k):ar (some 7) (.ptr (X.length+2) 0) (λz=>(k.set (X.length+2) (.b U.row))[z]?)=some (.agg U.row,.au):=by
 have hl:=(XT.1 (e.some s.Lv)).1;rw[aA (Yd hl)];rfl
def cH.fa:=A4 (@cH.lr _ _ _ _ _ _ s) (@cH.le _ _ _ _ _ _ s) (@cH.sb _ _ _ _ _ _ s) (@cH.gm _ _ _ _ _ _ s)
def cH.fin{c R'}(hc:c=0->U.an=R'):rT B X V c R' (.dN [.agg U.row,.i c]) (W.set (X.length+2) (.b U.row)):=by
 have hN:B.length<=X.length:=s.bk.hN;have VB:X.length+3<=W.length:=by have:=eV.ln s;simpa using this
 refine⟨s.ex.iR Om,by rw[YD];omega,λi hi hv=>?_,U,rfl,s.bk.o.au λi hi=>?_,hc,λi hi=>?_⟩
 ·rw[Yc Om,eV.kp s i (.inl ⟨hi,hv⟩)];simp only[XV];exact XW hi
 ·have:i≠X.length+2:=λe=>(eV.kl s _ (.inr (.inr rfl))).2.2 (e▸hi)
  rw[Yc (Zk this)]
 ·by_cases h1:some i∈V.bl
  ·exact .inl h1
  ·by_cases h2:i<X.length
   ·exact absurd hi (eV.kl s i (.inl ⟨h2,h1⟩)).2.2
   ·exact .inr Om
end
def wh{h x d}(o:bt h x)(we:kT x.ev d){i:Nat}(hi:i<(bM d).length):aX 1 x.sn (.i (i:Int))=some (cW x.sn 1 i,.au)/\∀{k},Ext h k->ar none (cW x.sn 1 i) (λb=>k[b]?)=some (.str (aP x.ev i),.au):=by
 have hi':i<x.ev.names.length:=by rw[we.nl];exact hi
 refine⟨o.n.dM hi',λ{k} e=>?_⟩;have:aP x.ev i=x.ev.names[i]:=by rw[aP,YC,XY hi'];rfl
 rw[this];exact o.n.kS hi' rfl e
def bO{h x d}(o:bt h x)(we:kT x.ev d)(i:Nat)(z:Int)(hz:(i:Int)=z)(hi:i<(bM d).length):aX 1 x.sn (.i z)=some (cW x.sn 1 i,.au)/\∀{k},Ext h k->ar none (cW x.sn 1 i) (λb=>k[b]?)=some (.str (aP x.ev i),.au):=hz▸wh o we hi
def LH{h x d}(o:bt h x)(we:kT x.ev d){i:Nat}(hi:i<cF d):aX 1 x.sv (.i (i:Int))=some (cW x.sv 1 i,.au)/\(∀{k},Ext h k->ar none (cW x.sv 1 i) (λb=>k[b]?)=some (.i (bH x.ev i),.au))/\0<=bH x.ev i/\bH x.ev i<=999999999:=by
 have hi':i<x.ev.cE.length:=by rw[we.vl];exact hi
 have:bH x.ev i=x.ev.cE[i]:=by rw[bH,YC,XY hi'];rfl
 refine⟨o.v.dM hi',λ{k} e=>?_,we.vr _ (qu hi')⟩;rw[this];exact o.v.kS hi' rfl e
def cZ{h x d}(o:bt h x)(we:kT x.ev d)(i:Nat)(z:Int)(hz:(i:Int)=z)(hi:i<cF d):aX 1 x.sv (.i z)=some (cW x.sv 1 i,.au)/\(∀{k},Ext h k->ar none (cW x.sv 1 i) (λb=>k[b]?)=some (.i (bH x.ev i),.au))/\0<=bH x.ev i/\bH x.ev i<=999999999:=hz▸LH o we hi
def WR.qp{P ro ks ts Q B Y s es w cs z d l}
  (hs:Fr B.length Y s es cs) (hz:z.length=es) (he:Ext B Y) (hes:0<es) (eC:(cs.length+1)*w<=2^46)
  (K:∀(W5:ah) (s':AV),Ext B W5->Fr B.length W5 s' es (cs++[z])->(∀i,sB s' =some i->Y.length<i)->s'.one=true->Y.length<=W5.length->(∀i,i<Y.length->sB s≠some i->W5[i]? =Y[i]?)->WP P ro l ks (put ts d s') W5 Q):
  WR P ro (pF es w s (.slice Y.length 0 1 es) (λb=>(Y++[ak.cells z true true])[b]?) (Y++[ak.cells z true true]).length) false d l ks ts (Y++[ak.cells z true true]) Q:=by
 have Xi:aH (Y++[ak.cells z true true]) (AV.slice Y.length 0 1 es) es [z]:=by
  have:=(Fr.push (N:=0) (es:=es) (h:=Y) (Yt _) [z] (λx hx=>by rw[Yl]at hx;rw[hx,hz])).a8
  simpa using this
 refine WR.fQ (h0:=B) (cs:=cs) (ys:=[z]) (hs.app _) Xi hes Si (by simpa using eC) (he.trans (Ext.app _ (Ext.refl _))) ?_;intro g' Q1 hff hkp;refine K _ _ ⟨_,rfl⟩ hff (λi hi=>by cases hi;simp) rfl (by rw[Q1];simp only[XS,Yn];omega) (λi hi hne=>?_);exact Mt
def zD:ai:=(fn225).body.tl
def Np:fn225=⟨250,2,[(4,some (some 7)),(5,none)],.seq ((fn225).body.hd) zD⟩:=rfl
set_option maxRecDepth 10000
attribute [local irreducible] WP WC WE WB WR WF WL WG gg WM
section
variable {P:Program}(T:fI P) {B X W:ah}{ts:TS}{V:RV}{x:EV}
include T
def DO(w:fk V.an)(ox:bt B x)(we:kT x.ev .line)(nk:sI V.an x.ev .line)(s:cH B X x V W V)(hlen:ts.length=250)(t2:slot ts 2=.ptr X.length 0)(t3:slot ts 3=.ptr (X.length+1) 0)(t4:slot ts 4=.ptr (X.length+2) 0):
  WC P bT zD [] ts W (FQ [(4,some (some 7)),(5,none)] (rT B X V (bC V.an x.ev .line) (dz V.an x.ev .line))):=by
 have ow:=ox.ext s.ex;have oV:=s.bk.o.ok;have QW:x.ev.kind=bA .line:=cC we.kd;obtain⟨lr,le,sb,gm⟩:=cH.fa s;obtain⟨i0,d0⟩:=bO ow we 0 0 rfl De;obtain⟨j0,f0,q0⟩:=cZ ow we 0 0 rfl De;obtain⟨j1,f1,q1⟩:=cZ ow we 1 1 rfl De;unfold zD fn225;simp only[ai.tl];refine Rs (FD t2 t3 t4 @le @lr @bB @aN @aY @gk @aE @QW @gG @j0 @f0 @j1 @f1 @Yi) ?_;refine WF.ce T.c20 (r20 T _ _ _) λg1=>?_
 obtain⟨W2,Rt⟩:∃Z,Z=W++g1:=⟨_,rfl⟩;rw[<-Rt];have Rb:cH B X x V W2 V:=by rw[Rt];exact eV.grow s ⟨g1,rfl⟩
 have ow:=ox.ext Rb.ex;have oV:=Rb.bk.o.ok;obtain⟨lr,le,sb,gm⟩:=cH.fa Rb;by_cases h1:bE (bH x.ev 1) 1 64=0
 case neg=>
  have e1:decide (bE (bH x.ev 1) 1 64≠0)=true:=XZ h1;refine Rs (A8 t2 t3 t4 e1 @lr @aE @sb @gm) ?_;rw[bC,X9 h1];exact I6
 have e1:decide (bE (bH x.ev 1) 1 64≠0)=false:=XU (λz=>z h1);by_cases h2:16<=V.lines.length
 case pos=>
  have e2:decide ((16:Int)<=(V.lines.length:Int))=true:=XZ Om;refine Rs (pa t2 t3 t4 e1 @gk oV.i0.aM e2 @lr @aE @sb @gm) ?_;rw[bC,X5 (λz=>z h1),X9 (show 16<=V.an.lines.length from h2)];exact I6
 have e2:decide ((16:Int)<=(V.lines.length:Int))=false:=XU Om;obtain⟨i0,d0⟩:=bO ow we 0 0 rfl De;obtain⟨j1,f1,q1⟩:=cZ ow we 1 1 rfl De;refine Rs (C8 t2 t3 t4 e1 @le @lr @gk oV.i0.aM e2 @aN @aY @i0 @d0 @j1 @f1) ?_;have R9:bC V.an x.ev .line=0:=by rw[bC,X5 (λz=>z h1),X5 (show ¬16<=V.an.lines.length from h2)]
 obtain⟨y,hy⟩:∃y:gN,y=⟨aP x.ev 0,bH x.ev 1,false⟩:=⟨_,rfl⟩;obtain⟨z,hz⟩:∃z:List AV,z=cB y:=⟨_,rfl⟩;have SJ:[AV.str (aP x.ev 0),.i (bH x.ev 1),.bool false]=z:=by rw[hz,hy];rfl
 rw[SJ];refine WR.qp (B:=B) (cs:=V.lines.map cB) (Rb.bk.o.i0) (by rw[hz];rfl) Rb.ex De (by have:=w.len.l0;rw[X2];omega) ?_;intro W5 s' x5 hff hn5 q5 l5 hk5;have hrow:V.lines.map cB++[z]=(V.lines++[y]).map cB:=by rw[X4,hz];rfl
 rw[hrow]at hff;have s5:cH B X x V (W5.set X.length (.b (V.row.set 1 s'))) {V with lines:=V.lines++[y],s0:=s'}:=eV.p0 Rb hff (λi hi=>.inr (aan (hn5 i hi))) hk5 x5 l5;have mB:W5[X.length]? =some (.b V.row):=(hk5 _ Rb.bk.lt (λz=>Rb.bk.ne (by rw[<-z];simp[RV.bl]))).trans Rb.bk.m;have Su:aW 1 (.ptr X.length 1) s' (λz=>W5[z]?)=some (az,.set X.length (.b (V.row.set 1 s'))):=(aL mB).trans (bY q5 (by show 1+1<=7;omega));refine Rs (A5 t2 t3 t4 @Su q5) ?_;obtain⟨W6,SD⟩:∃Z,Z=W5.set X.length (.b (V.row.set 1 s')):=⟨_,rfl⟩;rw[<-SD]at s5 ⊢;obtain⟨lr,le,sb,gm⟩:=cH.fa s5;refine Rs (A7 t2 t3 t4 @lr @aE @sb @gm) ?_
 rw[R9];exact cH.fin s5 (λ_=>by rw[hy];rfl)
theorem DM(w:fk V.an)(ox:bt B x)(we:kT x.ev .tape)(nk:sI V.an x.ev .tape)(s:cH B X x V W V)(hlen:ts.length=250)(t2:slot ts 2=.ptr X.length 0)(t3:slot ts 3=.ptr (X.length+1) 0)(t4:slot ts 4=.ptr (X.length+2) 0):
  WC P bT zD [] ts W (FQ [(4,some (some 7)),(5,none)] (rT B X V (bC V.an x.ev .tape) (dz V.an x.ev .tape))):=by
 have ow:=ox.ext s.ex;have oV:=s.bk.o.ok;have QW:x.ev.kind=bA .tape:=cC we.kd;obtain⟨lr,le,sb,gm⟩:=cH.fa s;obtain⟨i0,d0⟩:=bO ow we 0 0 rfl De;obtain⟨j0,f0,q0⟩:=cZ ow we 0 0 rfl De;obtain⟨j1,f1,q1⟩:=cZ ow we 1 1 rfl De;unfold zD fn225;simp only[ai.tl];by_cases h1:999999999<bH x.ev 0+bH x.ev 1
 case pos=>
  have e1:decide ((999999999:Int)<bH x.ev 0+bH x.ev 1)=true:=XZ h1;have hw:IntKind.i64.wrap (bH x.ev 0+bH x.ev 1)=bH x.ev 0+bH x.ev 1:=bw Om Om;refine o9 (MC t2 t3 t4 @le @lr @bB @aN @aY @aE @QW @gG @iB @Yp @j0 @f0 @j1 @f1 @Yi @hw e1 @sb @gm) ?_;rw[bC,X9 h1];exact GA
 have e1:decide ((999999999:Int)<bH x.ev 0+bH x.ev 1)=false:=XU h1;have hw:IntKind.i64.wrap (bH x.ev 0+bH x.ev 1)=bH x.ev 0+bH x.ev 1:=bw Om Om;by_cases h2:16<=V.aJ.length
 case pos=>
  have e2:decide ((16:Int)<=(V.aJ.length:Int))=true:=XZ Om
  repeat (first|simp (config:={maxSteps:=1000000}) only[aQ,aT,ba,bd,reduceAdd,reduceMul,reduceLeDiff,reduceEqDiff,bg,hlen,Yb,Yf,t2,t3,t4,le,lr,bB,aN,aY,aE,lA,QW,gG,iB,reduceCtorEq,Yp,j0,f0,j1,f1,Yi,hw,e1,oV.i1.aM,e2,sb,gm]|simp (config:={maxSteps:=1000000}) (disch:=first|(simp only[XS,XX,X1]<;>omega)|rfl|omega|fail) only[eo,aQ,aT,ba,bd,reduceAdd,reduceMul,reduceLeDiff,reduceEqDiff,bg,hlen,Yb,Yf,t2,t3,t4,le,lr,bB,aN,aY,aE,lA,QW,gG,iB,reduceCtorEq,Yp,j0,f0,j1,f1,Yi,hw,e1,oV.i1.aM,e2,sb,gm])
  rw[bC,X5 h1,X9 (show 16<=V.an.aJ.length from h2)];exact GA
 have e2:decide ((16:Int)<=(V.aJ.length:Int))=false:=XU Om
 repeat (first|simp (config:={maxSteps:=1000000}) only[aQ,aT,ba,bd,reduceAdd,reduceMul,reduceLeDiff,reduceEqDiff,bg,hlen,Yb,Yf,t2,t3,t4,le,lr,bB,aN,aY,aE,lA,QW,gG,iB,reduceCtorEq,Yp,j0,f0,j1,f1,Yi,hw,e1,oV.i1.aM,e2,i0,d0]|simp (config:={maxSteps:=1000000}) (disch:=first|(simp only[XS,XX,X1]<;>omega)|rfl|omega|fail) only[eo,aQ,aT,ba,bd,reduceAdd,reduceMul,reduceLeDiff,reduceEqDiff,bg,hlen,Yb,Yf,t2,t3,t4,le,lr,bB,aN,aY,aE,lA,QW,gG,iB,reduceCtorEq,Yp,j0,f0,j1,f1,Yi,hw,e1,oV.i1.aM,e2,i0,d0])
 have R9:bC V.an x.ev .tape=0:=by rw[bC,X5 h1,X5 (show ¬16<=V.an.aJ.length from h2)]
 obtain⟨y,hy⟩:∃y:rW,y=⟨aP x.ev 0,bH x.ev 0+bH x.ev 1⟩:=⟨_,rfl⟩;obtain⟨z,hz⟩:∃z:List AV,z=dV y:=⟨_,rfl⟩;have SJ:[AV.str (aP x.ev 0),.i (bH x.ev 0+bH x.ev 1)]=z:=by rw[hz,hy];rfl
 rw[SJ];refine WR.qp (B:=B) (cs:=V.aJ.map dV) (s.bk.o.i1) (by rw[hz];rfl) s.ex De (by have:=w.len.l1;rw[X2];omega) ?_;intro W5 s' x5 hff hn5 q5 l5 hk5;have hrow:V.aJ.map dV++[z]=(V.aJ++[y]).map dV:=by rw[X4,hz];rfl
 rw[hrow]at hff;have s5:cH B X x V (W5.set X.length (.b (V.row.set 2 s'))) {V with aJ:=V.aJ++[y],s1:=s'}:=eV.p1 s hff (λi hi=>.inr (aan (hn5 i hi))) hk5 x5 l5;have mB:W5[X.length]? =some (.b V.row):=(hk5 _ s.bk.lt (λz=>s.bk.ne (by rw[<-z];simp[RV.bl]))).trans s.bk.m;have Su:aW 1 (.ptr X.length 2) s' (λz=>W5[z]?)=some (az,.set X.length (.b (V.row.set 2 s'))):=(aL mB).trans (bY q5 (by show 2+1<=7;omega));refine Rs (A5 t2 t3 t4 @Su q5) ?_;obtain⟨W6,SD⟩:∃Z,Z=W5.set X.length (.b (V.row.set 2 s')):=⟨_,rfl⟩;rw[<-SD]at s5 ⊢;obtain⟨lr,le,sb,gm⟩:=cH.fa s5;refine Rs (A7 t2 t3 t4 @lr @aE @sb @gm) ?_
 rw[R9];exact cH.fin s5 (λ_=>by rw[hy];rfl)
def DN(w:fk V.an)(ox:bt B x)(we:kT x.ev .gA)(nk:sI V.an x.ev .gA)(s:cH B X x V W V)(hlen:ts.length=250)(t2:slot ts 2=.ptr X.length 0)(t3:slot ts 3=.ptr (X.length+1) 0)(t4:slot ts 4=.ptr (X.length+2) 0):
  WC P bT zD [] ts W (FQ [(4,some (some 7)),(5,none)] (rT B X V (bC V.an x.ev .gA) (dz V.an x.ev .gA))):=by
 have ow:=ox.ext s.ex;have oV:=s.bk.o.ok;have QW:x.ev.kind=bA .gA:=cC we.kd;obtain⟨lr,le,sb,gm⟩:=cH.fa s;obtain⟨i0,d0⟩:=bO ow we 0 0 rfl De;obtain⟨i1,d1⟩:=bO ow we 1 1 rfl De;obtain⟨i2,d2⟩:=bO ow we 2 2 rfl De;obtain⟨j0,f0,q0⟩:=cZ ow we 0 0 rfl De;unfold zD fn225;simp only[ai.tl];have k1:aP x.ev 1∈gP V.an:=nk.kn 1 0 rfl;have k2:aP x.ev 2∈jK V.an:=nk.kn 2 1 rfl;have hlt:aZ (gP V.an) (aP x.ev 1)<V.lines.length:=by have:=cM k1;simpa [gP,RV.an]using this
 have ei:cP (λy:gN=>decide (y.name=aP x.ev 1)) V.lines=(aZ (gP V.an) (aP x.ev 1):Int):=ep (f:=gN.name) k1;have sp:dO V.an (aP x.ev 1)=V.lines[aZ (gP V.an) (aP x.ev 1)]:=cV k1;refine o9 (PA t2 t3 t4 @le @lr @bB @aN @aY @aE @gk @QW @gG @iB @rB @Yp @j0 @f0 @i1 @d1 @Yi) ?_;refine WF.ce T.c28 (r28 T (oV.ext Xx) w.len _) λg1=>?_
 rw[ei];obtain⟨W2,Rt⟩:∃Z,Z=W++g1:=⟨_,rfl⟩;rw[<-Rt];have Rb:cH B X x V W2 V:=by rw[Rt];exact eV.grow s ⟨g1,rfl⟩
 have ow:=ox.ext Rb.ex;have oV:=Rb.bk.o.ok;obtain⟨lr,le,sb,gm⟩:=cH.fa Rb;obtain⟨i0,d0⟩:=bO ow we 0 0 rfl De;obtain⟨i1,d1⟩:=bO ow we 1 1 rfl De;obtain⟨i2,d2⟩:=bO ow we 2 2 rfl De;obtain⟨j0,f0,q0⟩:=cZ ow we 0 0 rfl De;have ix:aX 3 V.s0 (.i (aZ (gP V.an) (aP x.ev 1):Int))=some (cW V.s0 3 (aZ (gP V.an) (aP x.ev 1)),.au):=oV.i0.dM hlt;have l2:∀{k:ah},Ext W2 k->ar none (lK V.s0 3 (aZ (gP V.an) (aP x.ev 1)) 2) (λb=>k[b]?)=some (.bool (dO V.an (aP x.ev 1)).acc,.au):=λ{k} e=>by rw[sp];exact oV.i0.pY hlt rfl e
 cases h1:(dO V.an (aP x.ev 1)).acc with
 |true=>
  rw[h1]at l2;refine Rs (A9 t2 t3 t4 ix @l2 @lr @aE @sb @gm) ?_;rw[bC,X9 h1];exact I6
 |false=>
 rw[h1]at l2;refine Rs (pa t2 t3 t4 ix @l2 @le @lr @aE @aN @i2 @d2) ?_;refine WF.ce T.c84 (r84 T (oV.ext Xx) w.len k2 _) λg2=>?_
 obtain⟨W3,Ra⟩:∃Z,Z=W2++g2:=⟨_,rfl⟩;rw[<-Ra];have Rh:cH B X x V W3 V:=by rw[Ra];exact eV.grow Rb ⟨g2,rfl⟩
 have ow:=ox.ext Rh.ex;have oV:=Rh.bk.o.ok;obtain⟨lr,le,sb,gm⟩:=cH.fa Rh;obtain⟨i0,d0⟩:=bO ow we 0 0 rfl De;obtain⟨i1,d1⟩:=bO ow we 1 1 rfl De;obtain⟨i2,d2⟩:=bO ow we 2 2 rfl De;obtain⟨j0,f0,q0⟩:=cZ ow we 0 0 rfl De;cases h2:jA V.an (bH x.ev 0) (aP x.ev 2)with
 |false=>
  refine Rs (A8 t2 t3 t4 @Yr @lr @aE @sb @gm) ?_;rw[bC,X5 (by rw[h1];decide),X9 (by rw[h2];rfl)];exact C9
 |true=>
 by_cases h3:64<=V.aj.length
 case pos=>
  have e3:decide ((64:Int)<=(V.aj.length:Int))=true:=XZ Om;refine Rs (pa t2 t3 t4 @Yk @fK oV.i2.aM e3 @lr @aE @sb @gm) ?_;rw[bC,X5 (by rw[h1];decide),X5 (by rw[h2];decide),X9 (show 64<=V.an.aj.length by simpa [RV.an]using h3)];exact C9
 have e3:decide ((64:Int)<=(V.aj.length:Int))=false:=XU Om;have R9:bC V.an x.ev .gA=0:=by rw[bC,X5 (by rw[h1];decide),X5 (by rw[h2];decide),X5 (show ¬64<=V.an.aj.length by simpa [RV.an]using h3)]
 obtain⟨t,ht⟩:∃t,t=AV.slice W3.length 0 1 1:=⟨_,rfl⟩;have ot:t.one=true:=by rw[ht];rfl
 refine Rs (AG t2 t3 t4 @Yk @le @lr @fK oV.i2.aM e3 @aN @i0 @d0 @i1 @d1 @i2 @d2) ?_;rw[<-ht];refine Rs (A4 t2 t3 t4 @ot) ?_;obtain⟨y,hy⟩:∃y:jP,y=⟨aP x.ev 0,aP x.ev 1,[aP x.ev 2]⟩:=⟨_,rfl⟩;obtain⟨z,hz⟩:∃z:List AV,z=bn (y,t):=⟨_,rfl⟩;have SJ:[AV.str (aP x.ev 0),.str (aP x.ev 1),t]=z:=by rw[hz,hy];rfl
 rw[SJ];obtain⟨Y,hY⟩:∃Z,Z=W3++[ak.cells [.str (aP x.ev 2)] true true]:=⟨_,rfl⟩;rw[<-hY];have RN:Fr W3.length Y t 1 (y.aJ.map ao):=by
  rw[ht,hy,hY];exact(Fr.push (h:=W3) (N:=W3.length) (X8 _) [ao (aP x.ev 2)] (by simp[ao]))
 have sY:cH B X x V Y V:=by rw[hY];exact eV.grow Rh ⟨_,rfl⟩
 have lY:W3.length<Y.length:=by rw[hY];simp
 have eY:Ext W3 Y:=by rw[hY];exact⟨_,rfl⟩
 refine WR.qp (B:=B) (cs:=V.aj.map bn) (sY.bk.o.i2) (by rw[hz];rfl) sY.ex De (by have:=w.len.l2;rw[X2];omega) ?_;intro W5 s' x5 hff hn5 q5 l5 hk5;have hrow:V.aj.map bn++[z]=(V.aj++[(y,t)]).map bn:=by rw[X4,hz];rfl
 rw[hrow]at hff;have bW:∀i,sB t=some i->sB V.s2≠some i:=λi hi e=>by
  have h1:=(RN.bQ hi).1;have h2:=(Rh.bk.o.dU (b:=i) (by rw[<-e];simp[RV.bl])).2;omega
 have f5:Fr B.length W5 t 1 (y.aJ.map ao):=(RN.aB λi hi=>hk5 i (RN.bQ hi).2 (bW i hi)).low Rh.ex.len;have s5:cH B X x V (W5.set X.length (.b (V.row.set 3 s'))) {V with aj:=V.aj++[(y,t)],s2:=s'}:=eV.p2 Rh hff f5 (λi hi=>.inr (by have:=hn5 i hi;omega)) (λi hi=>⟨(RN.bQ hi).1,λe=>by have:=hn5 i e;have:=(RN.bQ hi).2;omega⟩) (λi hi hne=>(hk5 i Om hne).trans (eY.get hi)) x5 Om;have mB:W5[X.length]? =some (.b V.row):=(hk5 _ sY.bk.lt (λz=>sY.bk.ne (by rw[<-z];simp[RV.bl]))).trans sY.bk.m;have Su:aW 1 (.ptr X.length 3) s' (λz=>W5[z]?)=some (az,.set X.length (.b (V.row.set 3 s'))):=(aL mB).trans (bY q5 (by show 3+1<=7;omega))
 refine Rs (A5 t2 t3 t4 @Su q5) ?_;obtain⟨W6,SD⟩:∃Z,Z=W5.set X.length (.b (V.row.set 3 s')):=⟨_,rfl⟩;rw[<-SD]at s5 ⊢;obtain⟨lr,le,sb,gm⟩:=cH.fa s5;refine Rs (A7 t2 t3 t4 @lr @aE @sb @gm) ?_;rw[R9];exact cH.fin s5 (λ_=>by simp only[RV.an,X4,dz,YR,ZM,hy])
end
def gC:List AV:=[.int .i64 0,.str [],.af,.af,.str []]
def Cr(kd:By)(sn sv:AV):ak:=.cells [.int .i64 0,.str kd,sn,sv,.str []] true false
structure uK(A:ah)(kd:By)(b8:Nat)(kb:ak)(sw:AV)(wr:Bool)(ws:List (By))(sn sv:AV)(ns:List (By))(vs:List Int)(B:ah):Prop where
 m7:(A++[gQ sw wr]++B)[A.length+1]? =some (Cr kd sn sv)
 m8:(A++[gQ sw wr]++B)[b8]? =some kb
 l8:A.length+1<b8
 s:aH A sw 1 (ws.map ao)
 wl:∀x∈ws,x.length<=2^40
 n:Fr (A.length+1) (A++[gQ sw wr]++B) sn 1 (ns.map ao)
 v:Fr (A.length+1) (A++[gQ sw wr]++B) sv 1 (vs.map aK)
 dn:∀i,sB sn=some i->A.length+1<i/\i≠b8
 dv:∀i,sB sv=some i->A.length+1<i/\i≠b8
 dd:∀i,sB sn=some i->sB sv≠some i
section
variable {A B:ah}{kd:By}{b8:Nat}{kb:ak}{sw:AV}{wr:Bool}{ws:List (By)}{sn sv:AV}{ns:List (By)}{vs:List Int}
def vD{x}:(A++[x]).length=A.length+1:=Si
def uK.tk(o:uK A kd b8 kb sw wr ws sn sv ns vs B){sw' wr' ws'}(hs:aH A sw' 1 (ws'.map ao))(hw:∀x∈ws',x.length<=2^40):uK A kd b8 kb sw' wr' ws' sn sv ns vs B:=
 ⟨by rw[qD (K':=gQ sw wr) Om];exact o.m7,by rw[qD (K':=gQ sw wr) (by have:=o.l8;omega)];exact o.m8,o.l8,hs,hw,o.n.swap' vD vD,o.v.swap' vD vD,o.dn,o.dv,o.dd⟩
theorem uK.app(o:uK A kd b8 kb sw wr ws sn sv ns vs B)(g:ah):uK A kd b8 kb sw wr ws sn sv ns vs (B++g):=by
 have e:A++[gQ sw wr]++(B++g)=A++[gQ sw wr]++B++g:=(XV _ _ _).symm;exact⟨by rw[e];exact(Ext.app g (Ext.refl _)).some o.m7,by rw[e];exact(Ext.app g (Ext.refl _)).some o.m8,o.l8,o.s,o.wl,by rw[e];exact o.n.app g,by rw[e];exact o.v.app g,o.dn,o.dv,o.dd⟩
def nS{K X g}:(A++[K]++g).set (A.length+1) X=A++[K]++g.set 0 X:=by
 rw[YP _ _ Si];simp
def uK.Ns(o:uK A kd b8 kb sw wr ws sn sv ns vs B){U3 ns' g}(hF:Fr (A.length+1) (A++[gQ sw wr]++g) U3 1 (ns'.map ao))(hlo:∀i,sB U3=some i->(A++[gQ sw wr]++B).length<i)
  (hle:(A++[gQ sw wr]++B).length<=(A++[gQ sw wr]++g).length) (hk:∀i,i<(A++[gQ sw wr]++B).length->sB sn≠some i->(A++[gQ sw wr]++g)[i]? =(A++[gQ sw wr]++B)[i]?):
  uK A kd b8 kb sw wr ws U3 sv ns' vs (g.set 0 (Cr kd U3 sv)):=by
 have l7:=(XT.1 o.m7).1;have l8:=(XT.1 o.m8).1;have h8:=o.l8;have ne:∀i,i≠A.length+1->((A++[gQ sw wr]++g).set (A.length+1) (Cr kd U3 sv))[i]? =(A++[gQ sw wr]++g)[i]? :=λi hi=>Yc (λe=>hi e.symm)
 refine⟨?_,?_,h8,o.s,o.wl,?_,?_,λi hi=>?_,o.dv,λi hi e=>?_⟩
 ·rw[<-nS,Yd Om]
 ·rw[<-nS,ne _ Om,hk _ l8 (λe=>(o.dn _ e).2 rfl)];exact o.m8
 ·exact Jt
 ·rw[<-nS];exact o.v.aB λj hj=>by rw[ne j (by have:=(o.dv j hj).1;omega),hk j (o.v.bQ hj).2 (λe=>o.dd j e hj)]
 ·have:=hlo i hi;exact⟨Om,Om⟩
 ·have h1:=hlo i hi;have h2:=(o.v.bQ e).2;omega
def uK.Nr(o:uK A kd b8 kb sw wr ws sn sv ns vs B){U0 vs' g}(hF:Fr (A.length+1) (A++[gQ sw wr]++g) U0 1 (vs'.map aK))(hlo:∀i,sB U0=some i->(A++[gQ sw wr]++B).length<i)
  (hle:(A++[gQ sw wr]++B).length<=(A++[gQ sw wr]++g).length) (hk:∀i,i<(A++[gQ sw wr]++B).length->sB sv≠some i->(A++[gQ sw wr]++g)[i]? =(A++[gQ sw wr]++B)[i]?):
  uK A kd b8 kb sw wr ws sn U0 ns vs' (g.set 0 (Cr kd sn U0)):=by
 have l7:=(XT.1 o.m7).1;have l8:=(XT.1 o.m8).1;have h8:=o.l8;have ne:∀i,i≠A.length+1->((A++[gQ sw wr]++g).set (A.length+1) (Cr kd sn U0))[i]? =(A++[gQ sw wr]++g)[i]? :=λi hi=>Yc (λe=>hi e.symm)
 refine⟨?_,?_,h8,o.s,o.wl,?_,?_,o.dn,λi hi=>?_,λi hi e=>?_⟩
 ·rw[<-nS,Yd Om]
 ·rw[<-nS,ne _ Om,hk _ l8 (λe=>(o.dv _ e).2 rfl)];exact o.m8
 ·rw[<-nS];exact o.n.aB λj hj=>by rw[ne j (by have:=(o.dn j hj).1;omega),hk j (o.n.bQ hj).2 (λe=>o.dd j hj e)]
 ·exact Jt
 ·have:=hlo i hi;exact⟨Om,Om⟩
 ·have h1:=hlo i e;have h2:=(o.n.bQ hi).2;omega
end
def qM{ws wr}:∀x∈(bR ws wr).2.1,x∈ws:=by
 intro x hx;cases ws with
 |nil=>simp[bR]at hx
 |cons w r=>
  by_cases hw:w=[]
  ·rw[bR,X9 hw]at hx;simp at hx
  ·rw[bR,X5 hw]at hx;exact YB _ hx
def Mk(h:ah)(ws:List (By))(v:AV)(k:ah):Prop:=Ext h k/\∃x:EV,x.ev=(eE ws).1/\v=.dN [.agg x.row,.bool (eE ws).2]/\Fr h.length k x.sn 1 (x.ev.names.map ao)/\Fr h.length k x.sv 1 (x.ev.cE.map aK)
def vd{h k}(e:Ext (h++[ak.cells [.int .i64 0,.str [],.af,.af,.str []] true false]) k):k[h.length]? =some (.cells [.int .i64 0,.str [],.af,.af,.str []] true false):=e.some (by rw[X6 (X8 _)];simp)
def Ko{h k}(e:Ext (h++[ak.cells [.int .i64 0,.str [],.af,.af,.str []] true false]) k):aW 5 (.ptr h.length 0) (.agg [.int .i64 0,.str [],.af,.af,.str []]) (λz=>k[z]?)=some (az,.set h.length (.cells [.int .i64 0,.str [],.af,.af,.str []] true false)):=by rw[aL (vd e)];rfl
def Kq{h k}(e:Ext (h++[ak.cells [.int .i64 0,.str [],.af,.af,.str []] true false]) k):ar (some 5) (.ptr h.length 0) (λz=>k[z]?)=some (.agg [.int .i64 0,.str [],.af,.af,.str []],.au):=by rw[aA (vd e)];rfl
def Kp{h k}(e:Ext (h++[ak.cells [.int .i64 0,.str [],.af,.af,.str []] true false]) k):k.set h.length (.cells [.int .i64 0,.str [],.af,.af,.str []] true false)=k:=by
 have:=vd e;exact z105
def Kn{h k x}(ox:bt k x)(e:Ext (h++[ak.cells [.int .i64 0,.str [],.af,.af,.str []] true false]) k):aW 5 (.ptr h.length 0) (.agg x.row) (λz=>k[z]?)=some (az,.set h.length (.cells x.row true false)):=by rw[aL (vd e)];exact ox.st
def Km{h k:ah}{x:EV}(e:Ext (h++[ak.cells [.int .i64 0,.str [],.af,.af,.str []] true false]) k):ar (some 5) (.ptr h.length 0) (λz=>(k.set h.length (.cells x.row true false))[z]?)=some (.agg x.row,.au):=by
 rw[aA (Yd (XT.1 (vd e)).1)];rfl
theorem sM:∀{n}{ws}{wr},(dh n ws wr).1.length=n
 | 0,_,_=>rfl
 |n+1,ws,wr=>by rw[dh,XX,sM]
theorem vq:∀{n}{ws}{wr},(fC n ws wr).1.length=n
 | 0,_,_=>rfl
 |n+1,ws,wr=>by rw[fC,XX,vq]
def vh(ws:List (By)):(eE ws).1.names.length<=3/\(eE ws).1.cE.length<=3:=by
 unfold eE;cases gT (bR ws false).1 with
 |none=>exact⟨Yt _,Yt _⟩
 |some d=>
  have h3:(bM d).length<=3/\cF d<=3:=by cases d<;>decide
  exact⟨by show(dh _ _ _).1.length<=3;rw[sM];exact h3.1,by show(fC _ _ _).1.length<=3;rw[vq];exact h3.2⟩
def wF(k:Nat):ai:=(fn111).body.dr k
def BL(k:Nat):ai:=(wF k).hd
def No:fn111=⟨73,1,[(2,some (some 5)),(3,none)],.seq (BL 0) (.seq (BL 1) (.seq (BL 2) (.seq (BL 3) (.seq (BL 4) (.seq (BL 5) (wF 6))))))⟩:=rfl
def Nn:wF 6=.seq (BL 6) (wF 7):=rfl
def Nl:wF 7=.seq (BL 7) (wF 8):=rfl
attribute [local irreducible] WQ
section
variable {P:Program}(T:fI P) {h A B:ah}{kd:By}{b8:Nat}{kb:ak}{sw:AV}{wr:Bool}{ws WI:List (By)}{sn sv:AV}{ns:List (By)}{vs:List Int}{ts:TS}
include T
theorem G3(hA:A=h++[.cells gC true false])(o:uK A kd b8 kb sw wr ws sn sv ns vs B)(hlen:ts.length=73)(t2:slot ts 2=.ptr h.length 0)(t4:slot ts 4=.ptr A.length 0)(t7:slot ts 7=.ptr (A.length+1) 0)
  (hw:eE WI=(⟨0,kd,ns,vs,[]⟩,!wr&&decide (ws.length=0))):WC P bT (wF 8) [] ts (A++[gQ sw wr]++B) (FQ [(2,some (some 5)),(3,none)] (Mk h WI)):=by
 have hAl:A.length=h.length+1:=by rw[hA];simp
 obtain⟨Y,hY⟩:∃Y,Y=A++[gQ sw wr]++B:=⟨_,rfl⟩;have Tj:Y=h++([ak.cells gC true false]++[gQ sw wr]++B):=by rw[hY,hA];simp
 have m2:Y[h.length]? =some (.cells gC true false):=by rw[Tj,X6 (X8 _)];simp
 have m4:Y[A.length]? =some (.cells [sw,.bool wr] true false):=by rw[hY];exact Il
 have m7:Y[A.length+1]? =some (.cells [.int .i64 0,.str kd,sn,sv,.str []] true false):=by rw[hY];exact o.m7
 have ln:=o.n;have lv:=o.v;rw[<-hY]at ln lv ⊢;have x:∃x:EV,x=⟨⟨0,kd,ns,vs,[]⟩,sn,sv⟩:=⟨_,rfl⟩;obtain⟨x,hx⟩:=x;have hrow:x.row=[.int .i64 0,.str kd,sn,sv,.str []]:=by rw[hx];rfl
 have ox:Fr h.length (Y.set h.length (.cells x.row true false)) x.sn 1 (x.ev.names.map ao)/\Fr h.length (Y.set h.length (.cells x.row true false)) x.sv 1 (x.ev.cE.map aK):=by
  rw[hx];exact⟨(ln.aB λj hj=>Yc (by have:=(o.dn j hj).1;omega)).low Om,(lv.aB λj hj=>Yc (by have:=(o.dv j hj).1;omega)).low Om⟩
 have oy:bt Y x:=by rw[hx];exact⟨ln.a8,lv.a8⟩
 have l4:∀{n:Option Nat}{a:Nat},ar n (.ptr A.length a) (λz=>Y[z]?)=dJ n a (.cells [sw,.bool wr] true false):=aA m4;have l7:ar (some 5) (.ptr (A.length+1) 0) (λz=>Y[z]?)=some (.agg x.row,.au):=by rw[aA m7,hrow];rfl
 have s2:aW 5 (.ptr h.length 0) (.agg x.row) (λz=>Y[z]?)=some (az,.set h.length (.cells x.row true false)):=by rw[aL m2];exact oy.st
 have l2:ar (some 5) (.ptr h.length 0) (λz=>(Y.set h.length (.cells x.row true false))[z]?)=some (.agg x.row,.au):=by rw[aA (Yd (XT.1 m2).1)];rfl
 have hlw:=(o.s.aM (row:=ao));have fin:∀b,b=(!wr&&decide (ws.length=0))->Mk h WI (.dN [.agg x.row,.bool b]) (Y.set h.length (.cells x.row true false)):=λb hb=>by
  refine⟨⟨([ak.cells gC true false]++[gQ sw wr]++B).set 0 (.cells x.row true false),by rw[Tj,YP _ _ (X8 _),YY]⟩,x,by rw[hw,hx],by rw[hw,hb],ox⟩
 unfold wF fn111;simp only[ai.j,ai.s,ai.r,ai.dr,ai.tl,ai.hd];cases wr with
 |true=>
  repeat (first|simp (config:={maxSteps:=1000000}) only[aQ,aT,ba,bd,reduceAdd,reduceMul,reduceLeDiff,reduceEqDiff,bg,hlen,Yb,Yf,t2,t4,t7,l4,l7,s2,Yk,Yr,qL,oQ,oS,oR,qI,oO,uz,zd,uA,qK,mD,ze,uB,uC,qH,oP,ux,uw]|simp (config:={maxSteps:=1000000}) (disch:=first|(simp only[XS,XX,X1]<;>omega)|rfl|omega|fail) only[eo,aQ,aT,ba,bd,reduceAdd,reduceMul,reduceLeDiff,reduceEqDiff,bg,hlen,Yb,Yf,t2,t4,t7,l4,l7,s2,Yk,Yr,qL,oQ,oS,oR,qI,oO,uz,zd,uA,qK,mD,ze,uB,uC,qH,oP,ux,uw])
  rw[CX];refine⟨?_,?_⟩
  ·exact z87
  ·repeat (first|simp (config:={maxSteps:=1000000}) only[aQ,aT,ba,bd,reduceAdd,reduceMul,reduceLeDiff,reduceEqDiff,bg,hlen,Yb,Yf,t2,l2,oI,oK,oM,ZB,Zg]|simp (config:={maxSteps:=1000000}) (disch:=first|(simp only[XS,XX,X1]<;>omega)|rfl|omega|fail) only[eo,aQ,aT,ba,bd,reduceAdd,reduceMul,reduceLeDiff,reduceEqDiff,bg,hlen,Yb,Yf,t2,l2,oI,oK,oM,ZB,Zg])
   exact fin _ rfl
 |false=>
  repeat (first|simp (config:={maxSteps:=1000000}) only[aQ,aT,ba,bd,reduceAdd,reduceMul,reduceLeDiff,reduceEqDiff,bg,hlen,Yb,Yf,t2,t4,t7,l4,l7,s2,hlw,Yk,Yr,qL,oQ,oS,oR,qI,oO,uz,zd,uA,qK,mD,ze,uB,uC,qH,oP,ux,uw]|simp (config:={maxSteps:=1000000}) (disch:=first|(simp only[XS,XX,X1]<;>omega)|rfl|omega|fail) only[eo,aQ,aT,ba,bd,reduceAdd,reduceMul,reduceLeDiff,reduceEqDiff,bg,hlen,Yb,Yf,t2,t4,t7,l4,l7,s2,hlw,Yk,Yr,qL,oQ,oS,oR,qI,oO,uz,zd,uA,qK,mD,ze,uB,uC,qH,oP,ux,uw])
  rw[CX];refine⟨?_,?_⟩
  ·exact z87
  ·repeat (first|simp (config:={maxSteps:=1000000}) only[aQ,aT,ba,bd,reduceAdd,reduceMul,reduceLeDiff,reduceEqDiff,bg,hlen,Yb,Yf,t2,l2,oI,oK,oM,ZB,Zg]|simp (config:={maxSteps:=1000000}) (disch:=first|(simp only[XS,XX,X1]<;>omega)|rfl|omega|fail) only[eo,aQ,aT,ba,bd,reduceAdd,reduceMul,reduceLeDiff,reduceEqDiff,bg,hlen,Yb,Yf,t2,l2,oI,oK,oM,ZB,Zg])
   refine fin _ ?_;cases ws<;>simp
   try omega
def Nj(Z:qq P){vN rs c2 c3 a4}(hA:A=h++[.cells gC true false])(hkb:kb=.cells [rs,.int .i64 (vN:Nat),c2,c3,a4] true false)(hvN:vN<=100)(o:uK A kd b8 kb sw wr ws sn sv ns [] B)(hlen:ts.length=73)(t2:slot ts 2=.ptr h.length 0)(t4:slot ts 4=.ptr A.length 0)(t6:slot ts 6=.func (.func 208) [.ptr A.length 0] [])(t7:slot ts 7=.ptr (A.length+1) 0)(t8:slot ts 8=.ptr b8 0)
  (hw:eE WI=(⟨0,kd,ns,(fC vN ws wr).1,[]⟩,!(fC vN ws wr).2.2&&decide ((fC vN ws wr).2.1.length=0))):WC P bT (wF 7) [] ts (A++[gQ sw wr]++B) (FQ [(2,some (some 5)),(3,none)] (Mk h WI)):=by
 have m8:=o.m8;rw[hkb]at m8;have l8:∀{n:Option Nat}{a:Nat},ar n (.ptr b8 a) (λz=>(A++[gQ sw wr]++B)[z]?)=dJ n a (.cells [rs,.int .i64 (vN:Nat),c2,c3,a4] true false):=aA m8;obtain⟨RR,RL⟩:∃RR,RR=wF 8:=⟨_,rfl⟩;rw[Nl,<-RL];unfold BL wF fn111;simp only[ai.j,ai.s,ai.r,ai.dr,ai.tl,ai.hd];refine Rs (A6 t2 t4 t6 t7 t8 @l8) ?_;refine WL.inv T.mix (λn ts' h'=>∃(k:Nat) (sw' U0:AV) (wr':Bool) (ws':List (By)) (vs':List Int) (B':ah),k<=vN/\n=vN-k/\h' =A++[gQ sw' wr']++B'/\uK A kd b8 kb sw' wr' ws' sn U0 ns vs' B'/\vs'.length=k/\fC vN ws wr=(vs'++(fC (vN-k) ws' wr').1,(fC (vN-k) ws' wr').2)/\
   ts'.length=73/\slot ts' 2=.ptr h.length 0/\slot ts' 4=.ptr A.length 0/\slot ts' 6=.func (.func 208) [.ptr A.length 0] []/\slot ts' 7=.ptr (A.length+1) 0/\slot ts' 47=.int .i64 vN/\slot ts' 48=.int .i64 k) vN
  ⟨0,sw,sv,wr,ws,[],B,Om,rfl,rfl,o,rfl,rfl,(Sq t2),(Sq t2),(Sq t4),(Sq t6),(Sq t7),(Sq t2),iQ⟩ ?_
 clear hlen t2 t4 t6 t7 t8 l8 m8 o;rintro _ ts' _ ⟨k,sw',U0,wr',ws',vs',B',hk,rfl,rfl,o,RE,Sz,hlen,u2,u4,u6,u7,u47,u48⟩;by_cases hlt:k<vN
 ·have e3:decide ((k:Int)<vN)=true:=XZ Om;refine Rs (A7 @u2 @u4 @u6 @u7 @u47 @u48 e3) ?_;refine WF.gen T.c208 (Of T Z o.s o.wl) ?_;rintro _ _ ⟨SY,g,rfl,rfl,Rm⟩;obtain⟨RZ,Uq⟩:∃RZ,RZ=((bR ws' wr').2.2 || !iM (bR ws' wr').1):=⟨_,rfl⟩;obtain⟨y,hy⟩:∃y,y=kZ (bR ws' wr').1:=⟨_,rfl⟩;rw[<-Uq,<-hy];have o2:=(o.tk (wr':=RZ) Rm (λx hx=>o.wl x (qM x hx))).app g;have bW:fC vN ws wr=((vs'++[y])++(fC (vN-(k+1)) (bR ws' wr').2.1 RZ).1,(fC (vN-(k+1)) (bR ws' wr').2.1 RZ).2):=by
   rw[Sz,show vN-k=(vN-(k+1))+1 by omega,fC,hy,Uq];simp
  have l7:∀{kk:ah}{n:Option Nat}{a:Nat},Ext (A++[gQ SY RZ]++(B'++g)) kk->ar n (.ptr (A.length+1) a) (λz=>kk[z]?)=dJ n a (.cells [.int .i64 0,.str kd,sn,U0,.str []] true false):=λe=>aA (e.some o2.m7)
  refine Rs (A7 @u2 @u4 @u6 @u7 @u47 @u48 @l7) ?_;refine WR.qp (B:=A++[gQ SY RZ]) (cs:=vs'.map aK) (z:=aK y) (by rw[vD];exact o2.v) rfl ⟨_,rfl⟩ De (by simp;omega) ?_;rintro _ s' ⟨g2,rfl⟩ hF hlo hone hle hkp;rw[vD]at hF;have er:vs'.map aK++[aK y]=(vs'++[y]).map aK:=by rw[X4];rfl
  rw[er]at hF;have q7:=(XT.1 o2.m7).1;have m7':(A++[gQ SY RZ]++g2)[A.length+1]? =some (.cells [.int .i64 0,.str kd,sn,U0,.str []] true false):=by
   rw[hkp _ q7 (λe=>by have:=(o2.dv _ e).1;omega)];exact o2.m7
  have s7:aW 1 (.ptr (A.length+1) 3) s' (λz=>(A++[gQ SY RZ]++g2)[z]?)=some (az,.set (A.length+1) (.cells [.int .i64 0,.str kd,sn,s',.str []] true false)):=by
   rw[aL m7'];exact bY hone Si
  have o3:=o2.Nr hF hlo hle hkp;refine Rs (A8 @u2 @u4 @u6 @u7 @u47 @u48 @s7 (wrapN (show k+1<2^63 by omega))) ?_;exact⟨vN-(k+1),Om,k+1,SY,s',RZ,_,vs'++[y],_,Om,rfl,nS,o3,by simp[RE],bW,rfl⟩
 ·have e3:decide ((k:Int)<vN)=false:=XU Om;have ek:k=vN:=Om
  subst ek;rw[YY,fC,Yo]at Sz;rw[Sz]at hw;refine Rs (A7 @u2 @u4 @u6 @u7 @u47 @u48 e3) ?_;rw[RL];exact G3 T hA o (Sq @u2) (Sq @u2) (Sq @u4) (Sq @u7) hw
def Nk(Z:qq P){nN vN rs c2 c3 a4}(hA:A=h++[.cells gC true false])(hkb:kb=.cells [rs,.int .i64 (vN:Nat),c2,c3,a4] true false)(hnN:nN<=100)(hrs:∀G,iV .sl G rs=some nN)(hvN:vN<=100)(o:uK A kd b8 kb sw wr ws sn sv [] [] B)(hlen:ts.length=73)(t2:slot ts 2=.ptr h.length 0)(t4:slot ts 4=.ptr A.length 0)
  (t5:slot ts 5=.func (.func 207) [.ptr A.length 0] []) (t6:slot ts 6=.func (.func 208) [.ptr A.length 0] []) (t7:slot ts 7=.ptr (A.length+1) 0) (t8:slot ts 8=.ptr b8 0)
  (hw:eE WI=(⟨0,kd,(dh nN ws wr).1,(fC vN (dh nN ws wr).2.1 (dh nN ws wr).2.2).1,[]⟩,!(fC vN (dh nN ws wr).2.1 (dh nN ws wr).2.2).2.2&&decide ((fC vN (dh nN ws wr).2.1 (dh nN ws wr).2.2).2.1.length=0))):WC P bT (wF 6) [] ts (A++[gQ sw wr]++B) (FQ [(2,some (some 5)),(3,none)] (Mk h WI)):=by
 have m8:=o.m8;rw[hkb]at m8;have l8:∀{n:Option Nat}{a:Nat},ar n (.ptr b8 a) (λz=>(A++[gQ sw wr]++B)[z]?)=dJ n a (.cells [rs,.int .i64 (vN:Nat),c2,c3,a4] true false):=aA m8;obtain⟨RR,RL⟩:∃RR,RR=wF 7:=⟨_,rfl⟩;rw[Nn,<-RL];unfold BL wF fn111;simp only[ai.j,ai.s,ai.r,ai.dr,ai.tl,ai.hd];refine Rs (A8 t2 t4 t5 t6 t7 t8 @l8 @hrs) ?_;refine WL.inv T.mix (λn ts' h'=>∃(k:Nat) (sw' U3:AV) (wr':Bool) (ws' ns':List (By)) (B':ah),k<=nN/\n=nN-k/\h' =A++[gQ sw' wr']++B'/\uK A kd b8 kb sw' wr' ws' U3 sv ns' [] B'/\ns'.length=k/\dh nN ws wr=(ns'++(dh (nN-k) ws' wr').1,(dh (nN-k) ws' wr').2)/\
   ts'.length=73/\slot ts' 2=.ptr h.length 0/\slot ts' 4=.ptr A.length 0/\slot ts' 5=.func (.func 207) [.ptr A.length 0] []/\slot ts' 6=.func (.func 208) [.ptr A.length 0] []/\slot ts' 7=.ptr (A.length+1) 0/\slot ts' 8=.ptr b8 0/\slot ts' 34=.int .i64 nN/\slot ts' 35=.int .i64 k) nN
  ⟨0,sw,sn,wr,ws,[],B,Om,rfl,rfl,o,rfl,rfl,(Sq t2),(Sq t2),(Sq t4),(Sq t5),(Sq t6),(Sq t7),(Sq t8),(Sq t2),iQ⟩ ?_
 clear hlen t2 t4 t5 t6 t7 t8 l8 m8 o;rintro _ ts' _ ⟨k,sw',U3,wr',ws',ns',B',hk,rfl,rfl,o,RE,Sz,hlen,u2,u4,u5,u6,u7,u8,u34,u35⟩;by_cases hlt:k<nN
 ·have e3:decide ((k:Int)<nN)=true:=XZ Om;refine Rs (A9 @u2 @u4 @u5 @u6 @u7 @u8 @u34 @u35 e3) ?_;refine WF.gen T.c207 (HH T o.s) ?_;rintro _ _ ⟨SY,rfl,rfl,Rm⟩;obtain⟨RZ,Uq⟩:∃RZ,RZ=(bR ws' wr').2.2:=⟨_,rfl⟩;obtain⟨y,hy⟩:∃y,y=(bR ws' wr').1:=⟨_,rfl⟩;rw[<-Uq,<-hy];have o2:=o.tk (wr':=RZ) Rm (λx hx=>o.wl x (qM x hx));have bW:dh nN ws wr=((ns'++[y])++(dh (nN-(k+1)) (bR ws' wr').2.1 RZ).1,(dh (nN-(k+1)) (bR ws' wr').2.1 RZ).2):=by
   rw[Sz,show nN-k=(nN-(k+1))+1 by omega,dh,hy,Uq];simp
  have l7:∀{kk:ah}{n:Option Nat}{a:Nat},Ext (A++[gQ SY RZ]++B') kk->ar n (.ptr (A.length+1) a) (λz=>kk[z]?)=dJ n a (.cells [.int .i64 0,.str kd,U3,sv,.str []] true false):=λe=>aA (e.some o2.m7)
  refine Rs (A9 @u2 @u4 @u5 @u6 @u7 @u8 @u34 @u35 @l7) ?_;refine WR.qp (B:=A++[gQ SY RZ]) (cs:=ns'.map ao) (z:=ao y) (by rw[vD];exact o2.n) rfl ⟨_,rfl⟩ De (by simp;omega) ?_;rintro _ s' ⟨g2,rfl⟩ hF hlo hone hle hkp;rw[vD]at hF;have er:ns'.map ao++[ao y]=(ns'++[y]).map ao:=by rw[X4];rfl
  rw[er]at hF;have q7:=(XT.1 o2.m7).1;have m7':(A++[gQ SY RZ]++g2)[A.length+1]? =some (.cells [.int .i64 0,.str kd,U3,sv,.str []] true false):=by
   rw[hkp _ q7 (λe=>by have:=(o2.dn _ e).1;omega)];exact o2.m7
  have s7:aW 1 (.ptr (A.length+1) 2) s' (λz=>(A++[gQ SY RZ]++g2)[z]?)=some (az,.set (A.length+1) (.cells [.int .i64 0,.str kd,s',sv,.str []] true false)):=by
   rw[aL m7'];exact bY hone Si
  have o3:=o2.Ns hF hlo hle hkp;refine Rs (o8 @u2 @u4 @u5 @u6 @u7 @u8 @u34 @u35 @s7 (wrapN (show k+1<2^63 by omega))) ?_;exact⟨nN-(k+1),Om,k+1,SY,s',RZ,_,ns'++[y],_,Om,rfl,nS,o3,by simp[RE],bW,rfl⟩
 ·have e3:decide ((k:Int)<nN)=false:=XU Om;have ek:k=nN:=Om
  subst ek;rw[YY,dh,Yo]at Sz;rw[Sz]at hw;refine Rs (A9 @u2 @u4 @u5 @u6 @u7 @u8 @u34 @u35 e3) ?_;rw[RL];exact Nj T Z hA hkb hvN o (Sq @u2) (Sq @u2) (Sq @u4) (Sq @u6) (Sq @u7) (Sq @u8) hw
def r111(Z:qq P){s ws}(hs:aH h s 1 (ws.map ao))(hwl:∀x∈ws,x.length<=2^40):ay P 111 [s] h (λv k=>∃x:EV,x.ev=(eE ws).1/\v=.dN [.agg x.row,.bool (eE ws).2]/\Fr h.length k x.sn 1 (x.ev.names.map ao)/\Fr h.length k x.sv 1 (x.ev.cE.map aK)):=by
 refine .of T.mix (aaw T.c111 (Yx some No)) ?_;obtain⟨ts,QP⟩:∃ts,ts=aU 73 [s]:=⟨_,rfl⟩;have hlen:ts.length=73:=by rw[QP];rfl
 have t0:slot ts 0=s:=by rw[QP];rfl
 obtain⟨RR,RL⟩:∃RR,RR=wF 6:=⟨_,rfl⟩;show WC P bT _ [] (aU 73 [s]) h (FQ _ (Mk h ws));rw[<-QP,<-RL];clear QP;have hso:=hs.one;unfold BL wF fn111;simp only[ai.j,ai.s,ai.r,ai.dr,ai.tl,ai.hd];refine Rs (A2 t0 @hso) ?_;obtain⟨A,hA⟩:∃A,A=h++[ak.cells gC true false]:=⟨_,rfl⟩;have hAl:A.length=h.length+1:=by rw[hA];simp
 have gw:=HH T (A:=A) (B:=[]) (wr:=false) (hs.ext (k:=A) ⟨_,hA⟩);rw[Yo,hA]at gw;refine WF.gen T.c207 gw ?_;rintro _ _ ⟨SY,rfl,rfl,Rm⟩;rw[Yo];rw[<-hA]at Rm;have hwl2:∀x∈(bR ws false).2.1,x.length<=2^40:=λx hx=>hwl x (qM x hx)
 have R7:eE ws=match gT (bR ws false).1 with
  |none=>(lE,false)
  |some d=>(⟨0,bA d,(dh (bM d).length (bR ws false).2.1 (bR ws false).2.2).1,(fC (cF d) (dh (bM d).length (bR ws false).2.1 (bR ws false).2.2).2.1 (dh (bM d).length (bR ws false).2.1 (bR ws false).2.2).2.2).1,[]⟩,!(fC (cF d) (dh (bM d).length (bR ws false).2.1 (bR ws false).2.2).2.1 (dh (bM d).length (bR ws false).2.1 (bR ws false).2.2).2.2).2.2&&decide ((fC (cF d) (dh (bM d).length (bR ws false).2.1 (bR ws false).2.2).2.1 (dh (bM d).length (bR ws false).2.1 (bR ws false).2.2).2.2).2.1.length=0)):=by
  unfold eE;cases gT (bR ws false).1<;>rfl
 generalize (bR ws false).1=kd at *;generalize (bR ws false).2.1=ws2 at *;generalize (bR ws false).2.2=RZ at *;refine Rs t0 ?_;refine WF.res T.c90 (r90 T) ?_;rintro _ g2 ⟨vf,rfl,hk⟩;have lk:∀{z:AV},iA .s z true (.map (h++[ak.cells gC true false]++[gQ SY RZ]++[Cr kd .af .af]).length) (.str kd) (λb=>(h++[ak.cells gC true false]++[gQ SY RZ]++[Cr kd .af .af]++g2)[b]?)=lG z true ((gT kd).map vf):=hk.look;unfold Cr at lk;cases hd:gT kd with
 |none=>
  rw[hd]at lk R7;have Rp:∀{z:AV},_=some (AV.dN [z,.bool false],iH.au):=@lk;have z2:∀{k:ah},Ext (h++[ak.cells gC true false]) k->k[h.length]? =some (.cells gC true false):=λe=>e.some (by rw[X6 (X8 _)];simp)
  have s2:∀{k:ah},Ext (h++[ak.cells gC true false]) k->aW 5 (.ptr h.length 0) (.agg [.int .i64 0,.str [],.af,.af,.str []]) (λz=>k[z]?)=some (az,.set h.length (.cells gC true false)):=λe=>by rw[aL (z2 e)];rfl
  have l2:∀{k:ah},Ext (h++[ak.cells gC true false]) k->ar (some 5) (.ptr h.length 0) (λz=>k[z]?)=some (.agg gC,.au):=λe=>by rw[aA (z2 e)];rfl
  have sq:∀{k:ah},Ext (h++[ak.cells gC true false]) k->k.set h.length (.cells gC true false)=k:=λ{k} e=>by
   have:=z2 e;exact z105
  refine Rs (A8 t0 @bX @Rp @iF @Yr @s2 @sq @l2) ?_;exact⟨Xx,⟨lE,.af,.af⟩,by rw[R7],by rw[R7];rfl,.nil,.nil⟩
 |some d=>
  rw[hd]at lk R7;have Rp:∀{z:AV},_=some (AV.dN [vf d,.bool true],iH.au):=@lk;obtain⟨rs,a,hv,hr,ha,hab⟩:=(hk.k d).ex;rw[hv]at Rp;have hlr:=hr.aM;have c1:=ml d;have c2:=lI d;have c3:=hr.one;have h3:(bM d).length<=3/\cF d<=3:=by cases d<;>decide
  refine Rs (A8 t0 @bX @Rp @Yk @c1 @c2 @c3 @ha) ?_;rw[RL];obtain⟨kb,hkb⟩:∃kb,kb=ak.cells [rs,.int .i64 (cF d:Nat),jY d,pt d,a] true false:=⟨_,rfl⟩;obtain⟨b8,hb8⟩:∃b8,b8=(h++[ak.cells gC true false]++[gQ SY RZ]++[ak.cells [.int .i64 0,.str kd,.af,.af,.str []] true false]++g2).length:=⟨_,rfl⟩;rw[<-hkb,<-hb8];have eh:h++[ak.cells gC true false]++[gQ SY RZ]++[ak.cells [.int .i64 0,.str kd,.af,.af,.str []] true false]++g2++[kb]=A++[gQ SY RZ]++([Cr kd .af .af]++g2++[kb]):=by rw[hA];unfold Cr;simp
  rw[eh];have o:uK A kd b8 kb SY RZ ws2 .af .af [] [] ([Cr kd .af .af]++g2++[kb]):=by
   refine⟨?_,?_,?_,Rm,hwl2,.nil,.nil,λi hi=>(by cases hi),λi hi=>(by cases hi),λi hi=>(by cases hi)⟩
   ·rw[X6 Si];simp
   ·rw[<-eh,hb8,X6 (X8 _),YY];rfl
   ·rw[hb8,hAl];simp only[XS,Yn];omega
  refine Nk T Z (nN:=(bM d).length) (vN:=cF d) hA hkb Om hlr Om o (Sq t0) (Sq t0) ?_ ?_ ?_ ?_ (Sq t0) ?_
  all_goals first|(rw[R7,cC hd];done)|skip
  ·refine Zs t0 ?_;rw[hA];rfl
  ·refine Zs t0 ?_;rw[hA];rfl
  ·refine Zs t0 ?_;rw[hA];rfl
  ·refine Zs t0 ?_;rw[hA];simp
end
def sQ{c s n}(hs:s.length<=n):∀x∈bJ c s,x.length<=n:=λx hx=>YI (sS x hx) hs
theorem rJ{c}:∀{s},(fe c s).1.length<=s.length/\(fe c s).2.1.length<=s.length
 |[]=>⟨X8 _,X8 _⟩
 |x::r=>by
  have ih:=rJ (c:=c) (s:=r);rw[fe];split
  ·simp
  ·simp only[XX];omega
def FF{h G:ah}{X Y:ak}{j:Nat}(hj:j≠h.length):(h++([X]++G))[j]? =(h++([Y]++G))[j]? :=by
 rw[<-XV,<-XV];exact qD hj
section
variable {P:Program}(T:fI P) {h:ah}
include T
def r99(X:CW P)(Z:qq P)(w:Pw h)(s:By)(hsl:s.length<=2^38)(n:Int):ay P 99 [.str s,.i n] h (λv k=>∃x:EV,x.ev=(fP s n).1/\v=.dN [.agg x.row,.i (fP s n).2]/\Fr h.length k x.sn 1 (x.ev.names.map ao)/\Fr h.length k x.sv 1 (x.ev.cE.map aK)):=by
 refine .eG 83 T.mix T.c99 ?_;intro ts hlen t0 t1;unfold fn99;have w1:IntKind.i64.wrap ((s.length:Int)-7)=(s.length:Int)-7:=bw Om Om;have w2:IntKind.i64.wrap ((s.length:Int)-7-1)=(s.length:Int)-8:=by rw[bw Om Om];omega
 have s2:=@Ko h;have l2:=@Kq h;have sq:=@Kp h;have bad:∀{c:Int}{k:ah},fP s n=(lE,c)->Ext h k->(Ext h k/\∃x:EV,x.ev=(fP s n).1/\AV.dN [.agg [.i 0,.str [],.af,.af,.str []],.i c]=.dN [.agg x.row,.i (fP s n).2]/\Fr h.length k x.sn 1 (x.ev.names.map ao)/\Fr h.length k x.sv 1 (x.ev.cE.map aK)):=
  λhe e=>⟨e,⟨lE,.af,.af⟩,by rw[he],by rw[he];rfl,.nil,.nil⟩
 by_cases h8:s.length<8
 ·have d1:decide ((s.length:Int)-8<0)=true:=XZ Om;refine Rs (A8 t0 t1 @w1 @w2 @d1 @s2 @l2 @sq) ?_;exact(bad (by rw[fP,X9 h8]) Xx).2
 have d1:decide ((s.length:Int)-8<0)=false:=XU Om;have ea:(s.length:Int)-8=((s.length-8:Nat):Int):=Om
 rw[ea]at w2 d1;have hlt:s.length-8<s.length:=Om
 have w3:IntKind.i64.wrap (((s.length-8:Nat):Int)+1)=((s.length-7:Nat):Int):=by rw[bw Om Om];omega
 have gd:s.getD (s.length-8) 0=s[s.length-8]:=by rw[YC,XY hlt];rfl
 by_cases hh:s[s.length-8]=35
 case neg=>
  have d2:decide ((s[s.length-8].toNat:Int)≠35)=true:=XZ λe=>hh (UInt8.toNat_inj.1 (by simpa using (by omega:s[s.length-8].toNat=35)))
  repeat (first|simp (config:={maxSteps:=1000000}) only[aQ,aT,ba,bd,reduceAdd,reduceMul,reduceLeDiff,reduceEqDiff,bg,hlen,Yb,Yf,t0,t1,w1,w2,d1,jL hlt,d2,s2,l2,sq]|simp (config:={maxSteps:=1000000}) (disch:=first|(simp only[XS,XX,X1]<;>omega)|rfl|omega|fail) only[eo,aQ,aT,ba,bd,reduceAdd,reduceMul,reduceLeDiff,reduceEqDiff,bg,hlen,Yb,Yf,t0,t1,w1,w2,d1,jL hlt,d2,s2,l2,sq])
  exact(bad (by rw[fP,X5 h8,X9 (.inl (by rw[gd];exact hh))]) Xx).2
 have d2:decide ((s[s.length-8].toNat:Int)≠35)=false:=XU (by rw[hh];decide)
 repeat (first|simp (config:={maxSteps:=1000000}) only[aQ,aT,ba,bd,reduceAdd,reduceMul,reduceLeDiff,reduceEqDiff,bg,hlen,Yb,Yf,t0,t1,w1,w2,d1,jL hlt,d2,w3,kh (show s.length-7<=s.length by omega)]|simp (config:={maxSteps:=1000000}) (disch:=first|(simp only[XS,XX,X1]<;>omega)|rfl|omega|fail) only[eo,aQ,aT,ba,bd,reduceAdd,reduceMul,reduceLeDiff,reduceEqDiff,bg,hlen,Yb,Yf,t0,t1,w1,w2,d1,jL hlt,d2,w3,kh (show s.length-7<=s.length by omega)])
 refine WF.ce T.c189 (r189 T _ (by rw[Z9];omega)) λg1=>?_
 cases hd:rI (s.drop (s.length-7))with
 |false=>
  refine Rs (A7 t0 t1 @hd @Yr @s2 @l2 @sq) ?_;exact(bad (by rw[fP,X5 h8,X9 (.inr (by rw[hd];simp))]) Xx).2
 |true=>
 repeat (first|simp (config:={maxSteps:=1000000}) only[aQ,aT,ba,bd,reduceAdd,reduceMul,reduceLeDiff,reduceEqDiff,bg,hlen,Yb,Yf,t0,t1,hd,Yk,qW (show s.length-8<=s.length by omega)]|simp (config:={maxSteps:=1000000}) (disch:=first|(simp only[XS,XX,X1]<;>omega)|rfl|omega|fail) only[eo,aQ,aT,ba,bd,reduceAdd,reduceMul,reduceLeDiff,reduceEqDiff,bg,hlen,Yb,Yf,t0,t1,hd,Yk,qW (show s.length-8<=s.length by omega)])
 have T0:∀{α:Type}{a b:α},(if s.getD (s.length-8) 0≠35\/¬rI (s.drop (s.length-7))=true then a else b)=b:=λ{_ _ _}=>X5 (by rw[gd,hd];simp[hh])
 refine WF.ce T.c187 (r187 T Z _ (by rw[YQ];omega) (w.ext Xx)) λg2=>?_
 by_cases hc:nG (s.take (s.length-8))=s.drop (s.length-7)
 case neg=>
  have d3:decide (nG (s.take (s.length-8))≠s.drop (s.length-7))=true:=XZ hc
  repeat (first|simp (config:={maxSteps:=1000000}) only[aQ,aT,ba,bd,reduceAdd,reduceMul,reduceLeDiff,reduceEqDiff,bg,hlen,Yb,Yf,t0,t1,w3,kh (show s.length-7<=s.length by omega),d3,s2,l2,sq]|simp (config:={maxSteps:=1000000}) (disch:=first|(simp only[XS,XX,X1]<;>omega)|rfl|omega|fail) only[eo,aQ,aT,ba,bd,reduceAdd,reduceMul,reduceLeDiff,reduceEqDiff,bg,hlen,Yb,Yf,t0,t1,w3,kh (show s.length-7<=s.length by omega),d3,s2,l2,sq])
  exact(bad (by rw[fP,X5 h8,T0,X9 hc]) Xx).2
 have d3:decide (nG (s.take (s.length-8))≠s.drop (s.length-7))=false:=XU (λz=>z hc);have hes:fP s n=if !iM (fe 32 (s.take (s.length-8))).1 || !(eE (bJ 32 (fe 32 (s.take (s.length-8))).2.1)).2||decide (gV { (eE (bJ 32 (fe 32 (s.take (s.length-8))).2.1)).1 with num:=kZ (fe 32 (s.take (s.length-8))).1}≠0)then(lE,25)else({ (eE (bJ 32 (fe 32 (s.take (s.length-8))).2.1)).1 with num:=kZ (fe 32 (s.take (s.length-8))).1},bZ (decide (kZ (fe 32 (s.take (s.length-8))).1≠n)) 11):=(X5 h8).trans (T0.trans (X5 (λz=>z hc)))
 have htl:(s.take (s.length-8)).length<=2^38:=by rw[YQ];omega
 have hcl:=rJ (c:=32) (s:=s.take (s.length-8))
 repeat (first|simp (config:={maxSteps:=1000000}) only[aQ,aT,ba,bd,reduceAdd,reduceMul,reduceLeDiff,reduceEqDiff,bg,hlen,Yb,Yf,t0,t1,w3,kh (show s.length-7<=s.length by omega),d3,qW (show s.length-8<=s.length by omega)]|simp (config:={maxSteps:=1000000}) (disch:=first|(simp only[XS,XX,X1]<;>omega)|rfl|omega|fail) only[eo,aQ,aT,ba,bd,reduceAdd,reduceMul,reduceLeDiff,reduceEqDiff,bg,hlen,Yb,Yf,t0,t1,w3,kh (show s.length-7<=s.length by omega),d3,qW (show s.length-8<=s.length by omega)])
 refine WF.ce T.c98 (r98 T X _ 32 Om) λg3=>?_
 generalize hq1:(fe 32 (s.take (s.length-8))).1=a1 at hes hcl ⊢;generalize hq2:(fe 32 (s.take (s.length-8))).2.1=a2 at hes hcl ⊢;refine Rs (A2 t0 t1) ?_;refine WF.ce T.c190 (r190 T Z a1 Om) λg4=>?_
 refine Rs (A2 t0 t1) ?_;refine WF.res T.c64 (r64 T X a2 32 Om) ?_;intro v g5 hv;refine Rs (A2 t0 t1) ?_;have Sg:=vh (bJ 32 a2);refine WF.res T.c111 (r111 T Z hv (sQ Om)) ?_;rintro _ g6 ⟨x,hx,rfl,fn,fv⟩;have ox:bt _ x:=⟨fn.a8,fv.a8⟩;rw[<-hx]at hes Sg;generalize (eE (bJ 32 a2)).2=fm at hes ⊢;obtain⟨x',QV⟩:∃x':EV,x' =⟨{x.ev with num:=kZ a1},x.sn,x.sv⟩:=⟨_,rfl⟩;have Ry:x'.sn=x.sn:=by rw[QV]
 have hsv:x'.sv=x.sv:=by rw[QV]
 have Uy:x'.ev.names=x.ev.names:=by rw[QV]
 have RE:x'.ev.cE=x.ev.cE:=by rw[QV]
 have hrow:x'.row=x.row.set 0 (.i (kZ a1)):=by rw[QV];rfl
 have hev:({x.ev with num:=kZ a1}:gq)=x'.ev:=by rw[QV]
 rw[hev]at hes;have R2:fP s n=if !iM a1 || !fm||decide (gV x'.ev≠0)then(lE,25)else(x'.ev,bZ (decide (kZ a1≠n)) 11):=hes
 rw[<-Ry,<-Uy]at fn;rw[<-hsv,<-RE]at fv;have VZ:bt _ x':=⟨fn.a8,fv.a8⟩;have st:∀{b':Nat}{a0 a1 a2 a3 a4:AV},kg 5 0 (.agg x.row) b' (.b [a0,a1,a2,a3,a4])=some (az,.set b' (.b x.row)):=λ{_ _ _ _ _ _}=>ox.st
 have kV:∀{b':Nat},kg 1 0 (.i (kZ a1)) b' (.b x.row)=some (az,.set b' (.b x'.row)):=λ{b'}=>by
  rw[hrow];exact bY rfl (by show 0+1<=5;omega)
 cases hdg:iM a1 with
 |false=>
  rw[hdg]at R2;refine Rs (A9 t0 t1 @st @kV @cA @Yr @s2 @l2 @sq) ?_;exact Gw
 |true=>
 cases fm with
 |false=>
  rw[hdg]at R2;refine Rs (o8 t0 t1 @st @kV @cA @Yr @Yk @s2 @l2 @sq) ?_;exact Gw
 |true=>
 rw[hdg]at R2;refine Rs (A7 t0 t1 @st @kV @cA @Yr @Yk) ?_;refine WF.ce T.c67 (r67 T (VZ.ext Xx) ⟨by rw[Uy];omega,by rw[RE];omega⟩) λg7=>?_
 by_cases R9:gV x'.ev=0
 case neg=>
  have d4:decide (gV x'.ev≠0)=true:=XZ R9;rw[d4]at R2;refine Rs (A6 t0 t1 @d4 @s2 @l2 @sq) ?_;exact Gw
 have d4:decide (gV x'.ev≠0)=false:=XU (λz=>z R9);rw[d4]at R2;have key:∀{k:ah}{W:ah},bt W x'->Ext (h++[ak.b [.i 0,.str [],.af,.af,.str []]]) W->Ext W k->aW 5 (.ptr h.length 0) (.agg x'.row) (λz=>k[z]?)=some (az,.set h.length (.b x'.row)):=λo e1 e2=>Kn (o.ext e2) (e1.trans e2)
 have sx:=λ{k:ah}=>@key k _ VZ Xx
 have ly:=@Km h;refine Rs (A4 t0 t1 @d4 @cA) ?_;refine WF.ce T.c85 (r85 T _ _) λg8=>?_
 have fn3:=((fn.app [ak.b x'.row]).app g7).app g8;have fv3:=((fv.app [ak.b x'.row]).app g7).app g8;refine Rs (A4 t0 t1 @sx @ly) ?_;refine⟨Xx,x',by rw[R2];rfl,by rw[R2];rfl,(fn3.aB λj hj=>?_).low ?_,(fv3.aB λj hj=>?_).low ?_⟩
 ·simp only[XV];refine FF λe=>?_
  have:=(fn3.bQ hj).1;simp only[XS,Yn]at this;omega
 ·exact I9
 ·simp only[XV];refine FF λe=>?_
  have:=(fv3.bQ hj).1;simp only[XS,Yn]at this;omega
 ·exact I9
end
end Go.Abs
